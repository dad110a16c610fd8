/- A part of what the last text stands on. -/
import Derived.Test.YtedealljhmokoaaDoorOpenCert
import Derived.Test.YtedealljhmokoaaDoorCopy
import Derived.WalkSpells
import Derived.Test.YtedealljhmokoaaDoorCert
import Derived.Test.YtedealljhmokoaaDoorDig2
import Derived.Shelf.Abstract
import Derived.Shelf.SlSortCmp.WholeK
import Derived.Shelf.SlSortCmp.Whole1
import Derived.Test.YtedealljhmokoaaDoorProg
import Derived.Shelf.SlSortCmp.NoneTotal
import Derived.Test.YtedealljhmokoaaDoorSame
import Derived.Test.YtedealljhmokoaaDoorPlan4
import Derived.Test.YtedealljhmokoaaDoorBatch
import Derived.Test.YtedealljhmokoaaDoorOpenBat
import Derived.Test.YtedealljhmokoaaDoorChg2
import Derived.Test.YtedealljhmokoaaDoorHead2
import Derived.Deep.DeepCutAuto
import Derived.Deep.CutBlock
import Derived.Test.YtedealljhmokoaaDoorStr
import Derived.StringKeys
import Derived.Maps.OwnSet
import Derived.Maps.AppendAt
import Derived.Deep.OwnRows
import Derived.Test.YtedealljhmokoaaDoorOpen2
import Derived.Test.YtedealljhmokoaaDoorLaid
import Derived.Test.YtedealljhmokoaaDoorCards
import Derived.Test.YtedealljhmokoaaDoorTie
import Derived.SevenTiedAt
namespace Go.Proofs.YtedealljhmokoaaDoor
open Go.ChangeShapes Go.WideShapes Go.ChangeAt Go.RowKit
set_option linter.unusedVariables false
/-- the place of the first one; -1: there is none -/
def idxI {α : Type} (p : α → Bool) (l : List α) : Int := match l.findIdx? p with | some i => i | none => -1
theorem idxI_found {α : Type} {p : α → Bool} {l : List α} {k : Nat} (hk : k < l.length) (h : ∀ j (hj : j < l.length), j < k → p l[j] = false) (hp : p l[k] = true) : idxI p l = k := by
  have : l.findIdx? p = some k := by
    rw [List.findIdx?_eq_some_iff_getElem]
    exact ⟨hk, hp, fun j hjk => by simp [h j (by omega) hjk]⟩
  simp [idxI, this]
theorem idxI_none {α : Type} {p : α → Bool} {l : List α} (h : ∀ j (hj : j < l.length), p l[j] = false) : idxI p l = -1 := by
  have : l.findIdx? p = none := by
    rw [List.findIdx?_eq_none_iff]
    intro x hx
    obtain ⟨i, hi, rfl⟩ := List.getElem_of_mem hx
    exact h i hi
  simp [idxI, this]
theorem idxI_cases {α : Type} (p : α → Bool) (l : List α) : (idxI p l = -1 ∧ l.any p = false) ∨ ∃ k : Nat, ∃ hk : k < l.length, idxI p l = k ∧ p l[k] = true ∧ ∀ j (hj : j < l.length), j < k → p l[j] = false := by
  unfold idxI
  split
  · rename_i i hi
    rw [List.findIdx?_eq_some_iff_getElem] at hi
    obtain ⟨h1, h2, h3⟩ := hi
    exact .inr ⟨i, h1, rfl, h2, fun j hj hji => by simpa using h3 j hji⟩
  · rename_i hi
    rw [List.findIdx?_eq_none_iff] at hi
    refine .inl ⟨rfl, ?_⟩
    rw [List.any_eq_false]
    intro x hx
    simp [hi x hx]
theorem idxI_any {α : Type} (p : α → Bool) (l : List α) : decide (0 ≤ idxI p l) = l.any p := by
  rcases idxI_cases p l with ⟨h1, h2⟩ | ⟨k, hk, h1, h2, _⟩
  · rw [h1, h2]; rfl
  · rw [h1]
    have : l.any p = true := List.any_eq_true.2 ⟨_, List.getElem_mem hk, h2⟩
    rw [this]; exact decide_eq_true (by omega)

section
variable (dg : Hdr → List UInt8)
def dsOf (l : List Crt) : List (List UInt8) := l.map fun c => dg c.hdr
def placeI (ds : List (List UInt8)) (d : List UInt8) : Int := idxI (· == d) ds
def isCert (a r : Int) (c : Crt) : Bool := c.hdr.author == a && c.hdr.round == r
def certI (l : List Crt) (a r : Int) : Int := idxI (isCert a r) l
def taken (l : List Crt) (h : Hdr) : Bool := l.any (isCert h.author h.round)
/-- the parent stands there, of another round than that ahead -/
def wrongP (l : List Crt) (ds : List (List UInt8)) (r : Int) (p : List UInt8) : Bool := match l[(placeI ds p).toNat]? with | some c => decide (0 ≤ placeI ds p) && c.hdr.round != r - 1 | none => false
def missW (l : List Crt) (ds : List (List UInt8)) (h : Hdr) : Bool := h.parents.any (wrongP l ds h.round)
def missN (ds : List (List UInt8)) (h : Hdr) : List (List UInt8) := h.parents.filter fun p => decide (placeI ds p < 0)
def parF (l : List Crt) (ds : List (List UInt8)) (h : Hdr) : Int := if missW l ds h then 9 else if (missN ds h).length = 0 then 0 else 8
variable (cF : Crt → Int)
def badC (l : List Crt) (i : Nat) : Bool := match l[i]? with | some c => taken (l.take i) c.hdr || decide (parF (l.take i) ((dsOf dg l).take i) c.hdr ≠ 0) | none => false
def dagF (l : List Crt) : Int := if 400 < l.length then 12 else if l.any (fun c => cF c != 0) then 12 else if (List.range l.length).any (badC dg l) then 12 else 0


def atRound (l : List Crt) (r : Int) : List Crt := (List.range 4).filterMap fun n : Nat => l.find? (isCert n r)
def inRound (l : List Crt) (r : Int) : List Crt := l.filter fun c => c.hdr.round == r
def Lone (l : List Crt) : Prop := l.Pairwise fun x y => ¬ (x.hdr.author = y.hdr.author ∧ x.hdr.round = y.hdr.round)
def Auth (l : List Crt) : Prop := ∀ c ∈ l, 0 ≤ c.hdr.author ∧ c.hdr.author ≤ 3
theorem isCert_iff {a r : Int} {c : Crt} : isCert a r c = true ↔ c.hdr.author = a ∧ c.hdr.round = r := by simp [isCert]
theorem lone_same {l : List Crt} (h : Lone l) {x y : Crt} (hx : x ∈ l) (hy : y ∈ l) (h1 : x.hdr.author = y.hdr.author) (h2 : x.hdr.round = y.hdr.round) : x = y := by
  induction l with
  | nil => cases hx
  | cons c l ih =>
    unfold Lone at h
    rw [List.pairwise_cons] at h
    rcases List.mem_cons.1 hx with rfl | hx' <;> rcases List.mem_cons.1 hy with rfl | hy'
    · rfl
    · exact absurd ⟨h1, h2⟩ (h.1 y hy')
    · exact absurd ⟨h1.symm, h2.symm⟩ (h.1 x hx')
    · exact ih h.2 hx' hy'
theorem mem_atRound {l : List Crt} {r : Int} (hL : Lone l) (hA : Auth l) {c : Crt} : c ∈ atRound l r ↔ c ∈ inRound l r := by
  unfold atRound inRound
  rw [List.mem_filterMap, List.mem_filter]
  constructor
  · rintro ⟨n, _, hf⟩
    have h1 := List.mem_of_find?_eq_some hf
    have h2 := isCert_iff.1 (List.find?_some hf)
    exact ⟨h1, by simp [h2.2]⟩
  · rintro ⟨h1, h2⟩
    have h2 : c.hdr.round = r := by simpa using h2
    have ha := hA c h1
    refine ⟨c.hdr.author.toNat, List.mem_range.2 (by omega), ?_⟩
    have hn : ((c.hdr.author.toNat : Nat) : Int) = c.hdr.author := by omega
    rw [hn]
    cases hf : l.find? (isCert c.hdr.author r) with
    | none =>
      have := List.find?_eq_none.1 hf c h1
      exact absurd (isCert_iff.2 ⟨rfl, h2⟩) (by simpa using this)
    | some d =>
      have k1 := List.mem_of_find?_eq_some hf
      have k2 := isCert_iff.1 (List.find?_some hf)
      rw [lone_same hL k1 h1 k2.1 (by rw [k2.2, h2])]
theorem atRound_sorted (l : List Crt) (r : Int) : (atRound l r).Pairwise fun x y => x.hdr.author < y.hdr.author := by
  unfold atRound
  rw [List.pairwise_filterMap]
  refine List.Pairwise.imp ?_ List.pairwise_lt_range
  intro a b hab x hx y hy
  have h1 := isCert_iff.1 (List.find?_some hx)
  have h2 := isCert_iff.1 (List.find?_some hy)
  rw [h1.1, h2.1]; omega
theorem nodup_of_lt {l : List Crt} (h : l.Pairwise fun x y => x.hdr.author < y.hdr.author) : l.Nodup :=
  h.imp fun {a b} hab e => by rw [e] at hab; omega
theorem nodup_inRound {l : List Crt} (r : Int) (hL : Lone l) : (inRound l r).Nodup := by
  unfold inRound
  have h : l.Nodup := List.Pairwise.imp (fun {a b} hab e => hab (by rw [e]; exact ⟨rfl, rfl⟩)) hL
  exact List.Pairwise.sublist List.filter_sublist h
theorem atRound_perm {l : List Crt} (r : Int) (hL : Lone l) (hA : Auth l) : (atRound l r).Perm (inRound l r) :=
  (List.perm_ext_iff_of_nodup (nodup_of_lt (atRound_sorted l r)) (nodup_inRound r hL)).2 fun _ => mem_atRound hL hA
/-- what is sorted by author of a round's certificates -/
theorem round_sorted {l out : List Crt} {r : Int} (hL : Lone l) (hA : Auth l) (hp : out.Perm (inRound l r)) (hs : out.Pairwise fun x y => x.hdr.author ≤ y.hdr.author) : out = atRound l r := by
  refine List.Perm.eq_of_pairwise (le := fun x y => x.hdr.author ≤ y.hdr.author) (fun a b ha hb h1 h2 => ?_) hs ((atRound_sorted l r).imp fun {a b} h => by omega) (hp.trans (atRound_perm r hL hA).symm)
  have ha' := hp.mem_iff.1 ha
  have hb' := (mem_atRound hL hA).1 hb
  unfold inRound at ha' hb'
  rw [List.mem_filter] at ha' hb'
  exact lone_same hL ha'.1 hb'.1 (by omega) (by have := ha'.2; have := hb'.2; simp at *; omega)
theorem atRound_len {l : List Crt} (r : Int) (hL : Lone l) (hA : Auth l) : (atRound l r).length = (inRound l r).length := (atRound_perm r hL hA).length_eq
theorem atRound_le (l : List Crt) (r : Int) : (atRound l r).length ≤ 4 := by
  unfold atRound
  exact Nat.le_trans (List.length_filterMap_le _ _) (by simp)
/-- a dag that may be has one certificate of an author and a round -/
theorem badC_lone {dg : Hdr → List UInt8} {l : List Crt} (h : ∀ j, j < l.length → badC dg l j = false) : Lone l := by
  unfold Lone
  rw [List.pairwise_iff_getElem]
  intro i j hi hj hij hsame
  have hb := h j hj
  unfold badC at hb
  rw [List.getElem?_eq_getElem hj] at hb
  simp only [Bool.or_eq_false_iff] at hb
  have := hb.1
  unfold taken at this
  rw [List.any_eq_false] at this
  have hm : l[i] ∈ l.take j := by
    rw [List.mem_take_iff_getElem]
    exact ⟨i, by omega, rfl⟩
  exact this _ hm (isCert_iff.2 hsame)
theorem badC_none {dg : Hdr → List UInt8} {l : List Crt} (h : (List.range l.length).any (badC dg l) = false) : ∀ j, j < l.length → badC dg l j = false := fun j hj => by
  rw [List.any_eq_false] at h
  simpa using h j (List.mem_range.2 hj)
theorem dagF_zero {dg : Hdr → List UInt8} {cF : Crt → Int} {l : List Crt} (h : dagF dg cF l = 0) : l.length ≤ 400 ∧ (∀ c ∈ l, cF c = 0) ∧ ∀ j, j < l.length → badC dg l j = false := by
  unfold dagF at h
  split at h
  · cases h
  · split at h
    · cases h
    · split at h
      · cases h
      · rename_i h1 h2 h3
        refine ⟨by omega, fun c hc => ?_, badC_none (by simpa using h3)⟩
        rw [Bool.not_eq_true, List.any_eq_false] at h2
        simpa using h2 c hc
/-- the next round -/
def nextFrom (l : List Crt) : Nat → Int → Int
  | 0, r => r
  | n + 1, r => if 3 ≤ (atRound l r).length then nextFrom l n (r + 1) else r
def nextR (l : List Crt) : Int := nextFrom l (l.length + 1) 1
theorem inRound_pos {l : List Crt} {r : Int} (h : 0 < (inRound l r).length) : ∃ c ∈ l, c.hdr.round = r := by
  obtain ⟨c, hc⟩ := List.exists_mem_of_length_pos h
  unfold inRound at hc
  rw [List.mem_filter] at hc
  exact ⟨c, hc.1, by simpa using hc.2⟩
theorem nextFrom_is {l : List Crt} : ∀ (n : Nat) (r : Int) (k : Nat), k ≤ n → (∀ j : Nat, j < k → 3 ≤ (atRound l (r + j)).length) → nextFrom l n r = nextFrom l (n - k) (r + k)
  | n, r, 0, _, _ => by simp
  | 0, r, k + 1, h, _ => by omega
  | n + 1, r, k + 1, h, hj => by
    have h0 := hj 0 (by omega)
    simp only [Int.ofNat_zero, Int.add_zero] at h0
    rw [nextFrom, if_pos h0, nextFrom_is n (r + 1) k (by omega) (fun j hjk => by have := hj (j + 1) (by omega); rw [show r + ((j + 1 : Nat) : Int) = r + 1 + j by omega] at this; exact this)]
    rw [show n + 1 - (k + 1) = n - k by omega, show r + ((k + 1 : Nat) : Int) = r + 1 + k by omega]
/-- many rounds of three take many certificates -/
theorem rounds_len {l : List Crt} : ∀ (k : Nat) (r : Int), (∀ j : Nat, j < k → 1 ≤ (inRound l (r + j)).length) → k ≤ l.length := by
  intro k
  induction k generalizing l with
  | zero => intro r _; omega
  | succ k ih =>
    intro r h
    obtain ⟨c, hc, hr⟩ := inRound_pos (h k (by omega))
    have hne : c ∈ l := hc
    have hl : (l.filter fun x => x.hdr.round != r + k).length + 1 ≤ l.length := by
      have h1 := List.length_filter_lt_length_iff_exists (p := fun x : Crt => x.hdr.round != r + k) (l := l)
      have := h1.2 ⟨c, hc, by simp [hr]⟩
      omega
    have := ih (l := l.filter fun x => x.hdr.round != r + k) r (fun j hj => by
      have h1 := h j (by omega)
      have e : inRound (l.filter fun x => x.hdr.round != r + k) (r + j) = inRound l (r + j) := by
        unfold inRound
        rw [List.filter_filter]
        refine List.filter_congr fun x _ => ?_
        by_cases hx : x.hdr.round = r + j
        · simp [hx]; omega
        · simp [hx]
      rw [e]; exact h1)
    omega
/-- where a loop over the rounds stops -/
theorem nextR_is {l : List Crt} (hL : Lone l) (hA : Auth l) {k : Nat} (h : ∀ j : Nat, j < k → 3 ≤ (atRound l (1 + j)).length) (hk : (atRound l (1 + k)).length < 3) : nextR l = 1 + k := by
  have hkl : k ≤ l.length := rounds_len k 1 fun j hj => by have := h j hj; rw [atRound_len _ hL hA] at this; omega
  unfold nextR
  rw [nextFrom_is (l.length + 1) 1 k (by omega) h, show l.length + 1 - k = (l.length - k) + 1 by omega, nextFrom, if_neg (by omega)]
end
end Go.Proofs.YtedealljhmokoaaDoor

namespace Go.Proofs.YtedealljhmokoaaDoor
open Go.ChangeShapes Go.WideShapes Go.ChangeAt Go.RowKit
set_option linter.unusedVariables false
section
variable (l : List Crt) (ds : List (List UInt8))
def plc (d : List UInt8) : Nat := (placeI ds d).toNat
def StepH (i j : Nat) : Prop := ∃ c p, l[i]? = some c ∧ p ∈ c.hdr.parents ∧ j = plc ds p
structure GoodD : Prop where
  par : ∀ (i : Nat) (c : Crt), l[i]? = some c → ∀ p ∈ c.hdr.parents, 0 ≤ placeI ds p ∧ plc ds p < i ∧ ∃ c', l[plc ds p]? = some c' ∧ c'.hdr.round = c.hdr.round - 1
  few : ∀ c ∈ l, c.hdr.parents.length ≤ 4
  lone : Lone l
  auth : Auth l
  rnd : ∀ c ∈ l, 1 ≤ c.hdr.round
inductive Rch (k : Nat) : Nat → Prop
  | base : Rch k k
  | step {i j : Nat} : Rch k i → StepH l ds i j → Rch k j
end
section
variable {l : List Crt} {ds : List (List UInt8)} {k : Nat}
theorem placeI_take {ds : List (List UInt8)} {d : List UInt8} {n : Nat} (h : 0 ≤ placeI (ds.take n) d) : placeI ds d = placeI (ds.take n) d ∧ plc ds d < n ∧ plc ds d < ds.length := by
  unfold plc
  rcases idxI_cases (· == d) (ds.take n) with ⟨h1, _⟩ | ⟨i, hi, h1, h2, h3⟩
  · unfold placeI at h; rw [h1] at h; omega
  · have hi' : i < n ∧ i < ds.length := by simp at hi; omega
    have : placeI ds d = i := idxI_found hi'.2 (fun j hj hji => by have := h3 j (by simp; omega) hji; simpa using this) (by simpa using h2)
    have e2 : placeI (ds.take n) d = i := h1
    rw [this, e2]
    exact ⟨rfl, by omega, by omega⟩
theorem Rch.le (hg : GoodD l ds) {i : Nat} (h : Rch l ds k i) : i ≤ k := by
  induction h with
  | base => exact Nat.le_refl _
  | step _ hs ih =>
    obtain ⟨c, p, hc, hp, rfl⟩ := hs
    have := (hg.par _ c hc p hp).2.1
    omega
theorem Rch.round (hg : GoodD l ds) {i : Nat} (h : Rch l ds k i) {ck : Crt} (hk : l[k]? = some ck) : ∃ c, l[i]? = some c ∧ c.hdr.round ≤ ck.hdr.round := by
  induction h with
  | base => exact ⟨ck, hk, Int.le_refl _⟩
  | step _ hs ih =>
    obtain ⟨c, h1, h2⟩ := ih
    obtain ⟨c0, p, hc, hp, rfl⟩ := hs
    rw [h1] at hc
    obtain rfl := Option.some.inj hc
    obtain ⟨_, _, c', h3, h4⟩ := hg.par _ c h1 p hp
    exact ⟨c', h3, by omega⟩
theorem stepH_lt (hg : GoodD l ds) {i j : Nat} (hs : StepH l ds i j) : j < i ∧ i < l.length := by
  obtain ⟨c, p, hc, hp, rfl⟩ := hs
  exact ⟨(hg.par _ c hc p hp).2.1, (List.getElem?_eq_some_iff.1 hc).1⟩
/-- the walk back: what was met, what is still to be looked at -/
structure Dfs (l : List Crt) (ds : List (List UInt8)) (k : Nat) (met : List Nat) (todo : List (List UInt8)) : Prop where
  nod : met.Nodup
  lt : ∀ i ∈ met, i < l.length
  rch : ∀ i ∈ met, Rch l ds k i
  td : ∀ x ∈ todo, 0 ≤ placeI ds x ∧ plc ds x < l.length ∧ Rch l ds k (plc ds x)
  cl : ∀ i ∈ met, ∀ j, StepH l ds i j → j ∈ met ∨ ∃ x ∈ todo, plc ds x = j
  st : k ∈ met ∨ ∃ x ∈ todo, plc ds x = k
theorem Dfs.start {x : List UInt8} (h0 : 0 ≤ placeI ds x) (hk : plc ds x = k) (hl : k < l.length) : Dfs l ds k [] [x] where
  nod := List.nodup_nil
  lt := fun i hi => by cases hi
  rch := fun i hi => by cases hi
  td := fun y hy => by obtain rfl := List.mem_singleton.1 hy; exact ⟨h0, by omega, by rw [hk]; exact .base⟩
  cl := fun i hi => by cases hi
  st := .inr ⟨x, List.mem_singleton.2 rfl, hk⟩
theorem Dfs.skip {met : List Nat} {t : List (List UInt8)} {x : List UInt8} (h : Dfs l ds k met (t ++ [x])) (hm : plc ds x ∈ met) : Dfs l ds k met t where
  nod := h.nod
  lt := h.lt
  rch := h.rch
  td := fun y hy => h.td y (List.mem_append_left _ hy)
  cl := fun i hi j hs => by
    rcases h.cl i hi j hs with h1 | ⟨y, hy, h2⟩
    · exact .inl h1
    · rcases List.mem_append.1 hy with h3 | h3
      · exact .inr ⟨y, h3, h2⟩
      · obtain rfl := List.mem_singleton.1 h3
        exact .inl (by rw [← h2]; exact hm)
  st := by
    rcases h.st with h1 | ⟨y, hy, h2⟩
    · exact .inl h1
    · rcases List.mem_append.1 hy with h3 | h3
      · exact .inr ⟨y, h3, h2⟩
      · obtain rfl := List.mem_singleton.1 h3
        exact .inl (by rw [← h2]; exact hm)
theorem Dfs.new (hg : GoodD l ds) {met : List Nat} {t : List (List UInt8)} {x : List UInt8} {c : Crt} (h : Dfs l ds k met (t ++ [x])) (hm : plc ds x ∉ met) (hc : l[plc ds x]? = some c) : Dfs l ds k (met ++ [plc ds x]) (t ++ c.hdr.parents) := by
  have hx := h.td x (List.mem_append_right _ (List.mem_singleton.2 rfl))
  refine ⟨?_, ?_, ?_, ?_, ?_, ?_⟩
  · rw [List.nodup_append]
    exact ⟨h.nod, by simp, fun a ha b hb e => by obtain rfl := List.mem_singleton.1 hb; subst e; exact hm ha⟩
  · intro i hi
    rcases List.mem_append.1 hi with h1 | h1
    · exact h.lt i h1
    · obtain rfl := List.mem_singleton.1 h1; exact hx.2.1
  · intro i hi
    rcases List.mem_append.1 hi with h1 | h1
    · exact h.rch i h1
    · obtain rfl := List.mem_singleton.1 h1; exact hx.2.2
  · intro y hy
    rcases List.mem_append.1 hy with h1 | h1
    · exact h.td y (List.mem_append_left _ h1)
    · obtain ⟨q1, q2, c', q3, _⟩ := hg.par _ c hc y h1
      exact ⟨q1, (List.getElem?_eq_some_iff.1 q3).1, .step hx.2.2 ⟨c, y, hc, h1, rfl⟩⟩
  · intro i hi j hs
    rcases List.mem_append.1 hi with h1 | h1
    · rcases h.cl i h1 j hs with h2 | ⟨y, hy, h2⟩
      · exact .inl (List.mem_append_left _ h2)
      · rcases List.mem_append.1 hy with h3 | h3
        · exact .inr ⟨y, List.mem_append_left _ h3, h2⟩
        · obtain rfl := List.mem_singleton.1 h3
          exact .inl (List.mem_append_right _ (List.mem_singleton.2 h2.symm))
    · obtain rfl := List.mem_singleton.1 h1
      obtain ⟨c', p, hc', hp, rfl⟩ := hs
      rw [hc] at hc'
      obtain rfl := Option.some.inj hc'
      exact .inr ⟨p, List.mem_append_right _ hp, rfl⟩
  · rcases h.st with h2 | ⟨y, hy, h2⟩
    · exact .inl (List.mem_append_left _ h2)
    · rcases List.mem_append.1 hy with h3 | h3
      · exact .inr ⟨y, List.mem_append_left _ h3, h2⟩
      · obtain rfl := List.mem_singleton.1 h3
        exact .inl (List.mem_append_right _ (List.mem_singleton.2 h2.symm))
theorem Dfs.done {met : List Nat} (h : Dfs l ds k met []) {i : Nat} : i ∈ met ↔ Rch l ds k i := by
  refine ⟨h.rch i, fun hr => ?_⟩
  induction hr with
  | base =>
    rcases h.st with h1 | ⟨y, hy, _⟩
    · exact h1
    · cases hy
  | step _ hs ih =>
    rcases h.cl _ ih _ hs with h1 | ⟨y, hy, _⟩
    · exact h1
    · cases hy
theorem nodup_lt_len : ∀ {n : Nat} {m : List Nat}, m.Nodup → (∀ i ∈ m, i < n) → m.length ≤ n
  | 0, m, _, hl => by
    cases m with
    | nil => exact Nat.le_refl _
    | cons a m => exact absurd (hl a (List.mem_cons_self)) (Nat.not_lt_zero _)
  | n + 1, m, hn, hl => by
    have h1 := nodup_lt_len (n := n) (m := m.erase n) (hn.erase n) (fun i hi => by
      have h2 := (List.Nodup.mem_erase_iff hn).1 hi
      have := hl i h2.2
      omega)
    rw [List.length_erase] at h1
    split at h1 <;> omega
theorem Dfs.len {met : List Nat} {todo : List (List UInt8)} (h : Dfs l ds k met todo) : met.length ≤ l.length := nodup_lt_len h.nod h.lt
/-- the document's marks: those behind i are shut -/
structure Want (l : List Crt) (ds : List (List UInt8)) (k : Nat) (w : List Bool) (i : Nat) : Prop where
  len : w.length = l.length
  rch : ∀ j : Nat, w[j]? = some true → Rch l ds k j
  top : w[k]? = some true
  cl : ∀ m : Nat, i ≤ m → w[m]? = some true → ∀ j, StepH l ds m j → w[j]? = some true
theorem set_true {w : List Bool} {a j : Nat} (h : (w.set a true)[j]? = some true) : w[j]? = some true ∨ (j = a ∧ a < w.length) := by
  rw [List.getElem?_set] at h
  split at h
  · rename_i e
    split at h
    · exact .inr ⟨e.symm, by omega⟩
    · cases h
  · exact .inl h
theorem true_set {w : List Bool} {a j : Nat} (h : w[j]? = some true) : (w.set a true)[j]? = some true := by
  rw [List.getElem?_set]
  split
  · rename_i e
    subst e
    rw [if_pos (List.getElem?_eq_some_iff.1 h).1]
  · exact h
theorem Want.start (hg : GoodD l ds) {n : Nat} (hn : n = l.length) (hk : k < n) : Want l ds k ((List.replicate n false).set k true) n where
  len := by simp [hn]
  rch := fun j h => by
    rcases set_true h with h1 | ⟨h1, _⟩
    · rw [List.getElem?_replicate] at h1; split at h1 <;> cases h1
    · subst h1; exact .base
  top := by rw [List.getElem?_set]; simp [hk]
  cl := fun m hm _ j hs => by have := (stepH_lt hg hs).2; omega
/-- in the midst of one's parents -/
structure WantP (l : List Crt) (ds : List (List UInt8)) (k : Nat) (w : List Bool) (i : Nat) (c : Crt) (p : Nat) : Prop where
  want : Want l ds k w (i + 1)
  at_ : l[i]? = some c
  on : w[i]? = some true
  par : ∀ q (hq : q < c.hdr.parents.length), q < p → w[plc ds c.hdr.parents[q]]? = some true
theorem WantP.start {w : List Bool} {i : Nat} {c : Crt} (h : Want l ds k w (i + 1)) (hc : l[i]? = some c) (hs : w[i]? = some true) : WantP l ds k w i c 0 := ⟨h, hc, hs, fun q _ h => by omega⟩
theorem WantP.next (hg : GoodD l ds) {w : List Bool} {i p : Nat} {c : Crt} (h : WantP l ds k w i c p) (hp : p < c.hdr.parents.length) : WantP l ds k (w.set (plc ds c.hdr.parents[p]) true) i c (p + 1) := by
  have hlt := (hg.par i c h.at_ _ (List.getElem_mem hp)).2.1
  have hil : i < l.length := (List.getElem?_eq_some_iff.1 h.at_).1
  refine ⟨⟨by simp [h.want.len], fun j hj => ?_, true_set h.want.top, fun m hm hw j hs => ?_⟩, h.at_, true_set h.on, fun q hq hqp => ?_⟩
  · rcases set_true hj with h1 | ⟨rfl, _⟩
    · exact h.want.rch j h1
    · exact .step (h.want.rch i h.on) ⟨c, _, h.at_, List.getElem_mem hp, rfl⟩
  · rcases set_true hw with h1 | ⟨rfl, _⟩
    · exact true_set (h.want.cl m hm h1 j hs)
    · omega
  · by_cases e : q = p
    · subst e
      rw [List.getElem?_set]
      rw [if_pos rfl, if_pos (by have := h.want.len; omega)]
    · exact true_set (h.par q hq (by omega))
theorem WantP.done {w : List Bool} {i p : Nat} {c : Crt} (h : WantP l ds k w i c p) (hp : c.hdr.parents.length ≤ p) : Want l ds k w i := by
  refine ⟨h.want.len, h.want.rch, h.want.top, fun m hm hw j hs => ?_⟩
  by_cases e : m = i
  · subst e
    obtain ⟨c', q, hc', hq, rfl⟩ := hs
    rw [h.at_] at hc'
    obtain rfl := Option.some.inj hc'
    obtain ⟨n, hn, rfl⟩ := List.getElem_of_mem hq
    exact h.par n hn (by omega)
  · exact h.want.cl m (by omega) hw j hs
theorem Want.not {w : List Bool} {i : Nat} (h : Want l ds k w (i + 1)) (hs : w[i]? ≠ some true) : Want l ds k w i :=
  ⟨h.len, h.rch, h.top, fun m hm hw j hs' => by
    by_cases e : m = i
    · subst e; exact absurd hw hs
    · exact h.cl m (by omega) hw j hs'⟩
theorem Want.done {w : List Bool} (h : Want l ds k w 0) {i : Nat} : w[i]? = some true ↔ Rch l ds k i := by
  refine ⟨h.rch i, fun hr => ?_⟩
  induction hr with
  | base => exact h.top
  | step _ hs ih => exact h.cl _ (Nat.zero_le _) ih _ hs
/-- ahead of one another: by rounds, then by authors -/
def aheadH (l : List Crt) (i j : Nat) : Prop := ∃ a b, l[i]? = some a ∧ l[j]? = some b ∧ (a.hdr.round < b.hdr.round ∨ a.hdr.round = b.hdr.round ∧ a.hdr.author < b.hdr.author)
def pickH (l : List Crt) (w : List Bool) (r : Int) (n : Nat) : Option Nat := if 0 ≤ certI l n r ∧ w[(certI l n r).toNat]? = some true then some (certI l n r).toNat else none
def rowH (l : List Crt) (w : List Bool) (r : Int) : List Nat := (List.range 4).filterMap (pickH l w r)
def docH (l : List Crt) (w : List Bool) (top : Nat) : List Nat := (List.range top).flatMap fun r : Nat => rowH l w (1 + r)
theorem pickH_some {w : List Bool} {r : Int} {n i : Nat} (h : pickH l w r n = some i) : ∃ c, l[i]? = some c ∧ c.hdr.author = n ∧ c.hdr.round = r ∧ w[i]? = some true := by
  unfold pickH at h
  split at h
  · rename_i hh
    obtain rfl := Option.some.inj h
    rcases idxI_cases (isCert n r) l with ⟨h1, _⟩ | ⟨j, hj, h1, h2, _⟩
    · have : certI l n r = -1 := h1
      omega
    · have e : certI l n r = j := h1
      rw [e] at hh ⊢
      have := isCert_iff.1 h2
      exact ⟨l[j], by simp [hj], this.1, this.2, by simpa using hh.2⟩
  · cases h
theorem lone_index {l : List Crt} (h : Lone l) {i j : Nat} {a b : Crt} (hi : l[i]? = some a) (hj : l[j]? = some b) (h1 : a.hdr.author = b.hdr.author) (h2 : a.hdr.round = b.hdr.round) : i = j := by
  unfold Lone at h
  rw [List.pairwise_iff_getElem] at h
  obtain ⟨hi1, hi2⟩ := List.getElem?_eq_some_iff.1 hi
  obtain ⟨hj1, hj2⟩ := List.getElem?_eq_some_iff.1 hj
  subst hi2 hj2
  rcases Nat.lt_trichotomy i j with h3 | h3 | h3
  · exact absurd ⟨h1, h2⟩ (h i j hi1 hj1 h3)
  · exact h3
  · exact absurd ⟨h1.symm, h2.symm⟩ (h j i hj1 hi1 h3)
theorem pickH_of (hL : Lone l) {w : List Bool} {n i : Nat} {c : Crt} (hc : l[i]? = some c) (ha : c.hdr.author = n) (hw : w[i]? = some true) : pickH l w c.hdr.round n = some i := by
  obtain ⟨hi1, hi2⟩ := List.getElem?_eq_some_iff.1 hc
  have e : certI l n c.hdr.round = i := by
    rcases idxI_cases (isCert n c.hdr.round) l with ⟨_, h2⟩ | ⟨j, hj, h1, h2, _⟩
    · rw [List.any_eq_false] at h2
      exact absurd (isCert_iff.2 ⟨by rw [hi2]; exact ha, by rw [hi2]⟩) (h2 _ (List.getElem_mem hi1))
    · have h2 := isCert_iff.1 h2
      have : j = i := lone_index hL (show l[j]? = some l[j] by simp [hj]) hc (by rw [h2.1, ha]) h2.2
      rw [← this]; exact h1
  unfold pickH
  rw [e]
  exact if_pos ⟨by omega, by simpa using hw⟩
theorem mem_docH (hg : GoodD l ds) {w : List Bool} {top : Nat} (hw : ∀ (i : Nat) (c : Crt), w[i]? = some true → l[i]? = some c → c.hdr.round ≤ top) (hlen : w.length = l.length) {i : Nat} : i ∈ docH l w top ↔ w[i]? = some true := by
  unfold docH rowH
  rw [List.mem_flatMap]
  constructor
  · rintro ⟨r, _, hm⟩
    obtain ⟨n, _, hp⟩ := List.mem_filterMap.1 hm
    exact (pickH_some hp).choose_spec.2.2.2
  · intro h
    have hi : i < l.length := by have := (List.getElem?_eq_some_iff.1 h).1; omega
    have hc : l[i]? = some l[i] := by simp [hi]
    have ha := hg.auth _ (List.getElem_mem hi)
    have hr := hg.rnd _ (List.getElem_mem hi)
    have ht := hw i _ h hc
    refine ⟨(l[i].hdr.round - 1).toNat, List.mem_range.2 (by omega), List.mem_filterMap.2 ⟨l[i].hdr.author.toNat, List.mem_range.2 (by omega), ?_⟩⟩
    have := pickH_of hg.lone (n := l[i].hdr.author.toNat) hc (by omega) h
    rw [show (1 : Int) + ((l[i].hdr.round - 1).toNat : Nat) = l[i].hdr.round by omega]
    exact this
theorem docH_sorted {w : List Bool} {top : Nat} : (docH l w top).Pairwise (aheadH l) := by
  unfold docH
  rw [List.pairwise_flatMap]
  refine ⟨fun r _ => ?_, ?_⟩
  · unfold rowH
    rw [List.pairwise_filterMap]
    refine List.Pairwise.imp ?_ List.pairwise_lt_range
    intro a b hab x hx y hy
    obtain ⟨c, h1, h2, h3, _⟩ := pickH_some hx
    obtain ⟨c', k1, k2, k3, _⟩ := pickH_some hy
    exact ⟨c, c', h1, k1, .inr ⟨by rw [h3, k3], by omega⟩⟩
  · refine List.Pairwise.imp ?_ List.pairwise_lt_range
    intro a b hab x hx y hy
    obtain ⟨n, _, hp⟩ := List.mem_filterMap.1 hx
    obtain ⟨n', _, hp'⟩ := List.mem_filterMap.1 hy
    obtain ⟨c, h1, h2, h3, _⟩ := pickH_some hp
    obtain ⟨c', k1, k2, k3, _⟩ := pickH_some hp'
    exact ⟨c, c', h1, k1, .inl (by omega)⟩
theorem aheadH_irrefl {i : Nat} : ¬ aheadH l i i := by
  rintro ⟨a, b, h1, h2, h3⟩
  rw [h1] at h2
  obtain rfl := Option.some.inj h2
  omega
theorem nodup_ahead {m : List Nat} (h : m.Pairwise (aheadH l)) : m.Nodup := h.imp fun {a b} hab e => by subst e; exact aheadH_irrefl hab
/-- the same ones in the same order -/
theorem hist_is (hg : GoodD l ds) {w : List Bool} {top : Nat} {met out : List Nat} (hw : Want l ds k w 0) (htop : ∀ (i : Nat) (c : Crt), w[i]? = some true → l[i]? = some c → c.hdr.round ≤ top)
    (hm : Dfs l ds k met []) (hp : out.Perm ((List.range l.length).filter fun i => decide (i ∈ met))) (hs : out.Pairwise fun i j => ¬ aheadH l j i) : out = docH l w top := by
  have hmem : ∀ i, i ∈ out ↔ w[i]? = some true := fun i => by
    rw [hp.mem_iff, List.mem_filter, hw.done, ← hm.done]
    simp
    exact hm.lt i
  have hnd : out.Nodup := by
    rw [hp.nodup_iff]
    exact List.Pairwise.sublist List.filter_sublist List.nodup_range
  have hpd : out.Perm (docH l w top) := (List.perm_ext_iff_of_nodup hnd (nodup_ahead docH_sorted)).2 fun i => by rw [hmem, mem_docH hg htop hw.len]
  refine List.Perm.eq_of_pairwise (le := fun i j => ¬ aheadH l j i) (fun a b ha hb h1 h2 => ?_) hs (docH_sorted.imp fun {a b} h h' => ?_) hpd
  · have ha' := (hmem a).1 ha
    have hb' := (mem_docH hg htop hw.len).1 hb
    have hla : a < l.length := by have := (List.getElem?_eq_some_iff.1 ha').1; have := hw.len; omega
    have hlb : b < l.length := by have := (List.getElem?_eq_some_iff.1 hb').1; have := hw.len; omega
    have ea : l[a]? = some l[a] := by simp [hla]
    have eb : l[b]? = some l[b] := by simp [hlb]
    by_cases e1 : l[a].hdr.round = l[b].hdr.round
    · by_cases e2 : l[a].hdr.author = l[b].hdr.author
      · exact lone_index hg.lone ea eb e2 e1
      · by_cases e3 : l[a].hdr.author < l[b].hdr.author
        · exact absurd ⟨_, _, ea, eb, .inr ⟨e1, e3⟩⟩ h2
        · exact absurd ⟨_, _, eb, ea, .inr ⟨e1.symm, by omega⟩⟩ h1
    · by_cases e3 : l[a].hdr.round < l[b].hdr.round
      · exact absurd ⟨_, _, ea, eb, .inl e3⟩ h2
      · exact absurd ⟨_, _, eb, ea, .inl (by omega)⟩ h1
  · obtain ⟨x, y, h1, h2, h3⟩ := h
    obtain ⟨x', y', k1, k2, k3⟩ := h'
    rw [h1] at k2
    rw [h2] at k1
    obtain rfl := Option.some.inj k1
    obtain rfl := Option.some.inj k2
    omega
theorem goodD_of {dg : Hdr → List UInt8} {cF : Crt → Int} {l : List Crt} (h : dagF dg cF l = 0) (hA : Auth l) (hr : ∀ c ∈ l, 1 ≤ c.hdr.round) (hf : ∀ c ∈ l, c.hdr.parents.length ≤ 4) : GoodD l (dsOf dg l) := by
  obtain ⟨_, _, hb⟩ := dagF_zero h
  refine ⟨fun i c hc p hp => ?_, hf, badC_lone hb, hA, hr⟩
  obtain ⟨hi, rfl⟩ := List.getElem?_eq_some_iff.1 hc
  have hbi := hb i hi
  unfold badC at hbi
  rw [hc] at hbi
  simp only [Bool.or_eq_false_iff, decide_eq_false_iff_not, Decidable.not_not] at hbi
  have hpar := hbi.2
  unfold parF at hpar
  split at hpar
  · cases hpar
  · rename_i hmw
    split at hpar
    · rename_i hmn
      have h0 : 0 ≤ placeI ((dsOf dg l).take i) p := by
        have hn := List.eq_nil_of_length_eq_zero hmn
        unfold missN at hn
        rw [List.filter_eq_nil_iff] at hn
        have := hn p hp
        simp at this
        exact this
      obtain ⟨e1, e2, e3⟩ := placeI_take h0
      have e3' : plc (dsOf dg l) p < l.length := by unfold dsOf at e3 ⊢; simpa using e3
      refine ⟨by rw [e1]; exact h0, e2, l[plc (dsOf dg l) p], by simp [e3'], ?_⟩
      have hw : wrongP (l.take i) ((dsOf dg l).take i) l[i].hdr.round p = false := by
        unfold missW at hmw
        rw [Bool.not_eq_true, List.any_eq_false] at hmw
        simpa using hmw p hp
      unfold wrongP at hw
      rw [← e1] at hw
      have hget : (l.take i)[(placeI (dsOf dg l) p).toNat]? = some l[plc (dsOf dg l) p] := by
        unfold plc at e2 e3' ⊢
        rw [List.getElem?_take, if_pos e2]
        simp [e3']
      rw [hget] at hw
      simp only [Bool.and_eq_false_iff, decide_eq_false_iff_not, bne_eq_false_iff_eq] at hw
      rcases hw with hw | hw
      · rw [e1] at hw; exact absurd h0 hw
      · exact hw
    · cases hpar
end
end Go.Proofs.YtedealljhmokoaaDoor

namespace Go.Proofs.YtedealljhmokoaaDoor
open Go.ChangeShapes Go.WideShapes Go.ChangeAt Go.RowKit
set_option linter.unusedVariables false
set_option linter.unusedSimpArgs false
set_option maxHeartbeats 2000000 in
set_option maxRecDepth 100000 in
theorem idxDigs_any (g : Nat) (lb : Array Value) (p : List UInt8 → Bool) (eg : ∀ args w, (callFunc g args).run Tryd.prog w = .ok (.enter g args) w) (vl : Value) (l : List (List UInt8)) (w : World) (hl : RDigs w.cell? vl l)
    (hp : ∀ (W : World) (d : Value) (x : List UInt8), Below w.heap.size w W → RBytes W.cell? d x → Calls Tryd.prog g (#[d] ++ lb) W fun e w' => e = .returned (.bool (p x)) ∧ Below W.heap.size W w') :
    Calls Tryd.prog 120 #[vl, .func (.func g) #[] lb] w fun e w' => e = .returned (.int .i64 (idxI p l)) ∧ Below w.heap.size w w' := by
  obtain ⟨A, c, rfl, hform⟩ := id hl
  clear hform
  obtain ⟨_, hn1, hn2, hel⟩ := hl.at
  have Hel := Lib.hid hel
  have Hp := Lib.hid hp
  clear hl hel hp
  go_enter Tryd.func120, Tryd.ntmps120
  go_wp2
  go_loopw [8] (fun i wr => ∃ k : Nat, k ≤ l.length ∧ i = .int .i64 k ∧ Hid (∀ j (hj : j < l.length), j < k → p l[j] = false) ∧ Below w.heap.size w wr) (fun i _ => l.length - (intOf i).toNat)
  case atStart => exact ⟨0, Nat.zero_le _, rfl, fun j _ hj => by omega, Below.refl _ _⟩
  case round =>
    obtain ⟨k, hk, rfl, hno, hbl⟩ := hrel
    by_cases hlt : k < l.length
    · obtain ⟨b0, o0, d, rfl, q0, hd⟩ := Hel.out k hlt
      have c0 := vle_below hbl _ _ q0
      have hR : Hid (RBytes wr.cell? d l[k]) := hd.mono (vle_below hbl)
      clear q0
      go_wp2_with fail
      refine (Hp.out _ d l[k] hbl hR.out).mono ?_
      rintro e w1 ⟨rfl, hb'⟩
      have hbl1 := hbl.trans (hb'.mono hbl.size)
      clear hR hb' c0
      cases e1 : p l[k]
      · have Hb := Lib.hid e1
        clear e1
        go_wp2
        go_roundw
        case rel => exact ⟨k + 1, by omega, by go_num, fun j hj hjk => by
          by_cases e : j = k
          · subst e; exact Hb.out
          · exact hno.out j hj (by omega), hbl1⟩
        case measure => simp [intOf]; omega
      · have Hb := Lib.hid e1
        clear e1
        go_wp2
        go_ret
        exact ⟨ret_int (idxI_found hlt hno.out Hb.out).symm, hbl1⟩
    · go_wp2
      go_ret
      exact ⟨ret_int (idxI_none fun j hj => hno.out j hj (by omega)).symm, hbl⟩
set_option maxHeartbeats 2000000 in
set_option maxRecDepth 100000 in
theorem hasDigs_any (g : Nat) (lb : Array Value) (p : List UInt8 → Bool) (eg : ∀ args w, (callFunc g args).run Tryd.prog w = .ok (.enter g args) w) (vl : Value) (l : List (List UInt8)) (w : World) (hl : RDigs w.cell? vl l)
    (hp : ∀ (W : World) (d : Value) (x : List UInt8), Below w.heap.size w W → RBytes W.cell? d x → Calls Tryd.prog g (#[d] ++ lb) W fun e w' => e = .returned (.bool (p x)) ∧ Below W.heap.size W w') :
    Calls Tryd.prog 132 #[vl, .func (.func g) #[] lb] w fun e w' => e = .returned (.bool (l.any p)) ∧ Below w.heap.size w w' := by
  have Hp := Lib.hid hp
  clear hp
  rw [← idxI_any p l]
  obtain ⟨i, hi⟩ : ∃ i, Hid (idxI p l = i) := ⟨_, rfl⟩
  rw [hi.out]
  go_enter Tryd.func132, Tryd.ntmps132
  go_wp2_with fail
  refine (idxDigs_any g lb p eg vl l _ hl Hp.out).mono ?_
  rintro e w1 ⟨rfl, hb⟩
  rw [hi.out]
  clear hi hl
  by_cases h0 : 0 ≤ i
  · have Hq : Hid (decide (0 ≤ i) = true) := decide_eq_true h0
    go_wp2
    go_ret
    exact ⟨ret_bool Hq.out.symm, hb⟩
  · have Hq : Hid (decide (0 ≤ i) = false) := decide_eq_false h0
    go_wp2
    go_ret
    exact ⟨ret_bool (by rw [Hq.out]), hb⟩
end Go.Proofs.YtedealljhmokoaaDoor

namespace Go.Proofs.YtedealljhmokoaaDoor
open Go.ChangeShapes Go.WideShapes Go.ChangeAt Go.RowKit
set_option linter.unusedVariables false
abbrev RCrts := RSl 5 RCrt 88
abbrev OwnCrts := OwnSl 5 RCrt 60
theorem elemCrt : Elem Tryd.prog 51 60 5 88 := elemN (z := .agg #[.int .i64 0, .int .i64 0, .slice none 0 0, .slice none 0 0, .slice none 0 0]) Tryd.underlying51 (by kernel_rfl) rfl (by decide)
theorem RCrts.at {h : View} {A : Option Addr} {n c : Nat} {xs : List Crt} (hr : RCrts h (.slice A n c) xs) : n = xs.length ∧ n ≤ c ∧ n * 88 ≤ 140737488355328 ∧ ∀ k (hk : k < xs.length), ∃ b o vb vp vv, A = some ⟨b, o, none⟩ ∧ h ⟨b, o + k * 5, none⟩ = some (.int .i64 xs[k].hdr.author) ∧ h ⟨b, o + k * 5 + 1, none⟩ = some (.int .i64 xs[k].hdr.round) ∧ h ⟨b, o + k * 5 + 2, none⟩ = some vb ∧ h ⟨b, o + k * 5 + 3, none⟩ = some vp ∧ h ⟨b, o + k * 5 + 4, none⟩ = some vv ∧ RDigs h vb xs[k].hdr.batches ∧ RDigs h vp xs[k].hdr.parents ∧ RIs h vv xs[k].voters := by
  obtain ⟨A', c', e, h1, _, h2, _, h3⟩ := hr
  injection e with e1 e2 e3
  subst e1 e2 e3
  refine ⟨rfl, h1, h2, fun k hk => ?_⟩
  obtain ⟨b, o, ea, hc⟩ := h3 (by omega)
  obtain ⟨cs, hl, hcell, vb, vp, vv, rfl, q1, q2, q3⟩ := hc k hk
  exact ⟨b, o, vb, vp, vv, ea, hcell 0 (by omega), hcell 1 (by omega), hcell 2 (by omega), hcell 3 (by omega), hcell 4 (by omega), q1, q2, q3⟩
end Go.Proofs.YtedealljhmokoaaDoor

namespace Go.Proofs.YtedealljhmokoaaDoor
open Go.ChangeShapes Go.WideShapes Go.ChangeAt Go.RowKit
set_option linter.unusedVariables false
set_option linter.unusedSimpArgs false
set_option maxHeartbeats 2000000 in
set_option maxRecDepth 100000 in
theorem idxCrts_any (g : Nat) (lb : Array Value) (p : Crt → Bool) (eg : ∀ args w, (callFunc g args).run Tryd.prog w = .ok (.enter g args) w) (vl : Value) (l : List (Crt)) (w : World) (hl : RCrts w.cell? vl l)
    (hp : ∀ (W : World) (cs : List Value) (x : Crt), Below w.heap.size w W → RCrt W.cell? cs x → Calls Tryd.prog g (#[.agg cs.toArray] ++ lb) W fun e w' => e = .returned (.bool (p x)) ∧ Below W.heap.size W w') :
    Calls Tryd.prog 134 #[vl, .func (.func g) #[] lb] w fun e w' => e = .returned (.int .i64 (idxI p l)) ∧ Below w.heap.size w w' := by
  obtain ⟨A, c, rfl, hform⟩ := id hl
  clear hform
  obtain ⟨_, hn1, hn2, hel⟩ := hl.at
  have Hel := Lib.hid hel
  have Hp := Lib.hid hp
  clear hl hel hp
  go_enter Tryd.func134, Tryd.ntmps134
  go_wp2
  go_loopw [8] (fun i wr => ∃ k : Nat, k ≤ l.length ∧ i = .int .i64 k ∧ Hid (∀ j (hj : j < l.length), j < k → p l[j] = false) ∧ Below w.heap.size w wr) (fun i _ => l.length - (intOf i).toNat)
  case atStart => exact ⟨0, Nat.zero_le _, rfl, fun j _ hj => by omega, Below.refl _ _⟩
  case round =>
    obtain ⟨k, hk, rfl, hno, hbl⟩ := hrel
    by_cases hlt : k < l.length
    · obtain ⟨b0, o0, vb, vp, vv, rfl, q0, q1, q2, q3, q4, hb, hp, hv⟩ := Hel.out k hlt
      have c0 := vle_below hbl _ _ q0
      have c1 := vle_below hbl _ _ q1
      have c2 := vle_below hbl _ _ q2
      have c3 := vle_below hbl _ _ q3
      have c4 := vle_below hbl _ _ q4
      have hR : Hid (RCrt wr.cell? [.int .i64 l[k].hdr.author, .int .i64 l[k].hdr.round, vb, vp, vv] l[k]) := ⟨vb, vp, vv, rfl, hb.mono RDig.mono (vle_below hbl), hp.mono RDig.mono (vle_below hbl), hv.mono (vle_below hbl)⟩
      clear q0 q1 q2 q3 q4
      go_wp2_with fail
      refine (Hp.out _ [.int .i64 l[k].hdr.author, .int .i64 l[k].hdr.round, vb, vp, vv] l[k] hbl hR.out).mono ?_
      rintro e w1 ⟨rfl, hb'⟩
      have hbl1 := hbl.trans (hb'.mono hbl.size)
      clear hR hb' c0 c1 c2 c3 c4
      cases e1 : p l[k]
      · have Hb := Lib.hid e1
        clear e1
        go_wp2
        go_roundw
        case rel => exact ⟨k + 1, by omega, by go_num, fun j hj hjk => by
          by_cases e : j = k
          · subst e; exact Hb.out
          · exact hno.out j hj (by omega), hbl1⟩
        case measure => simp [intOf]; omega
      · have Hb := Lib.hid e1
        clear e1
        go_wp2
        go_ret
        exact ⟨ret_int (idxI_found hlt hno.out Hb.out).symm, hbl1⟩
    · go_wp2
      go_ret
      exact ⟨ret_int (idxI_none fun j hj => hno.out j hj (by omega)).symm, hbl⟩
set_option maxHeartbeats 2000000 in
set_option maxRecDepth 100000 in
theorem hasCrts_any (g : Nat) (lb : Array Value) (p : Crt → Bool) (eg : ∀ args w, (callFunc g args).run Tryd.prog w = .ok (.enter g args) w) (vl : Value) (l : List (Crt)) (w : World) (hl : RCrts w.cell? vl l)
    (hp : ∀ (W : World) (cs : List Value) (x : Crt), Below w.heap.size w W → RCrt W.cell? cs x → Calls Tryd.prog g (#[.agg cs.toArray] ++ lb) W fun e w' => e = .returned (.bool (p x)) ∧ Below W.heap.size W w') :
    Calls Tryd.prog 114 #[vl, .func (.func g) #[] lb] w fun e w' => e = .returned (.bool (l.any p)) ∧ Below w.heap.size w w' := by
  have Hp := Lib.hid hp
  clear hp
  rw [← idxI_any p l]
  obtain ⟨i, hi⟩ : ∃ i, Hid (idxI p l = i) := ⟨_, rfl⟩
  rw [hi.out]
  go_enter Tryd.func114, Tryd.ntmps114
  go_wp2_with fail
  refine (idxCrts_any g lb p eg vl l _ hl Hp.out).mono ?_
  rintro e w1 ⟨rfl, hb⟩
  rw [hi.out]
  clear hi hl
  by_cases h0 : 0 ≤ i
  · have Hq : Hid (decide (0 ≤ i) = true) := decide_eq_true h0
    go_wp2
    go_ret
    exact ⟨ret_bool Hq.out.symm, hb⟩
  · have Hq : Hid (decide (0 ≤ i) = false) := decide_eq_false h0
    go_wp2
    go_ret
    exact ⟨ret_bool (by rw [Hq.out]), hb⟩
end Go.Proofs.YtedealljhmokoaaDoor

namespace Go.Proofs.YtedealljhmokoaaDoor
open Go.ChangeShapes Go.WideShapes Go.ChangeAt Go.RowKit
set_option linter.unusedVariables false
/-- a slice of no room, just made -/
theorem OwnVec.made {α : Type} (enc : α → Value) (e : TypeId) (w : World) (base : Nat) (h : base ≤ w.heap.size) : OwnVec enc e (w.alloc (.cells #[] e)) base (.slice (some ⟨w.heap.size, 0, none⟩) 0 0) [] :=
  ⟨World.ownsRow_made w #[] 0 h (Nat.zero_le _) rfl⟩
theorem RVec.isNil {α : Type} {enc : α → Value} {bs : Nat} {h : View} {n c : Nat} {xs : List α} (hr : RVec enc bs h (.slice none n c) xs) : xs = [] ∧ n = 0 ∧ c = 0 := by
  obtain ⟨A', c', e, h1, _, _, h4, _⟩ := hr
  injection e with e1 e2 e3
  have hc := h4 e1.symm
  have : xs.length = 0 := by omega
  exact ⟨List.eq_nil_of_length_eq_zero this, by omega, by omega⟩
set_option maxHeartbeats 1000000 in
set_option maxRecDepth 100000 in
theorem cloneB_any (v : Value) (xs : List UInt8) (w : World) (hr : RBytes w.cell? v xs) :
    Calls Tryd.prog 67 #[v] w fun e w' => ∃ v', e = .returned v' ∧ Below w.heap.size w w' ∧ OwnB w' w.heap.size v' xs := by
  have hb : xs.length ≤ 140737488355328 := by obtain ⟨A, c, _, _, _, h, _⟩ := hr; omega
  have hb1 := Lib.hid hb
  obtain ⟨A, c, rfl, _⟩ := id hr
  have e1 := @Lib.run_eql_slice_nil Tryd.prog
  clear hb
  cases A with
  | none =>
    obtain ⟨rfl, h1, rfl⟩ := hr.isNil
    go_enter Tryd.func67, Tryd.ntmps67
    go_wp2
    go_ret
    exact ⟨_, rfl, Below.refl _ _, OwnVec.nil _ _ _ _⟩
  | some a =>
    have hr' := hr.mono (vle_below ((Below.refl _ _).alloc (Nat.le_refl _) (.cells #[] 5)))
    clear hr
    go_enter Tryd.func67, Tryd.ntmps67
    go_wp2_with (at_builtin; refine wpList_append_vec (n := 140737488355328) elemByte encB_one _ _ rfl rfl rfl (OwnVec.made _ _ _ _ (Nat.le_refl _)) ((Below.refl _ _).alloc (Nat.le_refl _) _) (le_alloc _ (Nat.le_refl _)) rfl hr' (Nat.le_refl _) (by simpa using hb1.out) (by simpa using hb1.out) ?_)
    intro v' w1 ho hbl _
    go_wp2
    go_ret
    exact ⟨v', rfl, hbl, by simpa using ho⟩
end Go.Proofs.YtedealljhmokoaaDoor

namespace Go.Proofs.YtedealljhmokoaaDoor
open Go.ChangeShapes Go.WideShapes Go.ChangeAt Go.RowKit
set_option linter.unusedVariables false
def votAt (vs : List Int) (i : Nat) : Int := match vs[i]? with
  | some v => if inB v 0 3 then (match i with | 0 => 0 | j + 1 => match vs[j]? with | some u => if v ≤ u then 9 else 0 | none => 0) else 2
  | none => 0
def certF (a r : Int) (b p : List (List UInt8)) (vs : List Int) : Int :=
  if headF a r b p ≠ 0 then headF a r b p else if 4 < vs.length then 1 else if firstF (votAt vs) vs.length ≠ 0 then firstF (votAt vs) vs.length else if vs.length < 3 then 10 else 0
theorem votAt_range {vs : List Int} {k : Nat} (hk : k < vs.length) (h : inB vs[k] 0 3 = false) : votAt vs k = 2 := by unfold votAt; simp [hk, h]
theorem votAt_first {vs : List Int} (hk : 0 < vs.length) (h : inB vs[0] 0 3 = true) : votAt vs 0 = 0 := by unfold votAt; simp [hk, h]
theorem votAt_next {vs : List Int} {k : Nat} (hk : k + 1 < vs.length) (h : inB vs[k + 1] 0 3 = true) : votAt vs (k + 1) = if vs[k + 1] ≤ vs[k] then 9 else 0 := by
  unfold votAt
  have : k < vs.length := by omega
  simp [hk, h, this]
set_option maxHeartbeats 2000000 in
set_option maxRecDepth 100000 in
theorem certFault_any (a r : Int) (vb vp vv : Value) (b p : List (List UInt8)) (vs : List Int) (w : World) (hb : RDigs w.cell? vb b) (hp : RDigs w.cell? vp p) (hv : RIs w.cell? vv vs) :
    Calls Tryd.prog 77 #[.agg #[.int .i64 a, .int .i64 r, vb, vp, vv]] w fun e w' => e = .returned (.int .i64 (certF a r b p vs)) ∧ Below w.heap.size w w' := by
  obtain ⟨vA, vc, rfl, _⟩ := id hv
  obtain ⟨_, hvcap, hvlen, hvel⟩ := hv.at
  have Hvel := Lib.hid hvel
  clear hvel hv
  obtain ⟨E, hE⟩ : ∃ E, Hid (headF a r b p = E) := ⟨_, rfl⟩
  obtain ⟨Q, hQ⟩ : ∃ Q, Hid (certF a r b p vs = Q) := ⟨_, rfl⟩
  obtain ⟨V, hV⟩ : ∃ V, Hid (firstF (votAt vs) vs.length = V) := ⟨_, rfl⟩
  have hq : Hid (Q = if E ≠ 0 then E else if 4 < vs.length then 1 else if V ≠ 0 then V else if vs.length < 3 then 10 else 0) := by show _ = _; rw [← hQ.out, ← hE.out, ← hV.out]; rfl
  rw [hQ.out]
  go_enter Tryd.func77, Tryd.ntmps77
  go_wp2_with fail
  refine one_block _ _ _ (fun W => Calls Tryd.prog _ _ W _) (fun W hk1 hsz hbl => ?_)
  refine (headerFault_any a r vb vp b p _ (hb.mono RDig.mono (vle_below hbl)) (hp.mono RDig.mono (vle_below hbl))).mono ?_
  rintro e w1 ⟨rfl, hb1⟩
  rw [hE.out]
  have hbl1 := hbl.trans (hb1.mono hbl.size)
  have hk2 := hk1.kept hb1
  clear hbl hb1 hk1
  have c4 := hk2.cell 4
  simp at c4
  by_cases hE0 : E = 0
  · subst hE0
    by_cases h4 : 4 < vs.length
    · have HQ : Hid (Q = 1) := by show _ = _; rw [hq.out, if_neg (by omega), if_pos h4]
      clear hq
      go_wp2
      go_loopw [3, 4] (fun e i wr => e = .int .i64 1 ∧ i = .int .i64 0 ∧ Below w1.heap.size w1 wr) (fun _ _ _ => 0)
      case atStart => exact ⟨rfl, rfl, Below.refl _ _⟩
      case round =>
        obtain ⟨rfl, rfl, hbl⟩ := hrel
        have c4 := vle_below hbl _ _ c4
        go_wp2
        all_goals
          go_ret
          exact ⟨ret_int HQ.out.symm, hbl1.trans (hbl.mono hbl1.size)⟩
    · have HQ : Hid (Q = if V ≠ 0 then V else if vs.length < 3 then 10 else 0) := by show _ = _; rw [hq.out, if_neg (by omega), if_neg h4]
      clear hq
      go_wp2
      go_loopw [3, 4] (fun e i wr => ∃ (k : Nat) (E1 : Int), k ≤ vs.length ∧ e = .int .i64 E1 ∧ i = .int .i64 k ∧ Hid ((E1 = 0 ∧ ∀ j, j < k → votAt vs j = 0) ∨ (E1 ≠ 0 ∧ V = E1)) ∧ Below w1.heap.size w1 wr) (fun _ i _ => vs.length - (intOf i).toNat)
      case atStart => exact ⟨0, 0, Nat.zero_le _, rfl, rfl, .inl ⟨rfl, fun j hj => by omega⟩, Below.refl _ _⟩
      case round =>
        obtain ⟨k, E1, hk, rfl, rfl, hok, hbl⟩ := hrel
        have c4 := vle_below hbl _ _ c4
        by_cases hE1 : E1 = 0
        · subst hE1
          have hok' : Hid (∀ j, j < k → votAt vs j = 0) := by
            rcases hok.out with h | h
            · exact h.2
            · exact absurd rfl h.1
          clear hok
          by_cases hlt : k < vs.length
          · obtain ⟨b0, o0, rfl, hcell'⟩ := Hvel.out k hlt
            have hc1 := vle_below hbl _ _ (vle_below hbl1 _ _ hcell')
            clear hcell'
            cases hin : inB vs[k] 0 3
            · have Hat := Lib.hid (votAt_range hlt hin)
              go_wp2_with (first | (go_at_call 87; refine (in_any _ _ _ _).mono ?_; rintro e w' ⟨rfl, rfl⟩) | fail)
              go_roundw
              case rel => exact ⟨k + 1, 2, by omega, rfl, by go_num, .inr ⟨by decide, hV.out.symm.trans (firstF_found hlt hok'.out Hat.out (by decide))⟩, hbl⟩
              case measure => simp [intOf]; omega
            · cases k with
              | zero =>
                have Hat := Lib.hid (votAt_first hlt hin)
                rw [Nat.add_zero] at hc1
                generalize vs[0] = x at hc1 hin
                go_wp2_with (first | (go_at_call 87; refine (in_any _ _ _ _).mono ?_; rintro e w' ⟨rfl, rfl⟩) | fail)
                refine wp_region_pl (fun w' => Below wr.heap.size wr w') [] (.q 0 (.q 1 (.q 2 (.q 3 (.q 4 (.q 5 (.q 6 (.q 7 (.q 8 (.q 9 (.q 10 (.q 11 (.q 12 (.q 13 (.q 14 (.q 15 .nil)))))))))))))))) (by kernel_rfl) (by kernel_rfl) (fun _ _ d _ _ h => by cases d <;> exact h) rfl (by kernel_rfl) ?_ ?_
                · exact below_drew _
                intro W1 hS
                repeat (first
                  | (refine pl_q (by assumption) rfl rfl ?_; apply Exists.intro; refine ⟨fun w' hS => ?_, ?_⟩; (· (have h1 := vle_below hS _ _ c4; go_simp; exact rfl)); simp only [List.getElem_toArray, List.getElem_cons_zero, List.getElem_cons_succ, Act.put, List.setIfInBounds_toArray, List.set_cons_zero, List.set_cons_succ])
                  | (refine pl_qc rfl rfl ?_; apply Exists.intro; refine ⟨fun w' _ => ?_, ?_⟩; (· (go_simp; exact rfl)); simp only [List.getElem_toArray, List.getElem_cons_zero, List.getElem_cons_succ, Act.put, List.setIfInBounds_toArray, List.set_cons_zero, List.set_cons_succ])
                  | (refine pl_skip (by assumption) rfl rfl ?_; simp only [List.getElem_toArray, List.getElem_cons_zero, List.getElem_cons_succ, Act.put, List.setIfInBounds_toArray, List.set_cons_zero, List.set_cons_succ])
                  | (refine pl_skipl (by assumption) rfl rfl ?_; simp only [List.getElem_toArray, List.getElem_cons_zero, List.getElem_cons_succ, Act.put, List.setIfInBounds_toArray, List.set_cons_zero, List.set_cons_succ]))
                refine pl_nil ?_
                go_wp2
                go_roundw
                case rel => exact ⟨1, 0, by omega, rfl, rfl, .inl ⟨rfl, zero_succ hok'.out Hat.out⟩, hbl.trans (hS.mono hbl.size)⟩
                case measure => simp [intOf]; omega
              | succ k =>
                have Hat := Lib.hid (votAt_next hlt hin)
                obtain ⟨b1, o1, e1, hcell'⟩ := Hvel.out k (by omega)
                injection e1 with e1
                injection e1 with e1 e2 e3
                subst e1 e2
                have hc2 := vle_below hbl _ _ (vle_below hbl1 _ _ hcell')
                clear hcell'
                generalize vs[k + 1] = x at hc1 hin Hat
                generalize vs[k] = y at hc2 Hat
                have q1 : IntKind.i64.wrap (((k + 1 : Nat) : Int) - 1) = (k : Nat) := by rw [IntKind.wrap_i64]; omega
                have q2 : (0 : Int) < ((k + 1 : Nat) : Int) := by omega
                obtain ⟨k1, hk1⟩ : ∃ k1, Hid (k + 1 = k1) := ⟨_, rfl⟩
                have hk1' := hk1.out
                rw [hk1.out] at hc1 hlt hk q1 q2 ⊢
                have q3 : 0 < k1 := by omega
                have q4 : k < vs.length := by omega
                have q5 : (k : Int) < vs.length := by omega
                by_cases hxy : x ≤ y
                · have Hat' : Hid (votAt vs (k + 1) = 9) := Hat.out.trans (if_pos hxy)
                  clear Hat
                  go_wp2_with (first | (go_at_call 87; refine (in_any _ _ _ _).mono ?_; rintro e w' ⟨rfl, rfl⟩) | fail)
                  refine wp_region_pl (fun w' => Below wr.heap.size wr w') [] (.q 0 (.q 1 (.q 2 (.q 3 (.q 4 (.q 5 (.q 6 (.q 7 (.q 8 (.q 9 (.q 10 (.q 11 (.q 12 (.q 13 (.q 14 (.q 15 .nil)))))))))))))))) (by kernel_rfl) (by kernel_rfl) (fun _ _ d _ _ h => by cases d <;> exact h) rfl (by kernel_rfl) ?_ ?_
                  · exact below_drew _
                  intro W1 hS
                  repeat (first
                    | (refine pl_q (by assumption) rfl rfl ?_; apply Exists.intro; refine ⟨fun w' hS => ?_, ?_⟩; (· (have h1 := vle_below hS _ _ c4; have h2 := vle_below hS _ _ hc1; have h3 := vle_below hS _ _ hc2; go_simp; exact rfl)); simp only [List.getElem_toArray, List.getElem_cons_zero, List.getElem_cons_succ, Act.put, List.setIfInBounds_toArray, List.set_cons_zero, List.set_cons_succ])
                    | (refine pl_qc rfl rfl ?_; apply Exists.intro; refine ⟨fun w' _ => ?_, ?_⟩; (· (go_simp; exact rfl)); simp only [List.getElem_toArray, List.getElem_cons_zero, List.getElem_cons_succ, Act.put, List.setIfInBounds_toArray, List.set_cons_zero, List.set_cons_succ])
                    | (refine pl_skip (by assumption) rfl rfl ?_; simp only [List.getElem_toArray, List.getElem_cons_zero, List.getElem_cons_succ, Act.put, List.setIfInBounds_toArray, List.set_cons_zero, List.set_cons_succ])
                    | (refine pl_skipl (by assumption) rfl rfl ?_; simp only [List.getElem_toArray, List.getElem_cons_zero, List.getElem_cons_succ, Act.put, List.setIfInBounds_toArray, List.set_cons_zero, List.set_cons_succ]))
                  refine pl_nil ?_
                  go_wp2
                  go_roundw
                  case rel => exact ⟨k1 + 1, 9, by omega, rfl, by go_num, .inr ⟨by decide, hV.out.symm.trans (firstF_found hlt (hk1.out ▸ hok'.out) (hk1.out ▸ Hat'.out) (by decide))⟩, hbl.trans (hS.mono hbl.size)⟩
                  case measure => simp [intOf]; omega
                · have Hat' : Hid (votAt vs (k + 1) = 0) := Hat.out.trans (if_neg hxy)
                  clear Hat
                  go_wp2_with (first | (go_at_call 87; refine (in_any _ _ _ _).mono ?_; rintro e w' ⟨rfl, rfl⟩) | fail)
                  refine wp_region_pl (fun w' => Below wr.heap.size wr w') [] (.q 0 (.q 1 (.q 2 (.q 3 (.q 4 (.q 5 (.q 6 (.q 7 (.q 8 (.q 9 (.q 10 (.q 11 (.q 12 (.q 13 (.q 14 (.q 15 .nil)))))))))))))))) (by kernel_rfl) (by kernel_rfl) (fun _ _ d _ _ h => by cases d <;> exact h) rfl (by kernel_rfl) ?_ ?_
                  · exact below_drew _
                  intro W1 hS
                  repeat (first
                    | (refine pl_q (by assumption) rfl rfl ?_; apply Exists.intro; refine ⟨fun w' hS => ?_, ?_⟩; (· (have h1 := vle_below hS _ _ c4; have h2 := vle_below hS _ _ hc1; have h3 := vle_below hS _ _ hc2; go_simp; exact rfl)); simp only [List.getElem_toArray, List.getElem_cons_zero, List.getElem_cons_succ, Act.put, List.setIfInBounds_toArray, List.set_cons_zero, List.set_cons_succ])
                    | (refine pl_qc rfl rfl ?_; apply Exists.intro; refine ⟨fun w' _ => ?_, ?_⟩; (· (go_simp; exact rfl)); simp only [List.getElem_toArray, List.getElem_cons_zero, List.getElem_cons_succ, Act.put, List.setIfInBounds_toArray, List.set_cons_zero, List.set_cons_succ])
                    | (refine pl_skip (by assumption) rfl rfl ?_; simp only [List.getElem_toArray, List.getElem_cons_zero, List.getElem_cons_succ, Act.put, List.setIfInBounds_toArray, List.set_cons_zero, List.set_cons_succ])
                    | (refine pl_skipl (by assumption) rfl rfl ?_; simp only [List.getElem_toArray, List.getElem_cons_zero, List.getElem_cons_succ, Act.put, List.setIfInBounds_toArray, List.set_cons_zero, List.set_cons_succ]))
                  refine pl_nil ?_
                  go_wp2
                  go_roundw
                  case rel => exact ⟨k1 + 1, 0, by omega, rfl, by go_num, .inl ⟨rfl, hk1.out ▸ zero_succ (hk1.out ▸ hok'.out) Hat'.out⟩, hbl.trans (hS.mono hbl.size)⟩
                  case measure => simp [intOf]; omega
          · have HQ' : Hid (Q = if vs.length < 3 then 10 else 0) := by
              show _ = _
              rw [HQ.out, if_neg (by rw [← hV.out, firstF_none fun j hj => hok'.out j (by omega)]; decide)]
            clear HQ hok'
            by_cases h3 : vs.length < 3
            · have HQ : Hid (Q = 10) := HQ'.out.trans (if_pos h3)
              clear HQ'
              go_wp2
              go_ret
              exact ⟨ret_int HQ.out.symm, hbl1.trans (hbl.mono hbl1.size)⟩
            · have HQ : Hid (Q = 0) := HQ'.out.trans (if_neg h3)
              clear HQ'
              go_wp2
              go_ret
              exact ⟨ret_int HQ.out.symm, hbl1.trans (hbl.mono hbl1.size)⟩
        · have HQ' : Hid (Q = E1) := by
            show _ = _
            rcases hok.out with h | h
            · exact absurd h.1 hE1
            · rw [HQ.out, h.2, if_pos hE1]
          clear HQ hok
          go_wp2
          all_goals
            go_ret
            exact ⟨ret_int HQ'.out.symm, hbl1.trans (hbl.mono hbl1.size)⟩
  · have HQ : Hid (Q = E) := by show _ = _; rw [hq.out, if_pos hE0]
    clear hq
    go_wp2
    go_loopw [3, 4] (fun e i wr => e = .int .i64 E ∧ i = .int .i64 0 ∧ Below w1.heap.size w1 wr) (fun _ _ _ => 0)
    case atStart => exact ⟨rfl, rfl, Below.refl _ _⟩
    case round =>
      obtain ⟨rfl, rfl, hbl⟩ := hrel
      have c4 := vle_below hbl _ _ c4
      go_wp2
      all_goals
        go_ret
        exact ⟨ret_int HQ.out.symm, hbl1.trans (hbl.mono hbl1.size)⟩
set_option maxHeartbeats 2000000 in
set_option maxRecDepth 100000 in
theorem checkCert_any (a r : Int) (vb vp vv : Value) (b p : List (List UInt8)) (vs : List Int) (w : World) (hb : RDigs w.cell? vb b) (hp : RDigs w.cell? vp p) (hv : RIs w.cell? vv vs) :
    Calls Tryd.prog 73 #[.agg #[.int .i64 a, .int .i64 r, vb, vp, vv]] w fun e w' => e = .returned (.int .i64 (certF a r b p vs)) ∧ Below w.heap.size w w' := by
  obtain ⟨vA, vc, rfl, _⟩ := id hv
  obtain ⟨_, hvcap, hvlen, hvel⟩ := hv.at
  have Hvel := Lib.hid hvel
  clear hvel hv
  obtain ⟨E, hE⟩ : ∃ E, Hid (headF a r b p = E) := ⟨_, rfl⟩
  obtain ⟨Q, hQ⟩ : ∃ Q, Hid (certF a r b p vs = Q) := ⟨_, rfl⟩
  obtain ⟨V, hV⟩ : ∃ V, Hid (firstF (votAt vs) vs.length = V) := ⟨_, rfl⟩
  have hq : Hid (Q = if E ≠ 0 then E else if 4 < vs.length then 1 else if V ≠ 0 then V else if vs.length < 3 then 10 else 0) := by show _ = _; rw [← hQ.out, ← hE.out, ← hV.out]; rfl
  rw [hQ.out]
  go_enter Tryd.func73, Tryd.ntmps73
  go_wp2_with fail
  refine one_block _ _ _ (fun W => Calls Tryd.prog _ _ W _) (fun W hk1 hsz hbl => ?_)
  refine (checkHeader_any a r vb vp b p _ (hb.mono RDig.mono (vle_below hbl)) (hp.mono RDig.mono (vle_below hbl))).mono ?_
  rintro e w1 ⟨rfl, hb1⟩
  rw [hE.out]
  have hbl1 := hbl.trans (hb1.mono hbl.size)
  have hk2 := hk1.kept hb1
  clear hbl hb1 hk1
  have c4 := hk2.cell 4
  simp at c4
  by_cases hE0 : E = 0
  · subst hE0
    by_cases h4 : 4 < vs.length
    · have HQ : Hid (Q = 1) := by show _ = _; rw [hq.out, if_neg (by omega), if_pos h4]
      clear hq
      go_wp2
      go_ret
      exact ⟨ret_int HQ.out.symm, hbl1⟩
    · have HQ : Hid (Q = if V ≠ 0 then V else if vs.length < 3 then 10 else 0) := by show _ = _; rw [hq.out, if_neg (by omega), if_neg h4]
      clear hq
      go_wp2
      go_loopw [19] (fun i wr => ∃ k : Nat, k ≤ vs.length ∧ i = .int .i64 k ∧ Hid (∀ j, j < k → votAt vs j = 0) ∧ Below w1.heap.size w1 wr) (fun i _ => vs.length - (intOf i).toNat)
      case atStart => exact ⟨0, Nat.zero_le _, rfl, fun j hj => by omega, Below.refl _ _⟩
      case round =>
        obtain ⟨k, hk, rfl, hok, hbl⟩ := hrel
        have c4 := vle_below hbl _ _ c4
        by_cases hlt : k < vs.length
        · obtain ⟨b0, o0, rfl, hcell'⟩ := Hvel.out k hlt
          have hc1 := vle_below hbl _ _ (vle_below hbl1 _ _ hcell')
          clear hcell'
          cases hin : inB vs[k] 0 3
          · have HQ' : Hid (Q = 2) := by
              show _ = _
              have := hV.out.symm.trans (firstF_found hlt hok.out (votAt_range hlt hin) (by decide))
              rw [HQ.out, this]; rfl
            clear HQ
            go_wp2_with (first | (go_at_call 100; refine (node_any _ _).mono ?_; rintro e w' ⟨rfl, rfl⟩) | fail)
            go_ret
            exact ⟨ret_int HQ'.out.symm, hbl1.trans (hbl.mono hbl1.size)⟩
          · cases k with
            | zero =>
              have Hat := Lib.hid (votAt_first hlt hin)
              rw [Nat.add_zero] at hc1
              generalize vs[0] = x at hc1 hin
              go_wp2_with (first | (go_at_call 100; refine (node_any _ _).mono ?_; rintro e w' ⟨rfl, rfl⟩) | fail)
              go_roundw
              case rel => exact ⟨1, by omega, rfl, zero_succ hok.out Hat.out, hbl⟩
              case measure => simp [intOf]; omega
            | succ k =>
              have Hat := Lib.hid (votAt_next hlt hin)
              obtain ⟨b1, o1, e1, hcell'⟩ := Hvel.out k (by omega)
              injection e1 with e1
              injection e1 with e1 e2 e3
              subst e1 e2
              have hc2 := vle_below hbl _ _ (vle_below hbl1 _ _ hcell')
              clear hcell'
              generalize vs[k + 1] = x at hc1 hin Hat
              generalize vs[k] = y at hc2 Hat
              have q1 : IntKind.i64.wrap (((k + 1 : Nat) : Int) - 1) = (k : Nat) := by rw [IntKind.wrap_i64]; omega
              have q2 : (0 : Int) < ((k + 1 : Nat) : Int) := by omega
              obtain ⟨k1, hk1⟩ : ∃ k1, Hid (k + 1 = k1) := ⟨_, rfl⟩
              have hk1' := hk1.out
              rw [hk1.out] at hc1 hlt hk q1 q2 ⊢
              have q3 : 0 < k1 := by omega
              have q4 : k < vs.length := by omega
              have q5 : (k : Int) < vs.length := by omega
              by_cases hxy : x ≤ y
              · have HQ' : Hid (Q = 9) := by
                  show _ = _
                  have := hV.out.symm.trans (firstF_found hlt (hk1.out ▸ hok.out) (hk1.out ▸ Hat.out.trans (if_pos hxy)) (by decide))
                  rw [HQ.out, this]; rfl
                clear HQ Hat
                go_wp2_with (first | (go_at_call 100; refine (node_any _ _).mono ?_; rintro e w' ⟨rfl, rfl⟩) | fail)
                go_ret
                exact ⟨ret_int HQ'.out.symm, hbl1.trans (hbl.mono hbl1.size)⟩
              · have Hat' : Hid (votAt vs (k + 1) = 0) := Hat.out.trans (if_neg hxy)
                clear Hat
                go_wp2_with (first | (go_at_call 100; refine (node_any _ _).mono ?_; rintro e w' ⟨rfl, rfl⟩) | fail)
                go_roundw
                case rel => exact ⟨k1 + 1, by omega, by go_num, hk1.out ▸ zero_succ (hk1.out ▸ hok.out) Hat'.out, hbl⟩
                case measure => simp [intOf]; omega
        · have HQ' : Hid (Q = if vs.length < 3 then 10 else 0) := by
            show _ = _
            rw [HQ.out, if_neg (by rw [← hV.out, firstF_none fun j hj => hok.out j (by omega)]; decide)]
          clear HQ
          by_cases h3 : vs.length < 3
          · have HQ : Hid (Q = 10) := HQ'.out.trans (if_pos h3)
            clear HQ'
            go_wp2
            go_ret
            exact ⟨ret_int HQ.out.symm, hbl1.trans (hbl.mono hbl1.size)⟩
          · have HQ : Hid (Q = 0) := HQ'.out.trans (if_neg h3)
            clear HQ'
            go_wp2
            go_ret
            exact ⟨ret_int HQ.out.symm, hbl1.trans (hbl.mono hbl1.size)⟩
  · have HQ : Hid (Q = E) := by show _ = _; rw [hq.out, if_pos hE0]
    clear hq
    go_wp2
    go_ret
    exact ⟨ret_int HQ.out.symm, hbl1⟩
end Go.Proofs.YtedealljhmokoaaDoor

namespace Go.Proofs.YtedealljhmokoaaDoor
open Go.ChangeShapes Go.WideShapes Go.ChangeAt Go.RowKit
set_option linter.unusedVariables false
set_option linter.unusedSimpArgs false
def hD (h : Hdr) : List UInt8 := hdrD h.author h.round h.batches h.parents
def hF (h : Hdr) : Int := headF h.author h.round h.batches h.parents
def cF (c : Crt) : Int := certF c.hdr.author c.hdr.round c.hdr.batches c.hdr.parents c.voters
theorem cF_hF {c : Crt} (h : cF c = 0) : hF c.hdr = 0 := by
  unfold cF certF at h
  unfold hF
  split at h
  · rename_i h1; exact absurd h h1
  · rename_i h1; exact Classical.not_not.1 h1
theorem enters_of_func {P : Program} {f : FuncId} {fn : Func} (hf : P.funcs[f]? = some fn) (hn : (fn.name == "runtime.NumGoroutine") = false) {c : Code} (hb : fn.body = some c) : ∀ args w, (callFunc f args).run P w = .ok (.enter f args) w := enters_of hf hn hb
set_option maxHeartbeats 1000000 in
set_option maxRecDepth 100000 in
theorem placeOf_any (vl : Value) (l : List (List UInt8)) (vd : Value) (d : List UInt8) (w : World) (hl : RDigs w.cell? vl l) (hd : RBytes w.cell? vd d) :
    Calls Tryd.prog 59 #[vl, vd] w fun e w' => e = .returned (.int .i64 (placeI l d)) ∧ Below w.heap.size w w' := by
  obtain ⟨A, c, rfl, hform⟩ := id hl
  clear hform
  obtain ⟨_, hn1, hn2, hel⟩ := hl.at
  have Hel := Lib.hid hel
  have Hd := Lib.hid hd
  clear hl hel hd
  go_enter Tryd.func59, Tryd.ntmps59
  go_wp2
  go_loopw [5] (fun i wr => ∃ k : Nat, k ≤ l.length ∧ i = .int .i64 k ∧ Hid (∀ j (hj : j < l.length), j < k → (l[j] == d) = false) ∧ Below w.heap.size w wr) (fun i _ => l.length - (intOf i).toNat)
  case atStart => exact ⟨0, Nat.zero_le _, rfl, fun j _ hj => by omega, Below.refl _ _⟩
  case round =>
    obtain ⟨k, hk, rfl, hno, hbl⟩ := hrel
    by_cases hlt : k < l.length
    · obtain ⟨b0, o0, y, rfl, q0, hy⟩ := Hel.out k hlt
      have c0 := vle_below hbl _ _ q0
      have hy' := Lib.hid (hy.mono (vle_below hbl))
      clear q0 hy
      go_wp2_with fail
      refine (sameBytes_any _ _ l[k] d _ hy'.out (Hd.out.mono (vle_below hbl))).mono ?_
      rintro e w1 ⟨rfl, rfl⟩
      clear hy' c0
      cases e1 : (l[k] == d)
      · have Hb := Lib.hid e1
        clear e1
        go_wp2
        go_roundw
        case rel => exact ⟨k + 1, by omega, by go_num, fun j hj hjk => by
          by_cases e : j = k
          · subst e; exact Hb.out
          · exact hno.out j hj (by omega), hbl⟩
        case measure => simp [intOf]; omega
      · have Hb := Lib.hid e1
        clear e1
        go_wp2
        go_ret
        exact ⟨ret_int (idxI_found hlt hno.out Hb.out).symm, hbl⟩
    · go_wp2
      go_ret
      exact ⟨ret_int (idxI_none fun j hj => hno.out j hj (by omega)).symm, hbl⟩
set_option maxHeartbeats 1000000 in
set_option maxRecDepth 100000 in
theorem atFn_any (d x : Value) (y ds : List UInt8) (g : Nat) (w : World) (hc : w.cell? ⟨g, 0, none⟩ = some x) (hd : RBytes w.cell? d y) (hx : RBytes w.cell? x ds) :
    Calls Tryd.prog 121 (#[d] ++ #[.pointer (some ⟨g, 0, none⟩)]) w fun e w' => e = .returned (.bool (y == ds)) ∧ Below w.heap.size w w' := by
  show Calls Tryd.prog 121 #[d, .pointer (some ⟨g, 0, none⟩)] w _
  go_enter Tryd.func121, Tryd.ntmps121
  go_wp2_with fail
  refine (bytesEqual_any _ _ y ds _ hd hx).mono ?_
  rintro e w' ⟨rfl, rfl⟩
  go_wp2
  go_ret
  exact ⟨rfl, Below.refl _ _⟩
set_option maxHeartbeats 1000000 in
set_option maxRecDepth 100000 in
theorem at_any (vl : Value) (l : List (List UInt8)) (vd : Value) (d : List UInt8) (w : World) (hl : RDigs w.cell? vl l) (hd : RBytes w.cell? vd d) :
    Calls Tryd.prog 90 #[vl, vd] w fun e w' => e = .returned (.int .i64 (placeI l d)) ∧ Below w.heap.size w w' := by
  obtain ⟨A, c, rfl, hform⟩ := id hl
  obtain ⟨B, c', rfl, hform'⟩ := id hd
  clear hform hform'
  have hbb := below_one w (.cells #[.slice B d.length c'] 25)
  have hdb := hd.mono (vle_below hbb)
  have hlb := hl.mono RDig.mono (vle_below hbb)
  have hcb := (Blk.new w 25 #[.slice B d.length c']).cell 0
  go_enter Tryd.func90, Tryd.ntmps90
  go_wp2_with fail
  refine (idxDigs_any 121 #[.pointer (some ⟨w.heap.size, 0, none⟩)] (· == d) (enters_of_func Tryd.func121 (by kernel_rfl) rfl) _ l _ hlb (fun W x y hW hx => atFn_any x _ y d _ W (vle_below hW _ _ hcb) hx (hdb.mono (vle_below hW)))).mono ?_
  rintro e w1 ⟨rfl, hb1⟩
  have hbl := hbb.trans (hb1.mono hbb.size)
  have e1 : idxI (· == d) l = placeI l d := rfl
  rw [e1]
  obtain ⟨i, hi⟩ : ∃ i, Hid (placeI l d = i) := ⟨_, rfl⟩
  clear hdb hlb hcb hd hl
  go_wp2
  go_ret
  exact ⟨rfl, hbl⟩
end Go.Proofs.YtedealljhmokoaaDoor

namespace Go.Proofs.YtedealljhmokoaaDoor
open Go.ChangeShapes Go.WideShapes Go.ChangeAt Go.RowKit
set_option linter.unusedVariables false
set_option linter.unusedSimpArgs false
set_option maxHeartbeats 2000000 in
set_option maxRecDepth 100000 in
theorem certOf_any (vl : Value) (l : List Crt) (a r : Int) (w : World) (hl : RCrts w.cell? vl l) :
    Calls Tryd.prog 79 #[vl, .int .i64 a, .int .i64 r] w fun e w' => e = .returned (.int .i64 (certI l a r)) ∧ Below w.heap.size w w' := by
  obtain ⟨A, c, rfl, hform⟩ := id hl
  clear hform
  obtain ⟨_, hn1, hn2, hel⟩ := hl.at
  have Hel := Lib.hid hel
  clear hl hel
  go_enter Tryd.func79, Tryd.ntmps79
  go_wp2
  go_loopw [7] (fun i wr => ∃ k : Nat, k ≤ l.length ∧ i = .int .i64 k ∧ Hid (∀ j (hj : j < l.length), j < k → isCert a r l[j] = false) ∧ Below w.heap.size w wr) (fun i _ => l.length - (intOf i).toNat)
  case atStart => exact ⟨0, Nat.zero_le _, rfl, fun j _ hj => by omega, Below.refl _ _⟩
  case round =>
    obtain ⟨k, hk, rfl, hno, hbl⟩ := hrel
    by_cases hlt : k < l.length
    · obtain ⟨b0, o0, vb, vp, vv, rfl, q0, q1, _, _, _, _⟩ := Hel.out k hlt
      have c0 := vle_below hbl _ _ q0
      have c1 := vle_below hbl _ _ q1
      have He : ∀ q, (l[k].hdr.author == a && l[k].hdr.round == r) = q → Hid (isCert a r l[k] = q) := fun q h => h
      generalize l[k].hdr.author = x at c0 He
      generalize l[k].hdr.round = y at c1 He
      clear q0 q1
      have miss : ∀ (hq : Hid (isCert a r l[k] = false)), Hid (∀ j (hj : j < l.length), j < k + 1 → isCert a r l[j] = false) := fun hq j hj hjk => by
        by_cases e : j = k
        · subst e; exact hq.out
        · exact hno.out j hj (by omega)
      by_cases h1 : x = a
      · by_cases h2 : y = r
        · have Hb := He true (by simp [h1, h2])
          clear He miss
          subst h1 h2
          go_wp2
          go_ret
          exact ⟨ret_int (idxI_found hlt hno.out Hb.out).symm, hbl⟩
        · have Hb := miss (He false (by simp [h2]))
          clear He miss
          subst h1
          go_wp2
          go_roundw
          case rel => exact ⟨k + 1, by omega, by go_num, Hb, hbl⟩
          case measure => simp [intOf]; omega
      · have Hb := miss (He false (by simp [h1]))
        clear He miss
        go_wp2
        go_roundw
        case rel => exact ⟨k + 1, by omega, by go_num, Hb, hbl⟩
        case measure => simp [intOf]; omega
    · go_wp2
      go_ret
      exact ⟨ret_int (idxI_none fun j hj => hno.out j hj (by omega)).symm, hbl⟩
set_option maxHeartbeats 2000000 in
set_option maxRecDepth 100000 in
theorem takenFn_any (cs : List Value) (x : Crt) (a r : Int) (vb vp : Value) (g : Nat) (w : World) (hblk : Blk w g 37 #[.int .i64 a, .int .i64 r, vb, vp]) (hx : RCrt w.cell? cs x) :
    Calls Tryd.prog 115 (#[.agg cs.toArray] ++ #[.pointer (some ⟨g, 0, none⟩)]) w fun e w' => e = .returned (.bool (isCert a r x)) ∧ Below w.heap.size w w' := by
  obtain ⟨ub, up, uv, rfl, _, _, _⟩ := hx
  show Calls Tryd.prog 115 #[.agg #[.int .i64 x.hdr.author, .int .i64 x.hdr.round, ub, up, uv], .pointer (some ⟨g, 0, none⟩)] w _
  have hbb := below_one w (.cells #[.int .i64 x.hdr.author, .int .i64 x.hdr.round, ub, up, uv] 60)
  have hB := hblk.kept hbb
  have g0 := hB.cell 0; have g1 := hB.cell 1
  simp at g0 g1
  clear hB hblk
  have He : ∀ q, (x.hdr.author == a && x.hdr.round == r) = q → Hid (isCert a r x = q) := fun q h => h
  generalize x.hdr.author = x0 at g0 He hbb g1 ⊢
  generalize x.hdr.round = y0 at g0 He hbb g1 ⊢
  by_cases h1 : x0 = a
  · by_cases h2 : y0 = r
    · have Hb := He true (by simp [h1, h2])
      clear He
      subst h1 h2
      go_enter Tryd.func115, Tryd.ntmps115
      go_wp2
      go_ret
      exact ⟨ret_bool Hb.out.symm, hbb⟩
    · have Hb := He false (by simp [h2])
      clear He
      subst h1
      go_enter Tryd.func115, Tryd.ntmps115
      go_wp2
      go_ret
      exact ⟨ret_bool (by rw [Hb.out]; simp [h2]), hbb⟩
  · have Hb := He false (by simp [h1])
    clear He
    go_enter Tryd.func115, Tryd.ntmps115
    go_wp2
    go_ret
    exact ⟨ret_bool Hb.out.symm, hbb⟩
set_option maxHeartbeats 2000000 in
set_option maxRecDepth 100000 in
theorem certTaken_any (vl : Value) (l : List Crt) (h : Hdr) (vb vp : Value) (w : World) (hl : RCrts w.cell? vl l) :
    Calls Tryd.prog 76 #[vl, .agg #[.int .i64 h.author, .int .i64 h.round, vb, vp]] w fun e w' => e = .returned (.bool (taken l h)) ∧ Below w.heap.size w w' := by
  obtain ⟨A, c, rfl, hform⟩ := id hl
  clear hform
  have hbb := below_one w (.cells #[.int .i64 h.author, .int .i64 h.round, vb, vp] 37)
  have hlb := hl.mono RCrt.mono (vle_below hbb)
  have hk := Blk.new w 37 #[.int .i64 h.author, .int .i64 h.round, vb, vp]
  obtain ⟨Z, hZ⟩ : ∃ Z, Hid (taken l h = Z) := ⟨_, rfl⟩
  rw [hZ.out]
  go_enter Tryd.func76, Tryd.ntmps76
  go_wp2_with fail
  refine (hasCrts_any 115 #[.pointer (some ⟨w.heap.size, 0, none⟩)] (isCert h.author h.round) (enters_of_func Tryd.func115 (by kernel_rfl) rfl) _ l _ hlb (fun W cs x hW hx => takenFn_any cs x _ _ _ _ _ W (hk.kept hW) hx)).mono ?_
  rintro e w1 ⟨rfl, hb1⟩
  have hbl := hbb.trans (hb1.mono hbb.size)
  rw [show l.any (isCert h.author h.round) = Z from hZ.out]
  clear hlb hk hl hZ
  go_wp2
  go_ret
  exact ⟨rfl, hbl⟩
set_option maxHeartbeats 2000000 in
set_option maxRecDepth 100000 in
theorem digest_any (c : Crt) (vb vp vv : Value) (w : World) (hb : RDigs w.cell? vb c.hdr.batches) (hp : RDigs w.cell? vp c.hdr.parents) (hT : Tabs w.cell?) :
    Calls Tryd.prog 95 #[.agg #[.int .i64 c.hdr.author, .int .i64 c.hdr.round, vb, vp, vv]] w fun e w' => ∃ d, e = .returned d ∧ Below w.heap.size w w' ∧ RBytes (View.from w'.cell? w.heap.size) d (hdrDR c.hdr.author c.hdr.round c.hdr.batches c.hdr.parents) := by
  obtain ⟨bA, bc, rfl, _⟩ := id hb
  obtain ⟨pA, pc, rfl, _⟩ := id hp
  obtain ⟨R, hR⟩ : ∃ R, Hid (hdrDR c.hdr.author c.hdr.round c.hdr.batches c.hdr.parents = R) := ⟨_, rfl⟩
  rw [hR.out]
  go_enter Tryd.func95, Tryd.ntmps95
  go_wp2_with fail
  refine one_block _ _ _ (fun W => Calls Tryd.prog _ _ W _) (fun W hk hszW hbW => ?_)
  have q := vle_below hbW
  refine (headerDigestW_any _ _ _ _ c.hdr.batches c.hdr.parents _ (hb.mono RDig.mono q) (hp.mono RDig.mono q) (hT.mono q)).mono ?_
  rintro e w1 ⟨d, rfl, hb1, hr⟩
  rw [hR.out] at hr
  generalize headF c.hdr.author c.hdr.round c.hdr.batches c.hdr.parents = E
  clear hk hT
  go_wp2
  go_ret
  exact ⟨_, rfl, hbW.trans (hb1.mono hbW.size), hr.mono (from_from hbW.size)⟩
theorem hdrDR_valid {h : Hdr} (hv : hF h = 0) : hdrDR h.author h.round h.batches h.parents = hD h := if_pos hv
theorem from_from_but {h : View} {b b' : Nat} {g : Option Nat} (hb : b' ≤ b) (hg : ∀ k, g = some k → k < b) : VLe (View.from h b) (View.from (View.but h g) b') := fun a v e => by
  unfold View.from at e ⊢
  split at e
  · cases e
  · rename_i hne
    rw [if_neg (by omega)]
    unfold View.but
    rw [if_neg (by intro h; have := hg _ h.symm; omega)]
    exact e
set_option maxHeartbeats 2000000 in
set_option maxRecDepth 100000 in
theorem all_any (vl : Value) (l : List Crt) (w : World) (hl : RCrts w.cell? vl l) (hv : ∀ c ∈ l, hF c.hdr = 0) (hT : Tabs w.cell?) :
    Calls Tryd.prog 74 #[vl] w fun e w' => ∃ v', e = .returned v' ∧ Below w.heap.size w w' ∧ OwnSl 1 (RFrom w.heap.size RDig) 25 w' w.heap.size v' (dsOf hD l) := by
  obtain ⟨A, c, rfl, hform⟩ := id hl
  clear hform
  obtain ⟨_, hcap, hlen, hel⟩ := hl.at
  have Hel := Lib.hid hel
  have Hv := Lib.hid hv
  clear hel hl hv
  go_enter Tryd.func74, Tryd.ntmps74
  go_wp2
  go_loopw [3, 5, 8] (fun v _ i wr => ∃ k : Nat, k ≤ l.length ∧ i = .int .i64 k ∧ OwnSl 1 (RFrom w.heap.size RDig) 25 wr w.heap.size v (dsOf hD (l.take k)) ∧ Below w.heap.size w wr) (fun _ _ i _ => l.length - (intOf i).toNat)
  case atStart => exact ⟨0, Nat.zero_le _, rfl, OwnSl.nil _ _ _ _ _, Below.refl _ _⟩
  case round =>
    obtain ⟨k, hk, rfl, hown, hbl⟩ := hrel
    have hbs := hbl.size
    by_cases hlt : k < l.length
    · obtain ⟨b0, o0, vb, vp, vv, rfl, q0, q1, q2, q3, q4, hb, hp, hvv⟩ := Hel.out k hlt
      obtain ⟨bA, bc, rfl, hf1⟩ := id hb
      obtain ⟨pA, pc, rfl, hf2⟩ := id hp
      obtain ⟨vA, vc, rfl, hf3⟩ := id hvv
      clear hf1 hf2 hf3 hvv
      have c0 := vle_below hbl _ _ q0
      have c1 := vle_below hbl _ _ q1
      have c2 := vle_below hbl _ _ q2
      have c3 := vle_below hbl _ _ q3
      have c4 := vle_below hbl _ _ q4
      have hb' := hb.mono RDig.mono (vle_below hbl)
      have hp' := hp.mono RDig.mono (vle_below hbl)
      have hval := Lib.hid (Hv.out l[k] (List.getElem_mem hlt))
      have Hn := Lib.hid (show dsOf hD (l.take (k + 1)) = dsOf hD (l.take k) ++ [hD l[k].hdr] by unfold dsOf; rw [List.take_succ_eq_append_getElem hlt, List.map_append, List.map_singleton])
      have Hlk := Lib.hid (show (dsOf hD (l.take k)).length = k by unfold dsOf; simp; omega)
      clear q0 q1 q2 q3 q4 hb hp
      generalize dsOf hD (l.take k) = L at hown Hn Hlk
      generalize l[k] = x at c0 c1 c2 c3 c4 hb' hp' hval Hn
      go_wp2_with fail
      refine one_block _ _ _ (fun W => Calls Tryd.prog _ _ W _) (fun W hk' hszW hbW => ?_)
      have qW := vle_below hbW
      have hblW := hbl.trans (hbW.mono hbs)
      refine (digest_any x _ _ _ _ (hb'.mono RDig.mono qW) (hp'.mono RDig.mono qW) (hT.mono (vle_below hblW))).mono ?_
      rintro e w1 ⟨d, rfl, hbx, hr⟩
      rw [hdrDR_valid hval.out] at hr
      have hb1 := hbW.trans (hbx.mono hbW.size)
      have hr := hr.mono (from_from hbW.size)
      have hown1 := hown.kept (RFrom.mono RDig.mono) hb1
      have hbl1 : Below w.heap.size w w1 := hbl.trans (hb1.mono hbs)
      have hR : RFrom w.heap.size RDig (View.but w1.cell? u3.ownBlock) [d] (hD x.hdr) :=
        ⟨d, rfl, hr.mono (from_from_but hbs (fun g hg => (hown.lt g hg).2))⟩
      have hs1 := hb1.size
      obtain ⟨A', c', rfl, hform⟩ := id hr
      clear hform c0 c1 c2 c3 c4 hb' hp' hr
      go_wp2_with (at_builtin; go_loud (refine wpList_append_sl1 (n := 140737488355328) (RFrom.mono RDig.mono) (hD x.hdr) [.slice A' (hD x.hdr).length c'] elemDig _ _ rfl rfl rfl hown1 hbl1 (Nat.le_trans hbs hs1) rfl rfl rfl rfl hR (Nat.le_refl _) (by rw [Hlk.out]; omega) (by rw [Hlk.out]; omega) ?_))
      intro v' w2 ho hbl2 _
      clear hown hown1 hR
      go_wp2
      go_roundw
      case rel => exact ⟨k + 1, by omega, by go_num, by rw [Hn.out]; exact ho, hbl2⟩
      case measure => simp [intOf]; omega
    · have : k = l.length := by omega
      subst this
      go_wp2
      go_ret
      exact ⟨_, rfl, hbl, by simpa using hown⟩
set_option maxHeartbeats 2000000 in
set_option maxRecDepth 100000 in
theorem digestsOf_any (vl : Value) (l : List Crt) (w : World) (hl : RCrts w.cell? vl l) (hv : ∀ c ∈ l, hF c.hdr = 0) :
    Calls Tryd.prog 78 #[vl] w fun e w' => ∃ v', e = .returned v' ∧ Below w.heap.size w w' ∧ OwnSl 1 (RFrom w.heap.size RDig) 25 w' w.heap.size v' (dsOf hD l) := by
  obtain ⟨A, c, rfl, hform⟩ := id hl
  clear hform
  obtain ⟨_, hcap, hlen, hel⟩ := hl.at
  have Hel := Lib.hid hel
  have Hv := Lib.hid hv
  clear hel hl hv
  go_enter Tryd.func78, Tryd.ntmps78
  go_wp2
  go_loopw [3, 4, 5] (fun v i _ wr => ∃ k : Nat, k ≤ l.length ∧ i = .int .i64 k ∧ OwnSl 1 (RFrom w.heap.size RDig) 25 wr w.heap.size v (dsOf hD (l.take k)) ∧ Below w.heap.size w wr) (fun _ i _ _ => l.length - (intOf i).toNat)
  case atStart => exact ⟨0, Nat.zero_le _, rfl, OwnSl.nil _ _ _ _ _, Below.refl _ _⟩
  case round =>
    obtain ⟨k, hk, rfl, hown, hbl⟩ := hrel
    have hbs := hbl.size
    by_cases hlt : k < l.length
    · obtain ⟨b0, o0, vb, vp, vv, rfl, q0, q1, q2, q3, q4, hb, hp, hvv⟩ := Hel.out k hlt
      obtain ⟨bA, bc, rfl, hf1⟩ := id hb
      obtain ⟨pA, pc, rfl, hf2⟩ := id hp
      obtain ⟨vA, vc, rfl, hf3⟩ := id hvv
      clear hf1 hf2 hf3 hvv
      have c0 := vle_below hbl _ _ q0
      have c1 := vle_below hbl _ _ q1
      have c2 := vle_below hbl _ _ q2
      have c3 := vle_below hbl _ _ q3
      have c4 := vle_below hbl _ _ q4
      have hb' := hb.mono RDig.mono (vle_below hbl)
      have hp' := hp.mono RDig.mono (vle_below hbl)
      have hval := Lib.hid (Hv.out l[k] (List.getElem_mem hlt))
      have Hn := Lib.hid (show dsOf hD (l.take (k + 1)) = dsOf hD (l.take k) ++ [hD l[k].hdr] by unfold dsOf; rw [List.take_succ_eq_append_getElem hlt, List.map_append, List.map_singleton])
      have Hlk := Lib.hid (show (dsOf hD (l.take k)).length = k by unfold dsOf; simp; omega)
      clear q0 q1 q2 q3 q4 hb hp
      generalize dsOf hD (l.take k) = L at hown Hn Hlk
      generalize l[k] = x at c0 c1 c2 c3 c4 hb' hp' hval Hn
      obtain ⟨z0, z1, z2⟩ := headF_zero4 hval.out
      go_wp2_with fail
      refine (headerDigestR_any _ _ _ _ x.hdr.batches x.hdr.parents _ (by omega) (by omega) hb' hp' (by omega)).mono ?_
      rintro e w1 ⟨d, rfl, hb1, hr⟩
      have hr : RBytes (View.from w1.cell? wr.heap.size) d (hD x.hdr) := hr
      have hown1 := hown.kept (RFrom.mono RDig.mono) hb1
      have hbl1 : Below w.heap.size w w1 := hbl.trans (hb1.mono hbs)
      have hR : RFrom w.heap.size RDig (View.but w1.cell? u3.ownBlock) [d] (hD x.hdr) :=
        ⟨d, rfl, hr.mono (from_from_but hbs (fun g hg => (hown.lt g hg).2))⟩
      have hs1 := hb1.size
      obtain ⟨A', c', rfl, hform⟩ := id hr
      clear hform c0 c1 c2 c3 c4 hb' hp' hr
      go_wp2_with (at_builtin; go_loud (refine wpList_append_sl1 (n := 140737488355328) (RFrom.mono RDig.mono) (hD x.hdr) [.slice A' (hD x.hdr).length c'] elemDig _ _ rfl rfl rfl hown1 hbl1 (Nat.le_trans hbs hs1) rfl rfl rfl rfl hR (Nat.le_refl _) (by rw [Hlk.out]; omega) (by rw [Hlk.out]; omega) ?_))
      intro v' w2 ho hbl2 _
      clear hown hown1 hR
      go_wp2
      go_roundw
      case rel => exact ⟨k + 1, by omega, by go_num, by rw [Hn.out]; exact ho, hbl2⟩
      case measure => simp [intOf]; omega
    · have : k = l.length := by omega
      subst this
      go_wp2
      go_ret
      exact ⟨_, rfl, hbl, by simpa using hown⟩
end Go.Proofs.YtedealljhmokoaaDoor

namespace Go.Proofs.YtedealljhmokoaaDoor
open Go.ChangeShapes Go.WideShapes Go.ChangeAt Go.RowKit
set_option linter.unusedVariables false
set_option linter.unusedSimpArgs false
theorem placeI_cases (ds : List (List UInt8)) (d : List UInt8) : (placeI ds d = -1) ∨ ∃ k : Nat, k < ds.length ∧ placeI ds d = k := by
  rcases idxI_cases (· == d) ds with ⟨h, _⟩ | ⟨k, hk, h, _⟩
  · exact .inl h
  · exact .inr ⟨k, hk, h⟩
theorem wrongP_neg {l : List Crt} {ds : List (List UInt8)} {r : Int} {p : List UInt8} (h : placeI ds p = -1) : wrongP l ds r p = false := by
  unfold wrongP
  rw [h]
  split <;> simp
theorem wrongP_pos {l : List Crt} {ds : List (List UInt8)} {r : Int} {p : List UInt8} {k : Nat} (hk : k < l.length) (h : placeI ds p = k) : wrongP l ds r p = (l[k].hdr.round != r - 1) := by
  unfold wrongP
  rw [h]
  simp [List.getElem?_eq_getElem hk]
def lost (ds : List (List UInt8)) (ps : List (List UInt8)) : Bool := ps.any fun p => decide (placeI ds p < 0)
theorem missN_zero (ds : List (List UInt8)) (h : Hdr) : (missN ds h).length = 0 ↔ lost ds h.parents = false := by
  unfold missN lost
  rw [List.length_eq_zero_iff, List.filter_eq_nil_iff, List.any_eq_false]
theorem missW_of {l : List Crt} {ds : List (List UInt8)} {h : Hdr} (hn : ∀ j (hj : j < h.parents.length), wrongP l ds h.round h.parents[j] = false) : missW l ds h = false := any_false_get hn
theorem missW_at {l : List Crt} {ds : List (List UInt8)} {h : Hdr} {k : Nat} (hk : k < h.parents.length) (hw : wrongP l ds h.round h.parents[k] = true) : missW l ds h = true := any_true_get hk hw
theorem lost_succ (ds ps : List (List UInt8)) {k : Nat} (hk : k < ps.length) : lost ds (ps.take (k + 1)) = (lost ds (ps.take k) || decide (placeI ds ps[k] < 0)) := by
  unfold lost
  rw [List.take_succ_eq_append_getElem hk, List.any_append]
  simp
set_option maxHeartbeats 4000000 in
set_option maxRecDepth 100000 in
theorem parentsFault_any (vl vs : Value) (l : List Crt) (ds : List (List UInt8)) (h : Hdr) (vb vp : Value) (w : World) (hl : RCrts w.cell? vl l) (hs : RDigs w.cell? vs ds) (hp : RDigs w.cell? vp h.parents) (hlen : ds.length ≤ l.length) (hr0 : 1 ≤ h.round) (hr1 : h.round ≤ 1048576) :
    Calls Tryd.prog 80 #[vl, vs, .agg #[.int .i64 h.author, .int .i64 h.round, vb, vp]] w fun e w' => e = .returned (.int .i64 (parF l ds h)) ∧ Below w.heap.size w w' := by
  obtain ⟨A, c, rfl, hf⟩ := id hl
  obtain ⟨pA, pc, rfl, hf2⟩ := id hp
  obtain ⟨_, hn1, hn2, hel⟩ := hl.at
  obtain ⟨_, hm1, hm2, hpel⟩ := hp.at
  have Hel := Lib.hid hel
  have Hpel := Lib.hid hpel
  have Hs := Lib.hid hs
  have Hlen := Lib.hid hlen
  clear hl hel hf hf2 hpel hp hs hlen
  obtain ⟨P, hP⟩ : ∃ P, Hid (h.parents = P) := ⟨_, rfl⟩
  have HQ : Hid (parF l ds h = if missW l ds h then 9 else if lost ds P then 8 else 0) := by
    show _ = _
    unfold parF
    rw [← hP.out]
    cases missW l ds h
    · simp only [Bool.false_eq_true, if_false]
      cases hz : lost ds h.parents
      · rw [if_pos ((missN_zero ds h).2 hz)]; simp
      · rw [if_neg (fun h0 => by rw [(missN_zero ds h).1 h0] at hz; cases hz)]; simp
    · rfl
  have HW0 : Hid ((∀ j (hj : j < P.length), wrongP l ds h.round P[j] = false) → missW l ds h = false) := fun hn => missW_of fun j hj => by
    have := hP.out; subst this; exact hn j hj
  have HW1 : Hid (∀ k (hk : k < P.length), wrongP l ds h.round P[k] = true → missW l ds h = true) := fun k hk hw => by
    have := hP.out; subst this; exact missW_at hk hw
  obtain ⟨Q, hQ⟩ : ∃ Q, Hid (parF l ds h = Q) := ⟨_, rfl⟩
  rw [hQ.out] at HQ ⊢
  generalize missW l ds h = MW at HQ HW0 HW1
  rw [hP.out] at hm1 hm2 Hpel ⊢
  generalize h.round = r at *
  generalize h.author = au at *
  have er : IntKind.i64.wrap (r - 1) = r - 1 := by rw [IntKind.wrap_i64]; omega
  clear hQ hP
  go_enter Tryd.func80, Tryd.ntmps80
  go_upto_region 1 with fail
  refine one_block _ _ _ (fun W => Code.wp _ _ _ _ W) (fun W hbk hsz hbW => ?_)
  have hzW := hbW.size
  clear hsz
  go_wp2
  go_loopw [7, 8, 9] (fun e i _ wr => ∃ k : Nat, k ≤ P.length ∧ i = .int .i64 k ∧ e = .int .i64 (if lost ds (P.take k) then 8 else 0) ∧ Hid (∀ j (hj : j < P.length), j < k → wrongP l ds r P[j] = false) ∧ Below W.heap.size W wr) (fun _ i _ _ => P.length - (intOf i).toNat)
  case atStart => exact ⟨0, Nat.zero_le _, rfl, rfl, fun j _ hj => by omega, Below.refl _ _⟩
  case round =>
    obtain ⟨k, hk, rfl, rfl, hno, hbl⟩ := hrel
    have hbk' := hbk.kept hbl
    have g1 := hbk'.cell 1; have g3 := hbk'.cell 3
    simp at g1 g3
    have hblw := hbW.trans (hbl.mono hzW)
    obtain ⟨e0, he0⟩ : ∃ e0 : Int, Hid ((if lost ds (P.take k) then 8 else 0 : Int) = e0) := ⟨_, rfl⟩
    rw [he0.out]
    by_cases hlt : k < P.length
    · obtain ⟨b0, o0, d, rfl, q0, hd⟩ := Hpel.out k hlt
      have c0 := vle_below hblw _ _ q0
      have hd' := hd.mono (vle_below hblw)
      have hstep := Lib.hid (lost_succ ds P hlt)
      have hcs := placeI_cases ds P[k]
      have hneg : Hid (placeI ds P[k] = -1 → wrongP l ds r P[k] = false) := fun h => wrongP_neg h
      have hpos : Hid (∀ j (hj : j < l.length), placeI ds P[k] = j → wrongP l ds r P[k] = (l[j].hdr.round != r - 1)) := fun j hj h => wrongP_pos hj h
      have hnext : Hid (wrongP l ds r P[k] = false → ∀ j (hj : j < P.length), j < k + 1 → wrongP l ds r P[j] = false) := fun hq j hj hjk => by
        by_cases e : j = k
        · subst e; exact hq
        · exact hno.out j hj (by omega)
      have hW1 := Lib.hid (HW1.out k hlt)
      clear q0 hd
      go_wp2_with fail
      refine (placeOf_any _ ds _ P[k] _ (Hs.out.mono RDig.mono (vle_below hblw)) hd').mono ?_
      rintro e w1 ⟨rfl, hb1⟩
      have hbl1 := hbl.trans (hb1.mono hbl.size)
      have hbk1 := hbk'.kept hb1
      have hblw1 := hbW.trans (hbl1.mono hzW)
      clear g1 g3 c0 hd' hbk'
      rcases hcs with hneg' | ⟨j, hj, hpos'⟩
      · rw [hneg']
        have hq := Lib.hid (hnext.out (hneg.out hneg'))
        have he1 : Hid ((if lost ds (P.take (k + 1)) then 8 else 0 : Int) = 8) := by show _ = _; rw [hstep.out, hneg']; simp
        clear hneg hpos hnext hstep he0 hneg'
        go_wp2_with fail
        refine wp_region_pl (fun w' => Below w1.heap.size w1 w') [] (.q 0 (.q 1 (.q 2 (.q 3 (.q 4 (.q 5 (.q 6 (.q 7 (.q 8 (.q 9 (.q 10 (.q 11 (.q 12 (.q 13 .nil)))))))))))))) (by kernel_rfl) (by kernel_rfl) (fun _ _ d _ _ h => by cases d <;> exact h) rfl (by kernel_rfl) ?_ ?_
        · exact below_drew _
        intro W2 hS
        repeat (first
          | (refine pl_q (by assumption) rfl rfl ?_; apply Exists.intro; refine ⟨fun w' hS => ?_, ?_⟩; (· (skip; go_simp; exact rfl)); simp only [List.getElem_toArray, List.getElem_cons_zero, List.getElem_cons_succ, Act.put, List.setIfInBounds_toArray, List.set_cons_zero, List.set_cons_succ])
          | (refine pl_qc rfl rfl ?_; apply Exists.intro; refine ⟨fun w' _ => ?_, ?_⟩; (· (go_simp; exact rfl)); simp only [List.getElem_toArray, List.getElem_cons_zero, List.getElem_cons_succ, Act.put, List.setIfInBounds_toArray, List.set_cons_zero, List.set_cons_succ])
          | (refine pl_skip (by assumption) rfl rfl ?_; simp only [List.getElem_toArray, List.getElem_cons_zero, List.getElem_cons_succ, Act.put, List.setIfInBounds_toArray, List.set_cons_zero, List.set_cons_succ])
          | (refine pl_skipl (by assumption) rfl rfl ?_; simp only [List.getElem_toArray, List.getElem_cons_zero, List.getElem_cons_succ, Act.put, List.setIfInBounds_toArray, List.set_cons_zero, List.set_cons_succ]))
        refine pl_nil ?_
        go_wp2
        go_roundw
        case rel => exact ⟨k + 1, by omega, by go_num, by rw [he1.out], hq.out, hbl1.trans (hS.mono hbl1.size)⟩
        case measure => simp [intOf]; omega
      · have hjl : j < l.length := by have := Hlen.out; omega
        rw [hpos']
        have hw := hpos.out j hjl hpos'
        have he1 : Hid ((if lost ds (P.take (k + 1)) then 8 else 0 : Int) = e0) := by show _ = _; rw [hstep.out, hpos', ← he0.out]; simp [show ¬ ((j : Int) < 0) by omega]
        obtain ⟨lb, lo, ub, up, uv, rfl, s0, s1, _⟩ := Hel.out j hjl
        have d1 := vle_below hblw1 _ _ s1
        clear hneg hpos hstep he0 hpos' s0 s1
        generalize l[j].hdr.round = y at hw d1
        by_cases hy : y = r - 1
        · have hq := Lib.hid (hnext.out (by rw [hw]; simp [hy]))
          clear hnext hw hW1
          subst hy
          go_wp2_with fail
          refine wp_region_pl (fun w' => Below w1.heap.size w1 w') [] (.q 0 (.q 1 (.q 2 (.q 3 (.q 4 (.q 5 (.q 6 (.q 7 (.q 8 (.q 9 (.q 10 (.q 11 (.q 12 (.q 13 .nil)))))))))))))) (by kernel_rfl) (by kernel_rfl) (fun _ _ d _ _ h => by cases d <;> exact h) rfl (by kernel_rfl) ?_ ?_
          · exact below_drew _
          intro W2 hS
          repeat (first
            | (refine pl_q (by assumption) rfl rfl ?_; apply Exists.intro; refine ⟨fun w' hS => ?_, ?_⟩; (· (have h1 := vle_below hS _ _ d1; have hq := hbk1.kept hS; have h2 := hq.cell 1; simp at h2; go_simp; exact rfl)); simp only [List.getElem_toArray, List.getElem_cons_zero, List.getElem_cons_succ, Act.put, List.setIfInBounds_toArray, List.set_cons_zero, List.set_cons_succ])
            | (refine pl_qc rfl rfl ?_; apply Exists.intro; refine ⟨fun w' _ => ?_, ?_⟩; (· (go_simp; exact rfl)); simp only [List.getElem_toArray, List.getElem_cons_zero, List.getElem_cons_succ, Act.put, List.setIfInBounds_toArray, List.set_cons_zero, List.set_cons_succ])
            | (refine pl_skip (by assumption) rfl rfl ?_; simp only [List.getElem_toArray, List.getElem_cons_zero, List.getElem_cons_succ, Act.put, List.setIfInBounds_toArray, List.set_cons_zero, List.set_cons_succ])
            | (refine pl_skipl (by assumption) rfl rfl ?_; simp only [List.getElem_toArray, List.getElem_cons_zero, List.getElem_cons_succ, Act.put, List.setIfInBounds_toArray, List.set_cons_zero, List.set_cons_succ]))
          refine pl_nil ?_
          go_wp2
          go_roundw
          case rel => exact ⟨k + 1, by omega, by go_num, by rw [he1.out], hq.out, hbl1.trans (hS.mono hbl1.size)⟩
          case measure => simp [intOf]; omega
        · have hmw := hW1.out (by rw [hw]; simp [hy])
          have HQ' : Hid (Q = 9) := by show _ = _; rw [HQ.out, hmw]; rfl
          clear hnext hw hW1 hmw he1 HQ HW0 HW1
          go_wp2_with fail
          refine wp_region_pl (fun w' => Below w1.heap.size w1 w') [] (.q 0 (.q 1 (.q 2 (.q 3 (.q 4 (.q 5 (.q 6 (.q 7 (.q 8 (.q 9 (.q 10 (.q 11 (.q 12 (.q 13 .nil)))))))))))))) (by kernel_rfl) (by kernel_rfl) (fun _ _ d _ _ h => by cases d <;> exact h) rfl (by kernel_rfl) ?_ ?_
          · exact below_drew _
          intro W2 hS
          repeat (first
            | (refine pl_q (by assumption) rfl rfl ?_; apply Exists.intro; refine ⟨fun w' hS => ?_, ?_⟩; (· (have h1 := vle_below hS _ _ d1; have hq := hbk1.kept hS; have h2 := hq.cell 1; simp at h2; go_simp; exact rfl)); simp only [List.getElem_toArray, List.getElem_cons_zero, List.getElem_cons_succ, Act.put, List.setIfInBounds_toArray, List.set_cons_zero, List.set_cons_succ])
            | (refine pl_qc rfl rfl ?_; apply Exists.intro; refine ⟨fun w' _ => ?_, ?_⟩; (· (go_simp; exact rfl)); simp only [List.getElem_toArray, List.getElem_cons_zero, List.getElem_cons_succ, Act.put, List.setIfInBounds_toArray, List.set_cons_zero, List.set_cons_succ])
            | (refine pl_skip (by assumption) rfl rfl ?_; simp only [List.getElem_toArray, List.getElem_cons_zero, List.getElem_cons_succ, Act.put, List.setIfInBounds_toArray, List.set_cons_zero, List.set_cons_succ])
            | (refine pl_skipl (by assumption) rfl rfl ?_; simp only [List.getElem_toArray, List.getElem_cons_zero, List.getElem_cons_succ, Act.put, List.setIfInBounds_toArray, List.set_cons_zero, List.set_cons_succ]))
          refine pl_nil ?_
          go_wp2
          go_ret
          exact ⟨ret_int HQ'.out.symm, hblw1.trans (hS.mono hblw1.size)⟩
    · have hkl : k = P.length := by omega
      have hmw := HW0.out (fun j hj => hno.out j hj (by omega))
      have HQ' : Hid (Q = e0) := by show _ = _; rw [HQ.out, hmw, ← he0.out, hkl, List.take_length]; rfl
      clear HQ HW0 HW1 hmw
      go_wp2
      go_ret
      exact ⟨ret_int HQ'.out.symm, hblw⟩
def lostN (ds ps : List (List UInt8)) : List (List UInt8) := ps.filter fun p => decide (placeI ds p < 0)
theorem lostN_succ (ds ps : List (List UInt8)) {k : Nat} (hk : k < ps.length) : lostN ds (ps.take (k + 1)) = lostN ds (ps.take k) ++ (if placeI ds ps[k] < 0 then [ps[k]] else []) := by
  unfold lostN
  rw [List.take_succ_eq_append_getElem hk, List.filter_append]
  congr 1
  by_cases h : placeI ds ps[k] < 0 <;> simp [h]
theorem lostN_len (ds ps : List (List UInt8)) : (lostN ds ps).length ≤ ps.length := List.length_filter_le _ _
theorem anyW_succ (l : List Crt) (ds ps : List (List UInt8)) (r : Int) {k : Nat} (hk : k < ps.length) : (ps.take (k + 1)).any (wrongP l ds r) = ((ps.take k).any (wrongP l ds r) || wrongP l ds r ps[k]) := by
  rw [List.take_succ_eq_append_getElem hk, List.any_append]
  simp
set_option maxHeartbeats 4000000 in
set_option maxRecDepth 100000 in
theorem missing_any (vl vs : Value) (l : List Crt) (ds : List (List UInt8)) (h : Hdr) (vb vp : Value) (w : World) (hl : RCrts w.cell? vl l) (hs : RDigs w.cell? vs ds) (hp : RDigs w.cell? vp h.parents) (hlen : ds.length ≤ l.length) (hr0 : 1 ≤ h.round) (hr1 : h.round ≤ 1048576) :
    Calls Tryd.prog 75 #[vl, vs, .agg #[.int .i64 h.author, .int .i64 h.round, vb, vp]] w fun e w' => ∃ v, e = .returned (.tuple #[v, .bool (missW l ds h)]) ∧ Below w.heap.size w w' ∧ OwnSl 1 (RFrom w.heap.size RDig) 25 w' w.heap.size v (missN ds h) := by
  obtain ⟨A, c, rfl, hf⟩ := id hl
  obtain ⟨pA, pc, rfl, hf2⟩ := id hp
  obtain ⟨_, hn1, hn2, hel⟩ := hl.at
  obtain ⟨_, hm1, hm2, hpel⟩ := hp.at
  have Hel := Lib.hid hel
  have Hpel := Lib.hid hpel
  have Hs := Lib.hid hs
  have Hlen := Lib.hid hlen
  clear hl hel hf hf2 hpel hp hs hlen
  rw [show missW l ds h = h.parents.any (wrongP l ds h.round) from rfl, show missN ds h = lostN ds h.parents from rfl]
  generalize h.parents = P at *
  generalize h.round = r at *
  generalize h.author = au at *
  have er : IntKind.i64.wrap (r - 1) = r - 1 := by rw [IntKind.wrap_i64]; omega
  obtain ⟨QW, hQW⟩ : ∃ q, Hid (P.any (wrongP l ds r) = q) := ⟨_, rfl⟩
  obtain ⟨QN, hQN⟩ : ∃ q, Hid (lostN ds P = q) := ⟨_, rfl⟩
  rw [hQW.out, hQN.out]
  go_enter Tryd.func75, Tryd.ntmps75
  go_upto_region 1 with fail
  refine one_block _ _ _ (fun W => Code.wp _ _ _ _ W) (fun W hbk hsz hbW => ?_)
  have hzW := hbW.size
  clear hsz
  have g3 := hbk.cell 3
  simp at g3
  go_wp2
  go_loopw [6, 7, 14] (fun v q i wr => ∃ k : Nat, k ≤ P.length ∧ i = .int .i64 k ∧ q = .bool ((P.take k).any (wrongP l ds r)) ∧ OwnSl 1 (RFrom w.heap.size RDig) 25 wr W.heap.size v (lostN ds (P.take k)) ∧ Below W.heap.size W wr) (fun _ _ i _ => P.length - (intOf i).toNat)
  case atStart => exact ⟨0, Nat.zero_le _, rfl, rfl, OwnSl.nil _ _ _ _ _, Below.refl _ _⟩
  case round =>
    clear g3
    obtain ⟨k, hk, rfl, rfl, hown, hbl⟩ := hrel
    have hbk' := hbk.kept hbl
    have hz := hbl.size
    have hblw := hbW.trans (hbl.mono hzW)
    obtain ⟨q0, hq0⟩ : ∃ q, Hid ((P.take k).any (wrongP l ds r) = q) := ⟨_, rfl⟩
    rw [hq0.out]
    by_cases hlt : k < P.length
    · obtain ⟨b0, o0, d, rfl, s0, hd⟩ := Hpel.out k hlt
      have c0 := vle_below hblw _ _ s0
      have hdB := hd
      have hd' := hd.mono (vle_below hblw)
      have hNs := Lib.hid (lostN_succ ds P hlt)
      have hWs := Lib.hid (anyW_succ l ds P r hlt)
      rw [hq0.out] at hWs
      have hcs := placeI_cases ds P[k]
      have hneg : Hid (placeI ds P[k] = -1 → wrongP l ds r P[k] = false) := fun h => wrongP_neg h
      have hpos : Hid (∀ j (hj : j < l.length), placeI ds P[k] = j → wrongP l ds r P[k] = (l[j].hdr.round != r - 1)) := fun j hj h => wrongP_pos hj h
      have Hlk := Lib.hid (show (lostN ds (P.take k)).length ≤ k from Nat.le_trans (lostN_len _ _) (by simp; omega))
      have hdl : P[k].length * 1 ≤ 140737488355328 := hd.len
      clear s0 hd
      generalize lostN ds (P.take k) = L at hown hNs Hlk
      generalize wrongP l ds r P[k] = WP at hneg hpos hWs
      generalize hX : P[k] = x at hd' hcs hneg hpos hNs hdl hdB
      clear hX
      go_wp2_with fail
      refine (at_any _ ds _ x _ (Hs.out.mono RDig.mono (vle_below hblw)) hd').mono ?_
      rintro e w1 ⟨rfl, hb1⟩
      have hbl1 := hbl.trans (hb1.mono hz)
      have hbk1 := hbk'.kept hb1
      have hblw1 := hbW.trans (hbl1.mono hzW)
      have hown1 := hown.kept (RFrom.mono RDig.mono) hb1
      have hz1 := hbl1.size
      clear c0 hd' hbk' hown
      rcases hcs with hneg' | ⟨j, hj, hpos'⟩
      · rw [hneg']
        have hq1 : Hid ((P.take (k + 1)).any (wrongP l ds r) = q0) := by show _ = _; rw [hWs.out, hneg.out hneg']; simp
        have hn1 : Hid (lostN ds (P.take (k + 1)) = L ++ [x]) := by show _ = _; rw [hNs.out, hneg']; simp
        have hd1 := hdB.mono (vle_below hblw1)
        clear hneg hpos hNs hWs hneg' hdB
        obtain ⟨dA, dc, rfl, hf⟩ := id hd1
        clear hf
        go_wp2_with fail
        refine (cloneB_any _ x _ hd1).mono ?_
        rintro e w2 ⟨d2, rfl, hb2, o2⟩
        have hown2 := hown1.kept (RFrom.mono RDig.mono) hb2
        have hbl2 : Below W.heap.size W w2 := hbl1.trans (hb2.mono hz1)
        have hR : RFrom w.heap.size RDig (View.but w2.cell? u6.ownBlock) [d2] x :=
          ⟨d2, rfl, o2.reads_from hdl (Nat.le_trans hzW hz1) (fun g hg => (hown1.lt g hg).2)⟩
        have hz2 := hbl2.size
        obtain ⟨A', c', rfl⟩ := o2.form
        clear hd1 o2 hown1
        go_wp2_with (at_builtin; go_loud (refine wpList_append_sl1 (n := 140737488355328) (RFrom.mono RDig.mono) x [.slice A' x.length c'] elemDig _ _ rfl rfl rfl hown2 hbl2 hz2 rfl rfl rfl rfl hR (Nat.le_refl _) (by have := Hlk.out; omega) (by have := Hlk.out; omega) ?_))
        intro v' w3 ho hbl3 _
        clear hown2 hR
        go_wp2
        go_roundw
        case rel => exact ⟨k + 1, by omega, by go_num, by rw [hq1.out], by rw [hn1.out]; exact ho, hbl3⟩
        case measure => simp [intOf]; omega
      · have hjl : j < l.length := by have := Hlen.out; omega
        rw [hpos']
        have hw := hpos.out j hjl hpos'
        have hn1 : Hid (lostN ds (P.take (k + 1)) = L) := by show _ = _; rw [hNs.out, hpos', if_neg (by omega), List.append_nil]
        obtain ⟨lb, lo, ub, up, uv, rfl, s0, s1, _⟩ := Hel.out j hjl
        have d1 := vle_below hblw1 _ _ s1
        clear hneg hpos hpos' s0 s1 hNs hdB
        generalize l[j].hdr.round = y at hw d1
        by_cases hy : y = r - 1
        · have hq1 : Hid ((P.take (k + 1)).any (wrongP l ds r) = q0) := by show _ = _; rw [hWs.out, hw]; simp [hy]
          clear hw hWs
          subst hy
          go_wp2_with fail
          refine wp_region_pl (fun w' => Below w1.heap.size w1 w') [] (.q 0 (.q 1 (.q 2 (.q 3 (.q 4 (.q 5 (.q 6 (.q 7 (.q 8 (.q 9 (.q 10 .nil))))))))))) (by kernel_rfl) (by kernel_rfl) (fun _ _ d _ _ h => by cases d <;> exact h) rfl (by kernel_rfl) ?_ ?_
          · exact below_drew _
          intro W2 hS
          have hown2 := hown1.kept (RFrom.mono RDig.mono) hS
          repeat (first
            | (refine pl_q (by assumption) rfl rfl ?_; apply Exists.intro; refine ⟨fun w' hS => ?_, ?_⟩; (· (have h1 := vle_below hS _ _ d1; have hq := hbk1.kept hS; have h2 := hq.cell 1; simp at h2; go_simp; exact rfl)); simp only [List.getElem_toArray, List.getElem_cons_zero, List.getElem_cons_succ, Act.put, List.setIfInBounds_toArray, List.set_cons_zero, List.set_cons_succ])
            | (refine pl_qc rfl rfl ?_; apply Exists.intro; refine ⟨fun w' _ => ?_, ?_⟩; (· (go_simp; exact rfl)); simp only [List.getElem_toArray, List.getElem_cons_zero, List.getElem_cons_succ, Act.put, List.setIfInBounds_toArray, List.set_cons_zero, List.set_cons_succ])
            | (refine pl_skip (by assumption) rfl rfl ?_; simp only [List.getElem_toArray, List.getElem_cons_zero, List.getElem_cons_succ, Act.put, List.setIfInBounds_toArray, List.set_cons_zero, List.set_cons_succ])
            | (refine pl_skipl (by assumption) rfl rfl ?_; simp only [List.getElem_toArray, List.getElem_cons_zero, List.getElem_cons_succ, Act.put, List.setIfInBounds_toArray, List.set_cons_zero, List.set_cons_succ]))
          refine pl_nil ?_
          go_wp2
          go_roundw
          case rel => exact ⟨k + 1, by omega, by go_num, by rw [hq1.out], by rw [hn1.out]; exact hown2, hbl1.trans (hS.mono hz1)⟩
          case measure => simp [intOf]; omega
        · have hq1 : Hid ((P.take (k + 1)).any (wrongP l ds r) = true) := by show _ = _; rw [hWs.out, hw]; simp [hy]
          clear hw hWs
          go_wp2_with fail
          refine wp_region_pl (fun w' => Below w1.heap.size w1 w') [] (.q 0 (.q 1 (.q 2 (.q 3 (.q 4 (.q 5 (.q 6 (.q 7 (.q 8 (.q 9 (.q 10 .nil))))))))))) (by kernel_rfl) (by kernel_rfl) (fun _ _ d _ _ h => by cases d <;> exact h) rfl (by kernel_rfl) ?_ ?_
          · exact below_drew _
          intro W2 hS
          have hown2 := hown1.kept (RFrom.mono RDig.mono) hS
          repeat (first
            | (refine pl_q (by assumption) rfl rfl ?_; apply Exists.intro; refine ⟨fun w' hS => ?_, ?_⟩; (· (have h1 := vle_below hS _ _ d1; have hq := hbk1.kept hS; have h2 := hq.cell 1; simp at h2; go_simp; exact rfl)); simp only [List.getElem_toArray, List.getElem_cons_zero, List.getElem_cons_succ, Act.put, List.setIfInBounds_toArray, List.set_cons_zero, List.set_cons_succ])
            | (refine pl_qc rfl rfl ?_; apply Exists.intro; refine ⟨fun w' _ => ?_, ?_⟩; (· (go_simp; exact rfl)); simp only [List.getElem_toArray, List.getElem_cons_zero, List.getElem_cons_succ, Act.put, List.setIfInBounds_toArray, List.set_cons_zero, List.set_cons_succ])
            | (refine pl_skip (by assumption) rfl rfl ?_; simp only [List.getElem_toArray, List.getElem_cons_zero, List.getElem_cons_succ, Act.put, List.setIfInBounds_toArray, List.set_cons_zero, List.set_cons_succ])
            | (refine pl_skipl (by assumption) rfl rfl ?_; simp only [List.getElem_toArray, List.getElem_cons_zero, List.getElem_cons_succ, Act.put, List.setIfInBounds_toArray, List.set_cons_zero, List.set_cons_succ]))
          refine pl_nil ?_
          go_wp2
          go_roundw
          case rel => exact ⟨k + 1, by omega, by go_num, by rw [hq1.out], by rw [hn1.out]; exact hown2, hbl1.trans (hS.mono hz1)⟩
          case measure => simp [intOf]; omega
    · have hkl : k = P.length := by omega
      have e1 : q0 = QW := by rw [← hq0.out, hkl, List.take_length, hQW.out]
      have e2 : lostN ds (P.take k) = QN := by rw [hkl, List.take_length, hQN.out]
      rw [e2] at hown
      have hown := hown.base hzW
      clear e2 hq0
      subst e1
      go_wp2
      go_ret2
      exact ⟨_, rfl, hblw, hown⟩
end Go.Proofs.YtedealljhmokoaaDoor

namespace Go.Proofs.YtedealljhmokoaaDoor
open Go.ChangeShapes Go.WideShapes Go.ChangeAt Go.RowKit
set_option linter.unusedVariables false
set_option linter.unusedSimpArgs false
theorem badC_at {l : List Crt} {k : Nat} (hk : k < l.length) : badC hD l k = (taken (l.take k) l[k].hdr || decide (parF (l.take k) ((dsOf hD l).take k) l[k].hdr ≠ 0)) := by
  unfold badC; rw [List.getElem?_eq_getElem hk]
theorem parF_ne (l : List Crt) (ds : List (List UInt8)) (h : Hdr) : decide (parF l ds h ≠ 0) = (missW l ds h || decide (0 < (missN ds h).length)) := by
  unfold parF
  cases missW l ds h
  · simp only [Bool.false_eq_true, if_false, Bool.false_or]
    by_cases hz : (missN ds h).length = 0
    · rw [if_pos hz, hz]; decide
    · rw [if_neg hz]
      have : 0 < (missN ds h).length := by omega
      simp [this]
  · simp
theorem RSl.weak {α : Type} {sz bs : Nat} {R R' : View → List Value → α → Prop} (hR : ∀ h cs x, R h cs x → R' h cs x) {h : View} {v : Value} {xs : List α} (hr : RSl sz R bs h v xs) : RSl sz R' bs h v xs := by
  obtain ⟨A, c, e, h1, h2, h3, h4, h5⟩ := hr
  refine ⟨A, c, e, h1, h2, h3, h4, fun hp => ?_⟩
  obtain ⟨b, o, ea, hc⟩ := h5 hp
  exact ⟨b, o, ea, fun i hi => by obtain ⟨cs, k1, k2, k3⟩ := hc i hi; exact ⟨cs, k1, k2, hR _ _ _ k3⟩⟩
theorem certI_cases (l : List Crt) (a r : Int) : (certI l a r = -1 ∧ l.any (isCert a r) = false) ∨ ∃ k : Nat, certI l a r = k ∧ l.any (isCert a r) = true := by
  rcases idxI_cases (isCert a r) l with ⟨h1, h2⟩ | ⟨k, hk, h1, h2, _⟩
  · exact .inl ⟨h1, h2⟩
  · exact .inr ⟨k, h1, List.any_eq_true.2 ⟨_, List.getElem_mem hk, h2⟩⟩
theorem dsOf_len (l : List Crt) : (dsOf hD l).length = l.length := by unfold dsOf; simp
theorem dagF_big {l : List Crt} (h : 400 < l.length) : dagF hD cF l = 12 := by unfold dagF; rw [if_pos h]
theorem dagF_cert {l : List Crt} (h : ¬ 400 < l.length) {k : Nat} (hk : k < l.length) (hc : cF l[k] ≠ 0) : dagF hD cF l = 12 := by
  unfold dagF
  rw [if_neg h, if_pos (List.any_eq_true.2 ⟨l[k], List.getElem_mem hk, by simp [hc]⟩)]
theorem all_valid {l : List Crt} (h : ∀ j (hj : j < l.length), cF l[j] = 0) : ∀ c ∈ l, cF c = 0 := fun c hc => by
  obtain ⟨i, hi, rfl⟩ := List.getElem_of_mem hc
  exact h i hi
theorem dagF_rest {l : List Crt} (h : ¬ 400 < l.length) (hv : ∀ c ∈ l, cF c = 0) : dagF hD cF l = if (List.range l.length).any (badC hD l) then 12 else 0 := by
  unfold dagF
  rw [if_neg h, if_neg]
  rw [Bool.not_eq_true, List.any_eq_false]
  intro c hc
  simp [hv c hc]
set_option maxHeartbeats 4000000 in
set_option maxRecDepth 100000 in
theorem dagFault_any (vl : Value) (l : List Crt) (w : World) (hl : RCrts w.cell? vl l) :
    Calls Tryd.prog 32 #[.agg #[vl]] w fun e w' => e = .returned (.int .i64 (dagF hD cF l)) ∧ Below w.heap.size w w' := by
  obtain ⟨A, c, rfl, hform⟩ := id hl
  obtain ⟨_, hn1, hn2, hel⟩ := hl.at
  have Hel := Lib.hid hel
  have Hl := Lib.hid hl
  clear hel hl hform
  obtain ⟨Q, hQ⟩ : ∃ Q, Hid (dagF hD cF l = Q) := ⟨_, rfl⟩
  rw [hQ.out]
  by_cases hbig : 400 < l.length
  · have HQ : Hid (Q = 12) := by show _ = _; rw [← hQ.out, dagF_big hbig]
    clear hQ
    go_enter Tryd.func32, Tryd.ntmps32
    go_wp2
    go_ret
    exact ⟨ret_int HQ.out.symm, below_one _ _⟩
  have Hbig := Lib.hid hbig
  have hn4 : l.length ≤ 400 := by omega
  clear hbig
  go_enter Tryd.func32, Tryd.ntmps32
  go_upto_region 1 with fail
  refine one_block _ _ _ (fun W => Code.wp _ _ _ _ W) (fun W hbk hsz hbW => ?_)
  have hzW := hbW.size
  clear hsz
  have g0 := hbk.cell 0
  simp at g0
  go_wp2
  go_loopw [3] (fun i wr => ∃ k : Nat, k ≤ l.length ∧ i = .int .i64 k ∧ Hid (∀ j (hj : j < l.length), j < k → cF l[j] = 0) ∧ Below W.heap.size W wr) (fun i _ => l.length - (intOf i).toNat)
  case atStart => exact ⟨0, Nat.zero_le _, rfl, fun j _ hj => by omega, Below.refl _ _⟩
  case round =>
    clear g0
    obtain ⟨k, hk, rfl, hok, hbl⟩ := hrel
    have hbk' := hbk.kept hbl
    have g0 := hbk'.cell 0
    simp at g0
    have hblw := hbW.trans (hbl.mono hzW)
    by_cases hlt : k < l.length
    · obtain ⟨b0, o0, vb, vp, vv, rfl, q0, q1, q2, q3, q4, hb, hp, hv⟩ := Hel.out k hlt
      have c0 := vle_below hblw _ _ q0; have c1 := vle_below hblw _ _ q1; have c2 := vle_below hblw _ _ q2; have c3 := vle_below hblw _ _ q3; have c4 := vle_below hblw _ _ q4
      have hb' := Lib.hid (hb.mono RDig.mono (vle_below hblw))
      have hp' := Lib.hid (hp.mono RDig.mono (vle_below hblw))
      have hv' := Lib.hid (hv.mono (vle_below hblw))
      have hx : Hid (∀ e, cF l[k] = e → certF l[k].hdr.author l[k].hdr.round l[k].hdr.batches l[k].hdr.parents l[k].voters = e) := fun e h => h
      have hbadQ : Hid (cF l[k] ≠ 0 → Q = 12) := fun h => by rw [← hQ.out]; exact dagF_cert Hbig.out hlt h
      have hnext : Hid (cF l[k] = 0 → ∀ j (hj : j < l.length), j < k + 1 → cF l[j] = 0) := fun hq j hj hjk => by
        by_cases e : j = k
        · subst e; exact hq
        · exact hok.out j hj (by omega)
      clear q0 q1 q2 q3 q4 hb hp hv
      generalize l[k] = x at *
      obtain ⟨E, hE⟩ : ∃ E, Hid (cF x = E) := ⟨_, rfl⟩
      rw [hE.out] at hnext hbadQ
      go_wp2_with fail
      refine (certFault_any _ _ _ _ _ x.hdr.batches x.hdr.parents x.voters _ hb'.out hp'.out hv'.out).mono ?_
      rintro e w1 ⟨rfl, hb1⟩
      rw [hx.out _ hE.out]
      have hbl1 := hbl.trans (hb1.mono hbl.size)
      clear hb' hp' hv' c0 c1 c2 c3 c4 g0 hx
      by_cases h0 : E = 0
      · have hq := Lib.hid (hnext.out h0)
        clear hnext hbadQ
        subst h0
        go_wp2
        go_roundw
        case rel => exact ⟨k + 1, by omega, by go_num, hq.out, hbl1⟩
        case measure => simp [intOf]; omega
      · have HQ := Lib.hid (hbadQ.out h0)
        clear hnext hbadQ
        go_wp2
        go_ret
        exact ⟨ret_int HQ.out.symm, hbW.trans (hbl1.mono hzW)⟩
    · have hkl : k = l.length := by omega
      have hval := all_valid (fun j hj => hok.out j hj (by omega))
      have HQ1 : Hid (Q = if (List.range l.length).any (badC hD l) then 12 else 0) := by show _ = _; rw [← hQ.out, dagF_rest Hbig.out hval]
      have Hval := Lib.hid hval
      clear hval hQ hok
      go_wp2_with fail
      refine (digestsOf_any _ l _ (Hl.out.mono RCrt.mono (vle_below hblw)) (fun c hc => cF_hF (Hval.out c hc))).mono ?_
      rintro e w1 ⟨vd, rfl, hb1, od⟩
      have hbl1 := hbl.trans (hb1.mono hbl.size)
      have hblw1 := hbW.trans (hbl1.mono hzW)
      have hDl := dsOf_len l
      have rD := od.reads (RFrom.mono RDig.mono) (bs := 24) (by omega)
      have rD : RDigs w1.cell? vd (dsOf hD l) := RSl.weak (fun h cs x hr => RDig.mono _ _ _ _ hr (View.from_le _ _)) rD
      obtain ⟨dA, dc, rfl, hdc, hform⟩ := id rD
      clear hform
      rw [hDl] at hdc
      have HDl := Lib.hid hDl
      have RD := Lib.hid rD
      have hbk1 := hbk'.kept hb1
      have hz1 := hbl1.size
      clear g0
      have g0 := hbk1.cell 0
      simp at g0
      clear hbk' rD od hDl hkl hlt hk
      obtain ⟨DN, hDN⟩ : ∃ DN, Hid ((dsOf hD l).length = DN) := ⟨_, rfl⟩
      rw [hDN.out]
      have hDN' : DN = l.length := by rw [← hDN.out, HDl.out]
      go_wp2
      go_loopw [5, 6] (fun i _ wr => ∃ k : Nat, k ≤ l.length ∧ i = .int .i64 k ∧ Hid (∀ j, j < k → badC hD l j = false) ∧ Below W.heap.size W wr ∧ Below w1.heap.size w1 wr) (fun i _ _ => l.length - (intOf i).toNat)
      case atStart => exact ⟨0, Nat.zero_le _, rfl, fun j hj => by omega, hbl1, Below.refl _ _⟩
      case round =>
        clear g0
        obtain ⟨k, hk, rfl, hok, hbl2, hbl12⟩ := hrel
        have hbk2 := hbk.kept hbl2
        have g0 := hbk2.cell 0
        simp at g0
        have hz2 := hbl2.size
        have hblw2 := hbW.trans (hbl2.mono hzW)
        by_cases hlt : k < l.length
        · obtain ⟨b0, o0, vb, vp, vv, rfl, q0, q1, q2, q3, q4, hb, hp, hv⟩ := Hel.out k hlt
          have c0 := vle_below hblw2 _ _ q0; have c1 := vle_below hblw2 _ _ q1; have c2 := vle_below hblw2 _ _ q2; have c3 := vle_below hblw2 _ _ q3
          have hpw := hp
          have Hb := Lib.hid (badC_at hlt)
          have Hr := Lib.hid (headF_zero (cF_hF (Hval.out l[k] (List.getElem_mem hlt))))
          have hsub := (Hl.out.take (k := k) (by omega)).mono RCrt.mono (vle_below hblw2)
          have hsubD := (RD.out.take (k := k) (by rw [HDl.out]; omega)).mono RDig.mono (vle_below hbl12)
          have hlsub : ((dsOf hD l).take k).length ≤ (l.take k).length := by rw [List.length_take, List.length_take, HDl.out]; omega
          have hkc : k ≤ c := by omega
          have hkc' : (k : Int) ≤ (c : Int) := by omega
          have hkd : k ≤ dc := by omega
          have hkd' : (k : Int) ≤ (dc : Int) := by omega
          have hnext : Hid (badC hD l k = false → ∀ j, j < k + 1 → badC hD l j = false) := fun hq j hj => by
            by_cases e : j = k
            · subst e; exact hq
            · exact hok.out j (by omega)
          have hbadQ : Hid (badC hD l k = true → Q = 12) := fun h => by rw [HQ1.out, if_pos (any_range_true hlt h)]
          obtain ⟨bA, bc, rfl, hf1⟩ := id hb
          obtain ⟨pA, pc, rfl, hf2⟩ := id hp
          clear q0 q1 q2 q3 q4 hb hp hv hf1 hf2
          generalize l[k] = x at *
          generalize l.take k = L at hsub Hb hlsub
          generalize (dsOf hD l).take k = Ds at hsubD Hb hlsub
          generalize badC hD l k = BK at Hb hnext hbadQ
          have hx1 : Hid (taken L x.hdr = L.any (isCert x.hdr.author x.hdr.round)) := rfl
          go_wp2_with fail
          refine one_block _ _ _ (fun W => (Code.region _ _ _).wp _ _ _ W) (fun W2 hk2 hsz2 hbW2 => ?_)
          clear hsz2 c0 c1 c2 c3 g0
          have hblw3 := hblw2.trans (hbW2.mono hblw2.size)
          have hbl3 := hbl2.trans (hbW2.mono hz2)
          have hbk3 := hbk2.kept hbW2
          have hsub := hsub.mono RCrt.mono (vle_below hbW2)
          have hsubD := hsubD.mono RDig.mono (vle_below hbW2)
          have hp3 := hpw.mono RDig.mono (vle_below hblw3)
          clear hpw
          refine wp_region_pl (fun w' => Below W2.heap.size W2 w') [] (.q 0 (.q 1 (.q 2 (.q 3 (.q 4 (.q 5 (.q 6 (.q 7 (.l 8 (.q 9 (.q 10 (.q 11 (.q 12 (.q 13 (.q 14 (.q 15 (.q 16 (.q 17 (.q 18 (.l 19 (.q 20 (.q 21 .nil)))))))))))))))))))))) (by kernel_rfl) (by kernel_rfl) (fun _ _ d _ _ h => by cases d <;> exact h) rfl (by kernel_rfl) ?_ ?_
          · exact below_drew _
          intro W3 hS3
          have hblS : ∀ W', Below W2.heap.size W2 W' → Below W.heap.size W W' := fun W' h => hbl3.trans (h.mono hbl3.size)
          repeat (first
            | (refine pl_q (by assumption) rfl rfl ?_; apply Exists.intro; refine ⟨fun w' hS => ?_, ?_⟩; (· (have hq := hbk3.kept hS; have h0 := hq.cell 0; have hh := hk2.kept hS; have h1 := hh.cell 0; have h2 := hh.cell 1; simp at h0 h1 h2; go_simp; exact rfl)); simp only [List.getElem_toArray, List.getElem_cons_zero, List.getElem_cons_succ, Act.put, List.setIfInBounds_toArray, List.set_cons_zero, List.set_cons_succ])
            | (refine pl_qc rfl rfl ?_; apply Exists.intro; refine ⟨fun w' _ => ?_, ?_⟩; (· (go_simp; exact rfl)); simp only [List.getElem_toArray, List.getElem_cons_zero, List.getElem_cons_succ, Act.put, List.setIfInBounds_toArray, List.set_cons_zero, List.set_cons_succ])
            | (refine pl_skip (by assumption) rfl rfl ?_; simp only [List.getElem_toArray, List.getElem_cons_zero, List.getElem_cons_succ, Act.put, List.setIfInBounds_toArray, List.set_cons_zero, List.set_cons_succ])
            | (refine pl_skipl (by assumption) rfl rfl ?_; simp only [List.getElem_toArray, List.getElem_cons_zero, List.getElem_cons_succ, Act.put, List.setIfInBounds_toArray, List.set_cons_zero, List.set_cons_succ]))
          first
            | refine pl_do rfl rfl (fun K hK => ?_)
            | refine op_do rfl rfl (fun K hK => ?_)
          try simp only [List.getElem_toArray, List.getElem_cons_zero, List.getElem_cons_succ]
          go_simp
          refine (certOf_any _ L x.hdr.author x.hdr.round _ (hsub.mono RCrt.mono (vle_below hS3))).mono ?_
          rintro e w4 ⟨rfl, hb4⟩
          have hb5 := hS3.trans (hb4.mono hS3.size)
          rcases certI_cases L x.hdr.author x.hdr.round with ⟨e1, e2⟩ | ⟨j, e1, e2⟩
          · rw [e1]
            have Hb2 : Hid (BK = decide (parF L Ds x.hdr ≠ 0)) := by show _ = _; rw [Hb.out, hx1.out, e2]; rfl
            clear e1 e2 Hb hx1
            refine hK.out _ _ (hb5) (fun hS => ?_)
            clear hK K
            try simp only [List.getElem_toArray, List.getElem_cons_zero, List.getElem_cons_succ, Act.put, List.setIfInBounds_toArray, List.set_cons_zero, List.set_cons_succ]
            repeat (first
              | (refine pl_q (by assumption) rfl rfl ?_; apply Exists.intro; refine ⟨fun w' hS => ?_, ?_⟩; (· (have hq := hbk3.kept hS; have h0 := hq.cell 0; have hh := hk2.kept hS; have h1 := hh.cell 0; have h2 := hh.cell 1; have h3 := hh.cell 2; have h4 := hh.cell 3; simp at h0 h1 h2 h3 h4; go_simp; exact rfl)); simp only [List.getElem_toArray, List.getElem_cons_zero, List.getElem_cons_succ, Act.put, List.setIfInBounds_toArray, List.set_cons_zero, List.set_cons_succ])
              | (refine pl_qc rfl rfl ?_; apply Exists.intro; refine ⟨fun w' _ => ?_, ?_⟩; (· (go_simp; exact rfl)); simp only [List.getElem_toArray, List.getElem_cons_zero, List.getElem_cons_succ, Act.put, List.setIfInBounds_toArray, List.set_cons_zero, List.set_cons_succ])
              | (refine pl_skip (by assumption) rfl rfl ?_; simp only [List.getElem_toArray, List.getElem_cons_zero, List.getElem_cons_succ, Act.put, List.setIfInBounds_toArray, List.set_cons_zero, List.set_cons_succ])
              | (refine pl_skipl (by assumption) rfl rfl ?_; simp only [List.getElem_toArray, List.getElem_cons_zero, List.getElem_cons_succ, Act.put, List.setIfInBounds_toArray, List.set_cons_zero, List.set_cons_succ]))
            first
              | refine pl_do rfl rfl (fun K hK => ?_)
              | refine op_do rfl rfl (fun K hK => ?_)
            try simp only [List.getElem_toArray, List.getElem_cons_zero, List.getElem_cons_succ]
            go_simp
            refine (parentsFault_any _ _ L Ds x.hdr _ _ _ (hsub.mono RCrt.mono (vle_below hb5)) (hsubD.mono RDig.mono (vle_below hb5)) (hp3.mono RDig.mono (vle_below hb5)) hlsub Hr.out.1 Hr.out.2.1).mono ?_
            rintro e w6 ⟨rfl, hb6⟩
            have hb7 := hb5.trans (hb6.mono hb5.size)
            obtain ⟨PF, hPF⟩ : ∃ PF, Hid (parF L Ds x.hdr = PF) := ⟨_, rfl⟩
            rw [hPF.out]
            rw [hPF.out] at Hb2
            by_cases h0 : PF = 0
            · have hq := Lib.hid (hnext.out (by rw [Hb2.out]; simp [h0]))
              clear hnext hbadQ Hb2 hPF
              subst h0
              refine hK.out _ _ (hb7) (fun hS => ?_)
              clear hK K
              try simp only [List.getElem_toArray, List.getElem_cons_zero, List.getElem_cons_succ, Act.put, List.setIfInBounds_toArray, List.set_cons_zero, List.set_cons_succ]
              repeat (first
                | (refine pl_q (by assumption) rfl rfl ?_; apply Exists.intro; refine ⟨fun w' hS => ?_, ?_⟩; (· (skip; go_simp; exact rfl)); simp only [List.getElem_toArray, List.getElem_cons_zero, List.getElem_cons_succ, Act.put, List.setIfInBounds_toArray, List.set_cons_zero, List.set_cons_succ])
                | (refine pl_qc rfl rfl ?_; apply Exists.intro; refine ⟨fun w' _ => ?_, ?_⟩; (· (go_simp; exact rfl)); simp only [List.getElem_toArray, List.getElem_cons_zero, List.getElem_cons_succ, Act.put, List.setIfInBounds_toArray, List.set_cons_zero, List.set_cons_succ])
                | (refine pl_skip (by assumption) rfl rfl ?_; simp only [List.getElem_toArray, List.getElem_cons_zero, List.getElem_cons_succ, Act.put, List.setIfInBounds_toArray, List.set_cons_zero, List.set_cons_succ])
                | (refine pl_skipl (by assumption) rfl rfl ?_; simp only [List.getElem_toArray, List.getElem_cons_zero, List.getElem_cons_succ, Act.put, List.setIfInBounds_toArray, List.set_cons_zero, List.set_cons_succ]))
              refine pl_nil ?_
              go_wp2
              go_roundw
              case rel => exact ⟨k + 1, by omega, by go_num, hq.out, hblS _ hb7, (hbl12.trans (hbW2.mono hbl12.size)).trans (hb7.mono (Nat.le_trans hbl12.size hbW2.size))⟩
              case measure => simp [intOf]; omega
            · have HQ := Lib.hid (hbadQ.out (by rw [Hb2.out]; simp [h0]))
              clear hnext hbadQ Hb2 hPF
              refine hK.out _ _ (hb7) (fun hS => ?_)
              clear hK K
              try simp only [List.getElem_toArray, List.getElem_cons_zero, List.getElem_cons_succ, Act.put, List.setIfInBounds_toArray, List.set_cons_zero, List.set_cons_succ]
              repeat (first
                | (refine pl_q (by assumption) rfl rfl ?_; apply Exists.intro; refine ⟨fun w' hS => ?_, ?_⟩; (· (skip; go_simp; exact rfl)); simp only [List.getElem_toArray, List.getElem_cons_zero, List.getElem_cons_succ, Act.put, List.setIfInBounds_toArray, List.set_cons_zero, List.set_cons_succ])
                | (refine pl_qc rfl rfl ?_; apply Exists.intro; refine ⟨fun w' _ => ?_, ?_⟩; (· (go_simp; exact rfl)); simp only [List.getElem_toArray, List.getElem_cons_zero, List.getElem_cons_succ, Act.put, List.setIfInBounds_toArray, List.set_cons_zero, List.set_cons_succ])
                | (refine pl_skip (by assumption) rfl rfl ?_; simp only [List.getElem_toArray, List.getElem_cons_zero, List.getElem_cons_succ, Act.put, List.setIfInBounds_toArray, List.set_cons_zero, List.set_cons_succ])
                | (refine pl_skipl (by assumption) rfl rfl ?_; simp only [List.getElem_toArray, List.getElem_cons_zero, List.getElem_cons_succ, Act.put, List.setIfInBounds_toArray, List.set_cons_zero, List.set_cons_succ]))
              refine pl_nil ?_
              go_wp2
              go_ret
              exact ⟨ret_int HQ.out.symm, hbW.trans ((hblS _ hb7).mono hzW)⟩
          · rw [e1]
            have HQ := Lib.hid (hbadQ.out (by rw [Hb.out, hx1.out, e2]; rfl))
            clear e1 e2 Hb hx1 hnext hbadQ
            refine hK.out _ _ (hb5) (fun hS => ?_)
            clear hK K
            try simp only [List.getElem_toArray, List.getElem_cons_zero, List.getElem_cons_succ, Act.put, List.setIfInBounds_toArray, List.set_cons_zero, List.set_cons_succ]
            repeat (first
              | (refine pl_q (by assumption) rfl rfl ?_; apply Exists.intro; refine ⟨fun w' hS => ?_, ?_⟩; (· (skip; go_simp; exact rfl)); simp only [List.getElem_toArray, List.getElem_cons_zero, List.getElem_cons_succ, Act.put, List.setIfInBounds_toArray, List.set_cons_zero, List.set_cons_succ])
              | (refine pl_qc rfl rfl ?_; apply Exists.intro; refine ⟨fun w' _ => ?_, ?_⟩; (· (go_simp; exact rfl)); simp only [List.getElem_toArray, List.getElem_cons_zero, List.getElem_cons_succ, Act.put, List.setIfInBounds_toArray, List.set_cons_zero, List.set_cons_succ])
              | (refine pl_skip (by assumption) rfl rfl ?_; simp only [List.getElem_toArray, List.getElem_cons_zero, List.getElem_cons_succ, Act.put, List.setIfInBounds_toArray, List.set_cons_zero, List.set_cons_succ])
              | (refine pl_skipl (by assumption) rfl rfl ?_; simp only [List.getElem_toArray, List.getElem_cons_zero, List.getElem_cons_succ, Act.put, List.setIfInBounds_toArray, List.set_cons_zero, List.set_cons_succ]))
            refine pl_nil ?_
            go_wp2
            go_ret
            exact ⟨ret_int HQ.out.symm, hbW.trans ((hblS _ hb5).mono hzW)⟩
        · have HQ : Hid (Q = 0) := by
            show _ = _
            rw [HQ1.out, if_neg]
            rw [Bool.not_eq_true]
            exact any_range_false fun j hj => hok.out j (by omega)
          go_wp2
          go_ret
          exact ⟨ret_int HQ.out.symm, hblw2⟩
end Go.Proofs.YtedealljhmokoaaDoor

namespace Go.Proofs.YtedealljhmokoaaDoor
open Go.Shelf
def sortCrt_ren : Go.Shelf.Ren := ⟨fun | 6 => 123 | 15 => 137 | 14 => 136 | 28 => 150 | 29 => 151 | 20 => 142 | 21 => 143 | 22 => 144 | 23 => 145 | 24 => 146 | 25 => 147 | 26 => 148 | 27 => 149 | 46 => 163 | 47 => 164 | 48 => 165 | 49 => 166 | 50 => 167 | 57 => 172 | n => n, fun | 22 => 51 | 24 => 60 | 25 => 141 | 3 => 3 | 39 => 125 | 0 => 0 | 53 => 147 | 55 => 178 | 4 => 4 | 46 => 170 | 45 => 169 | 50 => 174 | 5 => 5 | 9 => 9 | 66 => 187 | 70 => 191 | 76 => 195 | 77 => 196 | n => n, fun | n => n⟩
theorem sortCrt : Go.Proofs.SlLaysF0.n6 Tryd.prog sortCrt_ren := {
  mixed := by kernel_rfl
  f6 := ⟨Tryd.f123.name, by decide, Tryd.func123.trans (congrArg some (by kernel_rfl))⟩
  f14 := ⟨Tryd.f136.name, by decide, Tryd.func136.trans (congrArg some (by kernel_rfl))⟩
  f15 := Tryd.func137.trans (congrArg some (by kernel_rfl))
  f20 := ⟨Tryd.f142.name, by decide, Tryd.func142.trans (congrArg some (by kernel_rfl))⟩
  f21 := ⟨Tryd.f143.name, by decide, Tryd.func143.trans (congrArg some (by kernel_rfl))⟩
  f22 := ⟨Tryd.f144.name, by decide, Tryd.func144.trans (congrArg some (by kernel_rfl))⟩
  f23 := ⟨Tryd.f145.name, by decide, Tryd.func145.trans (congrArg some (by kernel_rfl))⟩
  f24 := ⟨Tryd.f146.name, by decide, Tryd.func146.trans (congrArg some (by kernel_rfl))⟩
  f25 := ⟨Tryd.f147.name, by decide, Tryd.func147.trans (congrArg some (by kernel_rfl))⟩
  f26 := ⟨Tryd.f148.name, by decide, Tryd.func148.trans (congrArg some (by kernel_rfl))⟩
  f27 := ⟨Tryd.f149.name, by decide, Tryd.func149.trans (congrArg some (by kernel_rfl))⟩
  f28 := Tryd.func150.trans (congrArg some (by kernel_rfl))
  f29 := Tryd.func151.trans (congrArg some (by kernel_rfl))
  f46 := ⟨Tryd.f163.name, by decide, Tryd.func163.trans (congrArg some (by kernel_rfl))⟩
  f47 := Tryd.func164.trans (congrArg some (by kernel_rfl))
  f48 := Tryd.func165.trans (congrArg some (by kernel_rfl))
  f49 := ⟨Tryd.f166.name, by decide, Tryd.func166.trans (congrArg some (by kernel_rfl))⟩
  f50 := ⟨Tryd.f167.name, by decide, Tryd.func167.trans (congrArg some (by kernel_rfl))⟩
  f57 := ⟨Tryd.f172.name, by decide, Tryd.func172.trans (congrArg some (by kernel_rfl))⟩
  t0 := Tryd.underlying0
  a0 := Tryd.isAgg0
  z0 := Tryd.sizeOf0
  v0 := Tryd.zeroValue0
  t3 := Tryd.underlying3
  a3 := Tryd.isAgg3
  z3 := Tryd.sizeOf3
  v3 := Tryd.zeroValue3
  t4 := Tryd.underlying4
  a4 := Tryd.isAgg4
  z4 := Tryd.sizeOf4
  v4 := Tryd.zeroValue4
  t5 := Tryd.underlying5
  a5 := Tryd.isAgg5
  z5 := Tryd.sizeOf5
  v5 := Tryd.zeroValue5
  t9 := Tryd.underlying9
  a9 := Tryd.isAgg9
  z9 := Tryd.sizeOf9
  v9 := Tryd.zeroValue9
  t22 := Tryd.underlying51
  a22 := Tryd.isAgg51
  z22 := Tryd.sizeOf51
  v22 := Tryd.zeroValue51
  t25 := Tryd.underlying141
  a25 := Tryd.isAgg141
  z25 := Tryd.sizeOf141
  v25 := Tryd.zeroValue141
  t39 := Tryd.underlying125
  a39 := Tryd.isAgg125
  z39 := Tryd.sizeOf125
  v39 := Tryd.zeroValue125
  t45 := Tryd.underlying169
  a45 := Tryd.isAgg169
  z45 := Tryd.sizeOf169
  v45 := Tryd.zeroValue169
  t46 := Tryd.underlying170
  a46 := Tryd.isAgg170
  z46 := Tryd.sizeOf170
  v46 := Tryd.zeroValue170
  t50 := Tryd.underlying174
  a50 := Tryd.isAgg174
  z50 := Tryd.sizeOf174
  v50 := Tryd.zeroValue174
  t53 := Tryd.underlying147
  a53 := Tryd.isAgg147
  z53 := Tryd.sizeOf147
  v53 := Tryd.zeroValue147
  t55 := Tryd.underlying178
  a55 := Tryd.isAgg178
  z55 := Tryd.sizeOf178
  v55 := Tryd.zeroValue178
  t66 := Tryd.underlying187
  a66 := Tryd.isAgg187
  z66 := Tryd.sizeOf187
  v66 := Tryd.zeroValue187
  t70 := Tryd.underlying191
  a70 := Tryd.isAgg191
  z70 := Tryd.sizeOf191
  v70 := Tryd.zeroValue191
  t76 := Tryd.underlying195
  a76 := Tryd.isAgg195
  z76 := Tryd.sizeOf195
  v76 := Tryd.zeroValue195
  t77 := Tryd.underlying196
  a77 := Tryd.isAgg196
  z77 := Tryd.sizeOf196
  v77 := Tryd.zeroValue196 }
def sortInt_ren : Go.Shelf.Ren := ⟨fun | 6 => 126 | 15 => 137 | 14 => 138 | 28 => 150 | 29 => 151 | 20 => 152 | 21 => 153 | 22 => 154 | 23 => 155 | 24 => 156 | 25 => 157 | 26 => 158 | 27 => 159 | 46 => 168 | 47 => 164 | 48 => 165 | 49 => 169 | 50 => 170 | 57 => 173 | n => n, fun | 22 => 58 | 24 => 3 | 25 => 145 | 3 => 3 | 39 => 125 | 0 => 0 | 53 => 147 | 55 => 178 | 4 => 4 | 46 => 170 | 45 => 169 | 50 => 174 | 5 => 5 | 9 => 9 | 66 => 187 | 70 => 191 | 76 => 195 | 77 => 196 | n => n, fun | n => n⟩
theorem sortInt : Go.Proofs.SlLaysF.n6 Tryd.prog sortInt_ren := {
  mixed := by kernel_rfl
  f6 := ⟨Tryd.f126.name, by decide, Tryd.func126.trans (congrArg some (by kernel_rfl))⟩
  f14 := ⟨Tryd.f138.name, by decide, Tryd.func138.trans (congrArg some (by kernel_rfl))⟩
  f15 := Tryd.func137.trans (congrArg some (by kernel_rfl))
  f20 := ⟨Tryd.f152.name, by decide, Tryd.func152.trans (congrArg some (by kernel_rfl))⟩
  f21 := ⟨Tryd.f153.name, by decide, Tryd.func153.trans (congrArg some (by kernel_rfl))⟩
  f22 := ⟨Tryd.f154.name, by decide, Tryd.func154.trans (congrArg some (by kernel_rfl))⟩
  f23 := ⟨Tryd.f155.name, by decide, Tryd.func155.trans (congrArg some (by kernel_rfl))⟩
  f24 := ⟨Tryd.f156.name, by decide, Tryd.func156.trans (congrArg some (by kernel_rfl))⟩
  f25 := ⟨Tryd.f157.name, by decide, Tryd.func157.trans (congrArg some (by kernel_rfl))⟩
  f26 := ⟨Tryd.f158.name, by decide, Tryd.func158.trans (congrArg some (by kernel_rfl))⟩
  f27 := ⟨Tryd.f159.name, by decide, Tryd.func159.trans (congrArg some (by kernel_rfl))⟩
  f28 := Tryd.func150.trans (congrArg some (by kernel_rfl))
  f29 := Tryd.func151.trans (congrArg some (by kernel_rfl))
  f46 := ⟨Tryd.f168.name, by decide, Tryd.func168.trans (congrArg some (by kernel_rfl))⟩
  f47 := Tryd.func164.trans (congrArg some (by kernel_rfl))
  f48 := Tryd.func165.trans (congrArg some (by kernel_rfl))
  f49 := ⟨Tryd.f169.name, by decide, Tryd.func169.trans (congrArg some (by kernel_rfl))⟩
  f50 := ⟨Tryd.f170.name, by decide, Tryd.func170.trans (congrArg some (by kernel_rfl))⟩
  f57 := ⟨Tryd.f173.name, by decide, Tryd.func173.trans (congrArg some (by kernel_rfl))⟩
  t0 := Tryd.underlying0
  a0 := Tryd.isAgg0
  z0 := Tryd.sizeOf0
  v0 := Tryd.zeroValue0
  t3 := Tryd.underlying3
  a3 := Tryd.isAgg3
  z3 := Tryd.sizeOf3
  v3 := Tryd.zeroValue3
  t4 := Tryd.underlying4
  a4 := Tryd.isAgg4
  z4 := Tryd.sizeOf4
  v4 := Tryd.zeroValue4
  t5 := Tryd.underlying5
  a5 := Tryd.isAgg5
  z5 := Tryd.sizeOf5
  v5 := Tryd.zeroValue5
  t9 := Tryd.underlying9
  a9 := Tryd.isAgg9
  z9 := Tryd.sizeOf9
  v9 := Tryd.zeroValue9
  t22 := Tryd.underlying58
  a22 := Tryd.isAgg58
  z22 := Tryd.sizeOf58
  v22 := Tryd.zeroValue58
  a24 := Tryd.isAgg3
  z24 := Tryd.sizeOf3
  t25 := Tryd.underlying145
  a25 := Tryd.isAgg145
  z25 := Tryd.sizeOf145
  v25 := Tryd.zeroValue145
  t39 := Tryd.underlying125
  a39 := Tryd.isAgg125
  z39 := Tryd.sizeOf125
  v39 := Tryd.zeroValue125
  t45 := Tryd.underlying169
  a45 := Tryd.isAgg169
  z45 := Tryd.sizeOf169
  v45 := Tryd.zeroValue169
  t46 := Tryd.underlying170
  a46 := Tryd.isAgg170
  z46 := Tryd.sizeOf170
  v46 := Tryd.zeroValue170
  t50 := Tryd.underlying174
  a50 := Tryd.isAgg174
  z50 := Tryd.sizeOf174
  v50 := Tryd.zeroValue174
  t53 := Tryd.underlying147
  a53 := Tryd.isAgg147
  z53 := Tryd.sizeOf147
  v53 := Tryd.zeroValue147
  t55 := Tryd.underlying178
  a55 := Tryd.isAgg178
  z55 := Tryd.sizeOf178
  v55 := Tryd.zeroValue178
  t66 := Tryd.underlying187
  a66 := Tryd.isAgg187
  z66 := Tryd.sizeOf187
  v66 := Tryd.zeroValue187
  t70 := Tryd.underlying191
  a70 := Tryd.isAgg191
  z70 := Tryd.sizeOf191
  v70 := Tryd.zeroValue191
  t76 := Tryd.underlying195
  a76 := Tryd.isAgg195
  z76 := Tryd.sizeOf195
  v76 := Tryd.zeroValue195
  t77 := Tryd.underlying196
  a77 := Tryd.isAgg196
  z77 := Tryd.sizeOf196
  v77 := Tryd.zeroValue196 }
end Go.Proofs.YtedealljhmokoaaDoor

namespace Go.Proofs.YtedealljhmokoaaDoor
open Go.ChangeShapes Go.WideShapes Go.ChangeAt Go.RowKit
set_option linter.unusedVariables false
set_option linter.unusedSimpArgs false
/-- a certificate of one of the four, and where its rows lie -/
structure CV where
  x : Crt
  lo : 0 ≤ x.hdr.author
  hi : x.hdr.author ≤ 3
  b : Option Addr
  bc : Nat
  p : Option Addr
  pc : Nat
  v : Option Addr
  vc : Nat
instance : Inhabited CV := ⟨⟨⟨⟨0, 0, [], []⟩, []⟩, by decide, by decide, none, 0, none, 0, none, 0⟩⟩
def encC (y : CV) : List Value := [.int .i64 y.x.hdr.author, .int .i64 y.x.hdr.round, .slice y.b y.x.hdr.batches.length y.bc, .slice y.p y.x.hdr.parents.length y.pc, .slice y.v y.x.voters.length y.vc]
theorem get_bang (l : List Value) {j : Nat} (h : j < l.length) : l[j]? = some l[j]! := by
  rw [List.getElem?_eq_getElem h, getElem!_pos l j h]
def cfC (a b : CV) : Int := a.x.hdr.author - b.x.hdr.author
theorem ltC (a b : CV) : ltOf cfC a b = decide (a.x.hdr.author < b.x.hdr.author) := by
  unfold ltOf cfC
  by_cases h : a.x.hdr.author < b.x.hdr.author
  · simp [h]; omega
  · simp [h]; omega
theorem swoC : Sort.SWO (ltOf cfC) where
  irrefl x := by rw [ltC]; simp
  trans x y z h1 h2 := by rw [ltC] at *; simp at *; omega
  ntrans x y z h1 h2 := by rw [ltC] at *; simp at *; omega
set_option maxHeartbeats 1000000 in
set_option maxRecDepth 100000 in
theorem ofCmp_any (x y : CV) (W : World) : Calls Tryd.prog 124 #[.agg (encC x).toArray, .agg (encC y).toArray] W fun e w' => e = .returned (.int .i64 (cfC x y)) ∧ ∃ q os', w' = Sort.grow (W.drewN q) os' := by
  obtain ⟨x, xlo, xhi, b1, bc1, p1, pc1, v1, vc1⟩ := x
  obtain ⟨y, ylo, yhi, b2, bc2, p2, pc2, v2, vc2⟩ := y
  simp only [encC, cfC]
  generalize x.hdr.author = a at *
  generalize y.hdr.author = b at *
  go_enter Tryd.func124, Tryd.ntmps124
  go_wp2
  go_ret
  exact ⟨rfl, 0, _, by rw [Sort.alloc_eq_grow, Sort.alloc_eq_grow, Sort.grow_grow]; rfl⟩
theorem cmpLaysC (blk off size : Nat) (w : World) : CmpLays Tryd.prog 124 #[] encC 5 cfC blk off size w := fun _ _ _ _ x y => ofCmp_any x y _
theorem sortWorldK_grown {α : Type} [Inhabited α] (enc : α → List Value) (k : Nat) (w : World) (blk off n : Nat) (d : Array α) (os : Array Obj) (hb : blk < w.heap.size) : w.grownBy (sortWorldK enc k w blk off n d os) (some blk) := by
  refine ⟨rfl, rfl, rfl, size_sortWorldK_c enc k w blk off n d os, fun i hi hne => ?_⟩
  unfold sortWorldK
  rw [Sort.heap_grow_old _ _ (by rw [Sort.size_putRowK]; exact hi)]
  show ((Sort.ahead w n).heap.modify blk _)[i]? = _
  rw [Array.getElem?_modify, if_neg (fun e => hne (by rw [e]))]
  rfl
theorem noneC (h : View) : RCrts h (.slice none 0 0) [] := ⟨none, 0, rfl, Nat.le_refl _, Nat.zero_le _, by simp, fun _ => rfl, fun h => by simp at h⟩
set_option maxHeartbeats 2000000 in
set_option maxRecDepth 100000 in
theorem sortCrts_any {w0 : World} (v : Value) (xs : List Crt) (W : World) (b : Nat) (hown : OwnSl 5 (fun _ cs x => RCrt w0.cell? cs x) 60 W b v xs) (hA : Auth xs) (hl : xs.length ≤ 400) (hb0 : Below w0.heap.size w0 W) (hbb : w0.heap.size ≤ b) :
    Calls Tryd.prog 123 #[v, .func (.func 124) #[] #[]] W fun e w' => e = .returned (.tuple #[]) ∧ Below w0.heap.size w0 w' ∧ ∃ ys, ys.Perm xs ∧ (ys.Pairwise fun x y => x.hdr.author ≤ y.hdr.author) ∧ RCrts w'.cell? v ys := by
  have hr := hown.reads (bs := 88) (fun _ _ _ _ h _ => h) (by omega)
  obtain ⟨css, h1, _, _⟩ := hown.own
  rcases h1.2 with ⟨rfl, hn⟩ | ⟨g, cap, cur, rfl, hbg, hc, hncap, hcap, hcs, _⟩
  · have hx : xs = [] := List.eq_nil_of_length_eq_zero hn
    subst hx
    refine (AnyF.slices_SortFunc_none sortCrt none 0 _ W).mono ?_
    rintro e w' ⟨rfl, rfl⟩
    exact ⟨rfl, hb0, [], List.Perm.refl _, List.Pairwise.nil, noneC _⟩
  · obtain ⟨A', c', e, _, _, hbd, _, hel⟩ := hr
    injection e with e1 e2 e3
    subst e1 e3
    have hex : ∀ i (hi : i < xs.length), ∃ y : CV, y.x = xs[i] ∧ RCrt w0.cell? (encC y) y.x ∧ ∀ j, j < 5 → W.cell? ⟨g, 0 + i * 5 + j, none⟩ = (encC y)[j]? := fun i hi => by
      obtain ⟨b', o', ea, hcc⟩ := hel (by omega)
      injection ea with ea
      injection ea with eb eo _
      subst eb eo
      obtain ⟨cs, _, hcell, vb, vp, vv, rfl, r1, r2, r3⟩ := hcc i hi
      obtain ⟨bA, bc, rfl, _⟩ := id r1
      obtain ⟨pA, pc, rfl, _⟩ := id r2
      obtain ⟨vA, vc, rfl, _⟩ := id r3
      have ha := hA _ (List.getElem_mem hi)
      exact ⟨⟨xs[i], ha.1, ha.2, bA, bc, pA, pc, vA, vc⟩, rfl, ⟨_, _, _, rfl, r1, r2, r3⟩, hcell⟩
    obtain ⟨d, hds, hd⟩ : ∃ d : Array CV, ∃ hs : d.size = xs.length, ∀ i (hi : i < xs.length), (d[i]'(by omega)).x = xs[i] ∧ RCrt w0.cell? (encC (d[i]'(by omega))) (d[i]'(by omega)).x ∧ ∀ j, j < 5 → W.cell? ⟨g, 0 + i * 5 + j, none⟩ = (encC (d[i]'(by omega)))[j]? :=
      ⟨Array.ofFn (fun i : Fin xs.length => Classical.choose (hex i i.2)), by simp, fun i hi => by simpa using Classical.choose_spec (hex i hi)⟩
    have hH : Sort.HoldsK encC 5 W g 0 d := fun t ht => by
      rw [Sort.size_flatK] at ht
      have h5 : t / 5 < xs.length := by omega
      have hq := (hd (t / 5) h5).2.2 (t % 5) (by omega)
      rw [show 0 + t / 5 * 5 + t % 5 = 0 + t by omega] at hq
      rw [Sort.get_flatK _ _ _ _ ht]
      refine ⟨?_, ?_⟩
      · rw [hq, getElem!_pos d (t / 5) (by omega)]
        exact get_bang _ (show t % 5 < 5 by omega)
      · exact Blk.frozen (show Blk W g 60 cur from hc) _
    have hmap : d.toList.map (·.x) = xs := by
      apply List.ext_getElem
      · simp [hds]
      · intro i h1 h2
        simp only [List.getElem_map, Array.getElem_toList]
        exact (hd i h2).1
    have eg : ∀ args w, (callFunc 124 args).run Tryd.prog w = .ok (.enter 124 args) w := enters_of Tryd.func124 (by kernel_rfl) rfl
    have hcon := AnyQ.slices_SortFunc sortCrt 5 (fun w => by kernel_rfl) (fun w => by kernel_rfl) encC (fun _ => rfl) (fun x v hv => by simp [encC] at hv; rcases hv with rfl | rfl | rfl | rfl | rfl <;> rfl) cfC swoC 124 #[] g 0 cap d W eg (cmpLaysC g 0 d.size W) hH (by exact (Array.getElem?_eq_some_iff.1 hc).1) (by omega)
    rw [hds] at hcon
    refine hcon.mono ?_
    rintro e w' ⟨rfl, d', n, os, hp, hs, rfl⟩
    have hlt : g < W.heap.size := (Array.getElem?_eq_some_iff.1 hc).1
    have hg := sortWorldK_grown encC 5 W g 0 n d' os hlt
    have hbl : Below w0.heap.size w0 (sortWorldK encC 5 W g 0 n d' os) := below_grownBy hb0 hb0.size hg (by intro k e; injection e with e; omega)
    have hds' : d'.size = xs.length := hp.1.trans hds
    have hperm : d'.toList.Perm d.toList := by
      have h2 := hp.2.2
      rw [← hds] at h2
      simp at h2
      rw [List.take_of_length_le (by simp [hp.1])] at h2
      exact h2
    have hH' := holdsK_sortWorldK_c encC 5 W g 0 d d' n os hH hlt hp.1
    refine ⟨rfl, hbl, d'.toList.map (·.x), by rw [← hmap]; exact hperm.map _, ?_, ?_⟩
    · rw [List.pairwise_map, List.pairwise_iff_getElem]
      intro i j hi hj hij
      simp at hi hj
      have := hs i j (Nat.zero_le _) hij (by omega)
      rw [ltC, getElem!_pos d' i (by omega), getElem!_pos d' j (by omega)] at this
      simp at this ⊢
      omega
    · have hlen : (d'.toList.map (·.x)).length = xs.length := by simp [hds']
      refine ⟨some ⟨g, 0, none⟩, cap, by rw [hlen], by rw [hlen]; exact hncap, hcap, by rw [hlen]; exact hbd, (fun h => by cases h), fun h0 => ⟨g, 0, rfl, fun i hi => ?_⟩⟩
      rw [hlen] at hi
      refine ⟨encC (d'[i]'(by omega)), rfl, fun j hj => ?_, ?_⟩
      · have := (hH'.cell (i := i) (c := j) (by omega) hj).1
        rw [getElem!_pos d' i (by omega)] at this
        rw [get_bang (encC (d'[i]'(by omega))) hj]
        exact this
      · have hmem : (d'[i]'(by omega)) ∈ d.toList := hperm.mem_iff.1 (by simp)
        obtain ⟨k, hk, hk2⟩ := List.getElem_of_mem hmem
        have hq := (hd k (by simpa [hds] using hk)).2.1
        simp only [Array.getElem_toList] at hk2
        rw [hk2] at hq
        simp only [List.getElem_map, Array.getElem_toList]
        exact RCrt.mono _ _ _ _ hq (vle_below hbl)
end Go.Proofs.YtedealljhmokoaaDoor

namespace Go.Proofs.YtedealljhmokoaaDoor
open Go.ChangeShapes Go.WideShapes Go.ChangeAt Go.RowKit
set_option linter.unusedVariables false
set_option linter.unusedSimpArgs false
set_option maxHeartbeats 4000000 in
set_option maxRecDepth 100000 in
theorem dagCheck_any (vl : Value) (l : List Crt) (w : World) (hl : RCrts w.cell? vl l) (hT : Tabs w.cell?) :
    Calls Tryd.prog 30 #[.agg #[vl]] w fun e w' => e = .returned (.int .i64 (dagF hD cF l)) ∧ Below w.heap.size w w' := by
  obtain ⟨A, c, rfl, hform⟩ := id hl
  have HT := Lib.hid hT
  clear hT
  obtain ⟨_, hn1, hn2, hel⟩ := hl.at
  have Hel := Lib.hid hel
  have Hl := Lib.hid hl
  clear hel hl hform
  obtain ⟨Q, hQ⟩ : ∃ Q, Hid (dagF hD cF l = Q) := ⟨_, rfl⟩
  rw [hQ.out]
  by_cases hbig : 400 < l.length
  · have HQ : Hid (Q = 12) := by show _ = _; rw [← hQ.out, dagF_big hbig]
    clear hQ
    go_enter Tryd.func30, Tryd.ntmps30
    go_wp2
    go_ret
    exact ⟨ret_int HQ.out.symm, below_one _ _⟩
  have Hbig := Lib.hid hbig
  have hn4 : l.length ≤ 400 := by omega
  clear hbig
  go_enter Tryd.func30, Tryd.ntmps30
  go_upto_region 1 with fail
  refine one_block _ _ _ (fun W => Code.wp _ _ _ _ W) (fun W hbk hsz hbW => ?_)
  have hzW := hbW.size
  clear hsz
  have g0 := hbk.cell 0
  simp at g0
  go_wp2
  go_loopw [4, 17] (fun _ i wr => ∃ k : Nat, k ≤ l.length ∧ i = .int .i64 k ∧ Hid (∀ j (hj : j < l.length), j < k → cF l[j] = 0) ∧ Below W.heap.size W wr) (fun _ i _ => l.length - (intOf i).toNat)
  case atStart => exact ⟨0, Nat.zero_le _, rfl, fun j _ hj => by omega, Below.refl _ _⟩
  case round =>
    clear g0
    obtain ⟨k, hk, rfl, hok, hbl⟩ := hrel
    have hbk' := hbk.kept hbl
    have g0 := hbk'.cell 0
    simp at g0
    have hblw := hbW.trans (hbl.mono hzW)
    by_cases hlt : k < l.length
    · obtain ⟨b0, o0, vb, vp, vv, rfl, q0, q1, q2, q3, q4, hb, hp, hv⟩ := Hel.out k hlt
      obtain ⟨bA, bc, rfl, hf1⟩ := id hb
      obtain ⟨pA, pc, rfl, hf2⟩ := id hp
      obtain ⟨vA, vc, rfl, hf3⟩ := id hv
      clear hf1 hf2 hf3
      have c0 := vle_below hblw _ _ q0; have c1 := vle_below hblw _ _ q1; have c2 := vle_below hblw _ _ q2; have c3 := vle_below hblw _ _ q3; have c4 := vle_below hblw _ _ q4
      have hb' := Lib.hid (hb.mono RDig.mono (vle_below hblw))
      have hp' := Lib.hid (hp.mono RDig.mono (vle_below hblw))
      have hv' := Lib.hid (hv.mono (vle_below hblw))
      have hx : Hid (∀ e, cF l[k] = e → certF l[k].hdr.author l[k].hdr.round l[k].hdr.batches l[k].hdr.parents l[k].voters = e) := fun e h => h
      have hbadQ : Hid (cF l[k] ≠ 0 → Q = 12) := fun h => by rw [← hQ.out]; exact dagF_cert Hbig.out hlt h
      have hnext : Hid (cF l[k] = 0 → ∀ j (hj : j < l.length), j < k + 1 → cF l[j] = 0) := fun hq j hj hjk => by
        by_cases e : j = k
        · subst e; exact hq
        · exact hok.out j hj (by omega)
      clear q0 q1 q2 q3 q4 hb hp hv
      generalize l[k] = x at *
      obtain ⟨E, hE⟩ : ∃ E, Hid (cF x = E) := ⟨_, rfl⟩
      rw [hE.out] at hnext hbadQ
      go_wp2_with fail
      refine one_block _ _ _ (fun W => Calls Tryd.prog _ _ W _) (fun W2 hk2 hsz2 hbW2 => ?_)
      have qW := vle_below hbW2
      refine (checkCert_any _ _ _ _ _ x.hdr.batches x.hdr.parents x.voters _ (hb'.out.mono RDig.mono qW) (hp'.out.mono RDig.mono qW) (hv'.out.mono qW)).mono ?_
      rintro e w1 ⟨rfl, hb1⟩
      have hb1 := hbW2.trans (hb1.mono hbW2.size)
      clear hk2 hsz2 hbW2 qW
      rw [hx.out _ hE.out]
      have hbl1 := hbl.trans (hb1.mono hbl.size)
      clear hb' hp' hv' c0 c1 c2 c3 c4 g0 hx
      by_cases h0 : E = 0
      · have hq := Lib.hid (hnext.out h0)
        clear hnext hbadQ
        subst h0
        go_wp2
        go_roundw
        case rel => exact ⟨k + 1, by omega, by go_num, hq.out, hbl1⟩
        case measure => simp [intOf]; omega
      · have HQ := Lib.hid (hbadQ.out h0)
        clear hnext hbadQ
        go_wp2
        go_ret
        exact ⟨ret_int HQ.out.symm, hbW.trans (hbl1.mono hzW)⟩
    · have hkl : k = l.length := by omega
      have hval := all_valid (fun j hj => hok.out j hj (by omega))
      have HQ1 : Hid (Q = if (List.range l.length).any (badC hD l) then 12 else 0) := by show _ = _; rw [← hQ.out, dagF_rest Hbig.out hval]
      have Hval := Lib.hid hval
      clear hval hQ hok
      go_wp2_with fail
      refine (all_any _ l _ (Hl.out.mono RCrt.mono (vle_below hblw)) (fun c hc => cF_hF (Hval.out c hc)) (HT.out.mono (vle_below hblw))).mono ?_
      rintro e w1 ⟨vd, rfl, hb1, od⟩
      have hbl1 := hbl.trans (hb1.mono hbl.size)
      have hblw1 := hbW.trans (hbl1.mono hzW)
      have hDl := dsOf_len l
      have rD := od.reads (RFrom.mono RDig.mono) (bs := 24) (by omega)
      have rD : RDigs w1.cell? vd (dsOf hD l) := RSl.weak (fun h cs x hr => RDig.mono _ _ _ _ hr (View.from_le _ _)) rD
      obtain ⟨dA, dc, rfl, hdc, hform⟩ := id rD
      clear hform
      rw [hDl] at hdc
      have HDl := Lib.hid hDl
      have RD := Lib.hid rD
      have hbk1 := hbk'.kept hb1
      have hz1 := hbl1.size
      clear g0
      have g0 := hbk1.cell 0
      simp at g0
      clear hbk' rD od hDl hkl hlt hk
      obtain ⟨DN, hDN⟩ : ∃ DN, Hid ((dsOf hD l).length = DN) := ⟨_, rfl⟩
      rw [hDN.out]
      have hDN' : DN = l.length := by rw [← hDN.out, HDl.out]
      go_wp2
      go_loopw [31] (fun i wr => ∃ k : Nat, k ≤ l.length ∧ i = .int .i64 k ∧ Hid (∀ j, j < k → badC hD l j = false) ∧ Below W.heap.size W wr ∧ Below w1.heap.size w1 wr) (fun i _ => l.length - (intOf i).toNat)
      case atStart => exact ⟨0, Nat.zero_le _, rfl, fun j hj => by omega, hbl1, Below.refl _ _⟩
      case round =>
        clear g0
        obtain ⟨k, hk, rfl, hok, hbl2, hbl12⟩ := hrel
        have hbk2 := hbk.kept hbl2
        have g0 := hbk2.cell 0
        simp at g0
        have hz2 := hbl2.size
        have hblw2 := hbW.trans (hbl2.mono hzW)
        by_cases hlt : k < l.length
        · obtain ⟨b0, o0, vb, vp, vv, rfl, q0, q1, q2, q3, q4, hb, hp, hv⟩ := Hel.out k hlt
          have c0 := vle_below hblw2 _ _ q0; have c1 := vle_below hblw2 _ _ q1; have c2 := vle_below hblw2 _ _ q2; have c3 := vle_below hblw2 _ _ q3; have c4 := vle_below hblw2 _ _ q4
          have hpw := hp
          have Hb := Lib.hid (badC_at hlt)
          have Hr := Lib.hid (headF_zero (cF_hF (Hval.out l[k] (List.getElem_mem hlt))))
          have hsub := (Hl.out.take (k := k) (by omega)).mono RCrt.mono (vle_below hblw2)
          have hsubD := (RD.out.take (k := k) (by rw [HDl.out]; omega)).mono RDig.mono (vle_below hbl12)
          have hlsub : ((dsOf hD l).take k).length ≤ (l.take k).length := by rw [List.length_take, List.length_take, HDl.out]; omega
          have hkc : k ≤ c := by omega
          have hkc' : (k : Int) ≤ (c : Int) := by omega
          have hkd : k ≤ dc := by omega
          have hkd' : (k : Int) ≤ (dc : Int) := by omega
          have hnext : Hid (badC hD l k = false → ∀ j, j < k + 1 → badC hD l j = false) := fun hq j hj => by
            by_cases e : j = k
            · subst e; exact hq
            · exact hok.out j (by omega)
          have hbadQ : Hid (badC hD l k = true → Q = 12) := fun h => by rw [HQ1.out, if_pos (any_range_true hlt h)]
          obtain ⟨bA, bc, rfl, hf1⟩ := id hb
          obtain ⟨pA, pc, rfl, hf2⟩ := id hp
          obtain ⟨vA, vc, rfl, hf3⟩ := id hv
          clear q0 q1 q2 q3 q4 hb hp hv hf1 hf2 hf3
          generalize l[k] = x at *
          generalize l.take k = L at hsub Hb hlsub
          generalize (dsOf hD l).take k = Ds at hsubD Hb hlsub
          generalize badC hD l k = BK at Hb hnext hbadQ
          have Hb : Hid (BK = (taken L x.hdr || (missW L Ds x.hdr || decide (0 < (missN Ds x.hdr).length)))) := by show _ = _; rw [Hb.out, parF_ne]
          have hNl : (missN Ds x.hdr).length * 24 ≤ 140737488355328 := Nat.le_trans (Nat.mul_le_mul_right _ (List.length_filter_le _ _)) (by obtain ⟨_, _, _, _, _, h, _⟩ := hpw; exact h)
          go_wp2_with fail
          refine one_block _ _ _ (fun W => (Code.region _ _ _).wp _ _ _ W) (fun W2 hk2 hsz2 hbW2 => ?_)
          clear hsz2 c0 c1 c2 c3 c4 g0
          have hblw3 := hblw2.trans (hbW2.mono hblw2.size)
          have hbl3 := hbl2.trans (hbW2.mono hz2)
          have hbk3 := hbk2.kept hbW2
          have hsub := hsub.mono RCrt.mono (vle_below hbW2)
          have hsubD := hsubD.mono RDig.mono (vle_below hbW2)
          have hp3 := hpw.mono RDig.mono (vle_below hblw3)
          clear hpw
          have hblS : ∀ W', Below W2.heap.size W2 W' → Below W.heap.size W W' := fun W' h => hbl3.trans (h.mono hbl3.size)
          refine wp_region_pl (fun w' => Below W2.heap.size W2 w') [14] (.q 0 (.q 1 (.q 2 (.q 3 (.q 4 (.q 5 (.q 6 (.q 7 (.q 8 (.l 9 (.q 10 (.q 11 (.q 12 (.q 13 (.qc 14 .nil))))))))))))))) (by kernel_rfl) (by kernel_rfl) (fun _ _ d _ _ h => by cases d <;> exact h) rfl (by kernel_rfl) ?_ ?_
          · exact below_drew _
          intro W3 hS3
          repeat (first
            | (refine pl_q (by assumption) rfl rfl ?_; apply Exists.intro; refine ⟨fun w' hS => ?_, ?_⟩; (· (have hq := hbk3.kept hS; have h0 := hq.cell 0; have hh := hk2.kept hS; have h1 := hh.cell 0; have h2 := hh.cell 1; have h3 := hh.cell 2; have h4 := hh.cell 3; simp at h0 h1 h2 h3 h4; go_simp; exact rfl)); simp only [List.getElem_toArray, List.getElem_cons_zero, List.getElem_cons_succ, Act.put, List.setIfInBounds_toArray, List.set_cons_zero, List.set_cons_succ])
            | (refine pl_qc rfl rfl ?_; apply Exists.intro; refine ⟨fun w' _ => ?_, ?_⟩; (· (go_simp; exact rfl)); simp only [List.getElem_toArray, List.getElem_cons_zero, List.getElem_cons_succ, Act.put, List.setIfInBounds_toArray, List.set_cons_zero, List.set_cons_succ])
            | (refine pl_skip (by assumption) rfl rfl ?_; simp only [List.getElem_toArray, List.getElem_cons_zero, List.getElem_cons_succ, Act.put, List.setIfInBounds_toArray, List.set_cons_zero, List.set_cons_succ])
            | (refine pl_skipl (by assumption) rfl rfl ?_; simp only [List.getElem_toArray, List.getElem_cons_zero, List.getElem_cons_succ, Act.put, List.setIfInBounds_toArray, List.set_cons_zero, List.set_cons_succ]))
          first
            | refine pl_do rfl rfl (fun K hK => ?_)
            | refine op_do rfl rfl (fun K hK => ?_)
          try simp only [List.getElem_toArray, List.getElem_cons_zero, List.getElem_cons_succ]
          go_simp
          refine (missing_any _ _ L Ds x.hdr _ _ _ (hsub.mono RCrt.mono (vle_below hS3)) (hsubD.mono RDig.mono (vle_below hS3)) (hp3.mono RDig.mono (vle_below hS3)) hlsub Hr.out.1 Hr.out.2.1).mono ?_
          rintro e w4 ⟨v4, rfl, hb4, o4⟩
          have hb5 := hS3.trans (hb4.mono hS3.size)
          generalize missN Ds x.hdr = N at o4 Hb hNl
          generalize missW L Ds x.hdr = MW at Hb
          obtain ⟨nA, nc, rfl⟩ := o4.form
          obtain ⟨nl, hnl⟩ : ∃ nl, Hid (N.length = nl) := ⟨_, rfl⟩
          rw [hnl.out] at Hb
          rw [hnl.out]
          clear o4 hNl
          refine hK.out _ _ (hb5) (fun hS => ?_)
          clear hK K
          try simp only [List.getElem_toArray, List.getElem_cons_zero, List.getElem_cons_succ, Act.put, List.setIfInBounds_toArray, List.set_cons_zero, List.set_cons_succ]
          repeat (first
            | (refine pl_q (by assumption) rfl rfl ?_; apply Exists.intro; refine ⟨fun w' hS => ?_, ?_⟩; (· (skip; go_simp; exact rfl)); simp only [List.getElem_toArray, List.getElem_cons_zero, List.getElem_cons_succ, Act.put, List.setIfInBounds_toArray, List.set_cons_zero, List.set_cons_succ])
            | (refine pl_qc rfl rfl ?_; apply Exists.intro; refine ⟨fun w' _ => ?_, ?_⟩; (· (go_simp; exact rfl)); simp only [List.getElem_toArray, List.getElem_cons_zero, List.getElem_cons_succ, Act.put, List.setIfInBounds_toArray, List.set_cons_zero, List.set_cons_succ])
            | (refine pl_skip (by assumption) rfl rfl ?_; simp only [List.getElem_toArray, List.getElem_cons_zero, List.getElem_cons_succ, Act.put, List.setIfInBounds_toArray, List.set_cons_zero, List.set_cons_succ])
            | (refine pl_skipl (by assumption) rfl rfl ?_; simp only [List.getElem_toArray, List.getElem_cons_zero, List.getElem_cons_succ, Act.put, List.setIfInBounds_toArray, List.set_cons_zero, List.set_cons_succ]))
          refine pl_nil ?_
          have hbk5 := hbk3.kept hb5
          have hk5 := hk2.kept hb5
          have hsub5 := hsub.mono RCrt.mono (vle_below hb5)
          have hbl5 := hblS _ hb5
          have hbl15 : Below w1.heap.size w1 w4 := (hbl12.trans (hbW2.mono hbl12.size)).trans (hb5.mono (Nat.le_trans hbl12.size hbW2.size))
          clear hsub hsubD hp3 hb4 hS3
          by_cases hpos : 0 < nl
          · have HQ := Lib.hid (hbadQ.out (by rw [Hb.out]; simp [hpos]))
            have hpos' : (0 : Int) < nl := by omega
            clear Hb hnext hbadQ
            go_wp2_with fail
            refine wp_region_pl (fun w' => Below w4.heap.size w4 w') [] (.q 0 (.q 1 (.q 2 (.q 3 (.q 4 (.q 5 (.q 6 (.q 7 (.q 8 (.q 9 (.q 10 (.q 11 (.q 12 (.l 13 (.q 14 .nil))))))))))))))) (by kernel_rfl) (by kernel_rfl) (fun _ _ d _ _ h => by cases d <;> exact h) rfl (by kernel_rfl) ?_ ?_
            · exact below_drew _
            intro W6 hS6
            repeat (first
              | (refine pl_q (by assumption) rfl rfl ?_; apply Exists.intro; refine ⟨fun w' hS => ?_, ?_⟩; (· (skip; go_simp; exact rfl)); simp only [List.getElem_toArray, List.getElem_cons_zero, List.getElem_cons_succ, Act.put, List.setIfInBounds_toArray, List.set_cons_zero, List.set_cons_succ])
              | (refine pl_qc rfl rfl ?_; apply Exists.intro; refine ⟨fun w' _ => ?_, ?_⟩; (· (go_simp; exact rfl)); simp only [List.getElem_toArray, List.getElem_cons_zero, List.getElem_cons_succ, Act.put, List.setIfInBounds_toArray, List.set_cons_zero, List.set_cons_succ])
              | (refine pl_skip (by assumption) rfl rfl ?_; simp only [List.getElem_toArray, List.getElem_cons_zero, List.getElem_cons_succ, Act.put, List.setIfInBounds_toArray, List.set_cons_zero, List.set_cons_succ])
              | (refine pl_skipl (by assumption) rfl rfl ?_; simp only [List.getElem_toArray, List.getElem_cons_zero, List.getElem_cons_succ, Act.put, List.setIfInBounds_toArray, List.set_cons_zero, List.set_cons_succ]))
            refine pl_nil ?_
            go_wp2
            go_ret
            exact ⟨ret_int HQ.out.symm, hbW.trans ((hbl5.trans (hS6.mono hbl5.size)).mono hzW)⟩
          · have hz0 : nl = 0 := by omega
            rw [hz0] at Hb ⊢
            cases MW
            · have Hb : Hid (BK = taken L x.hdr) := by show _ = _; rw [Hb.out]; simp
              go_wp2_with fail
              refine wp_region_pl (fun w' => Below w4.heap.size w4 w') [] (.q 0 (.q 1 (.q 2 (.q 3 (.q 4 (.q 5 (.q 6 (.q 7 (.q 8 (.q 9 (.q 10 (.q 11 (.q 12 (.l 13 (.q 14 .nil))))))))))))))) (by kernel_rfl) (by kernel_rfl) (fun _ _ d _ _ h => by cases d <;> exact h) rfl (by kernel_rfl) ?_ ?_
              · exact below_drew _
              intro W6 hS6
              repeat (first
                | (refine pl_q (by assumption) rfl rfl ?_; apply Exists.intro; refine ⟨fun w' hS => ?_, ?_⟩; (· (have hq := hbk5.kept hS; have h0 := hq.cell 0; have hh := hk5.kept hS; have h1 := hh.cell 0; have h2 := hh.cell 1; have h3 := hh.cell 2; have h4 := hh.cell 3; simp at h0 h1 h2 h3 h4; go_simp; exact rfl)); simp only [List.getElem_toArray, List.getElem_cons_zero, List.getElem_cons_succ, Act.put, List.setIfInBounds_toArray, List.set_cons_zero, List.set_cons_succ])
                | (refine pl_qc rfl rfl ?_; apply Exists.intro; refine ⟨fun w' _ => ?_, ?_⟩; (· (go_simp; exact rfl)); simp only [List.getElem_toArray, List.getElem_cons_zero, List.getElem_cons_succ, Act.put, List.setIfInBounds_toArray, List.set_cons_zero, List.set_cons_succ])
                | (refine pl_skip (by assumption) rfl rfl ?_; simp only [List.getElem_toArray, List.getElem_cons_zero, List.getElem_cons_succ, Act.put, List.setIfInBounds_toArray, List.set_cons_zero, List.set_cons_succ])
                | (refine pl_skipl (by assumption) rfl rfl ?_; simp only [List.getElem_toArray, List.getElem_cons_zero, List.getElem_cons_succ, Act.put, List.setIfInBounds_toArray, List.set_cons_zero, List.set_cons_succ]))
              first
                | refine pl_do rfl rfl (fun K hK => ?_)
                | refine op_do rfl rfl (fun K hK => ?_)
              try simp only [List.getElem_toArray, List.getElem_cons_zero, List.getElem_cons_succ]
              go_simp
              refine (certTaken_any _ L x.hdr _ _ _ (hsub5.mono RCrt.mono (vle_below hS6))).mono ?_
              rintro e w7 ⟨rfl, hb7⟩
              have hb8 := hS6.trans (hb7.mono hS6.size)
              obtain ⟨TK, hTK⟩ : ∃ TK, Hid (taken L x.hdr = TK) := ⟨_, rfl⟩
              rw [hTK.out]
              rw [hTK.out] at Hb
              cases TK
              · have hq := Lib.hid (hnext.out Hb.out)
                clear hnext hbadQ Hb hTK
                refine hK.out _ _ (hb8) (fun hS => ?_)
                clear hK K
                try simp only [List.getElem_toArray, List.getElem_cons_zero, List.getElem_cons_succ, Act.put, List.setIfInBounds_toArray, List.set_cons_zero, List.set_cons_succ]
                repeat (first
                  | (refine pl_q (by assumption) rfl rfl ?_; apply Exists.intro; refine ⟨fun w' hS => ?_, ?_⟩; (· (skip; go_simp; exact rfl)); simp only [List.getElem_toArray, List.getElem_cons_zero, List.getElem_cons_succ, Act.put, List.setIfInBounds_toArray, List.set_cons_zero, List.set_cons_succ])
                  | (refine pl_qc rfl rfl ?_; apply Exists.intro; refine ⟨fun w' _ => ?_, ?_⟩; (· (go_simp; exact rfl)); simp only [List.getElem_toArray, List.getElem_cons_zero, List.getElem_cons_succ, Act.put, List.setIfInBounds_toArray, List.set_cons_zero, List.set_cons_succ])
                  | (refine pl_skip (by assumption) rfl rfl ?_; simp only [List.getElem_toArray, List.getElem_cons_zero, List.getElem_cons_succ, Act.put, List.setIfInBounds_toArray, List.set_cons_zero, List.set_cons_succ])
                  | (refine pl_skipl (by assumption) rfl rfl ?_; simp only [List.getElem_toArray, List.getElem_cons_zero, List.getElem_cons_succ, Act.put, List.setIfInBounds_toArray, List.set_cons_zero, List.set_cons_succ]))
                refine pl_nil ?_
                go_wp2
                go_roundw
                case rel => exact ⟨k + 1, by omega, by go_num, hq.out, hbl5.trans (hb8.mono hbl5.size), hbl15.trans (hb8.mono hbl15.size)⟩
                case measure => simp [intOf]; omega
              · have HQ := Lib.hid (hbadQ.out Hb.out)
                clear hnext hbadQ Hb hTK
                refine hK.out _ _ (hb8) (fun hS => ?_)
                clear hK K
                try simp only [List.getElem_toArray, List.getElem_cons_zero, List.getElem_cons_succ, Act.put, List.setIfInBounds_toArray, List.set_cons_zero, List.set_cons_succ]
                repeat (first
                  | (refine pl_q (by assumption) rfl rfl ?_; apply Exists.intro; refine ⟨fun w' hS => ?_, ?_⟩; (· (skip; go_simp; exact rfl)); simp only [List.getElem_toArray, List.getElem_cons_zero, List.getElem_cons_succ, Act.put, List.setIfInBounds_toArray, List.set_cons_zero, List.set_cons_succ])
                  | (refine pl_qc rfl rfl ?_; apply Exists.intro; refine ⟨fun w' _ => ?_, ?_⟩; (· (go_simp; exact rfl)); simp only [List.getElem_toArray, List.getElem_cons_zero, List.getElem_cons_succ, Act.put, List.setIfInBounds_toArray, List.set_cons_zero, List.set_cons_succ])
                  | (refine pl_skip (by assumption) rfl rfl ?_; simp only [List.getElem_toArray, List.getElem_cons_zero, List.getElem_cons_succ, Act.put, List.setIfInBounds_toArray, List.set_cons_zero, List.set_cons_succ])
                  | (refine pl_skipl (by assumption) rfl rfl ?_; simp only [List.getElem_toArray, List.getElem_cons_zero, List.getElem_cons_succ, Act.put, List.setIfInBounds_toArray, List.set_cons_zero, List.set_cons_succ]))
                refine pl_nil ?_
                go_wp2
                go_ret
                exact ⟨ret_int HQ.out.symm, hbW.trans ((hbl5.trans (hb8.mono hbl5.size)).mono hzW)⟩
            · have HQ := Lib.hid (hbadQ.out (by rw [Hb.out]; simp))
              clear Hb hnext hbadQ
              go_wp2_with fail
              refine wp_region_pl (fun w' => Below w4.heap.size w4 w') [] (.q 0 (.q 1 (.q 2 (.q 3 (.q 4 (.q 5 (.q 6 (.q 7 (.q 8 (.q 9 (.q 10 (.q 11 (.q 12 (.l 13 (.q 14 .nil))))))))))))))) (by kernel_rfl) (by kernel_rfl) (fun _ _ d _ _ h => by cases d <;> exact h) rfl (by kernel_rfl) ?_ ?_
              · exact below_drew _
              intro W6 hS6
              repeat (first
                | (refine pl_q (by assumption) rfl rfl ?_; apply Exists.intro; refine ⟨fun w' hS => ?_, ?_⟩; (· (skip; go_simp; exact rfl)); simp only [List.getElem_toArray, List.getElem_cons_zero, List.getElem_cons_succ, Act.put, List.setIfInBounds_toArray, List.set_cons_zero, List.set_cons_succ])
                | (refine pl_qc rfl rfl ?_; apply Exists.intro; refine ⟨fun w' _ => ?_, ?_⟩; (· (go_simp; exact rfl)); simp only [List.getElem_toArray, List.getElem_cons_zero, List.getElem_cons_succ, Act.put, List.setIfInBounds_toArray, List.set_cons_zero, List.set_cons_succ])
                | (refine pl_skip (by assumption) rfl rfl ?_; simp only [List.getElem_toArray, List.getElem_cons_zero, List.getElem_cons_succ, Act.put, List.setIfInBounds_toArray, List.set_cons_zero, List.set_cons_succ])
                | (refine pl_skipl (by assumption) rfl rfl ?_; simp only [List.getElem_toArray, List.getElem_cons_zero, List.getElem_cons_succ, Act.put, List.setIfInBounds_toArray, List.set_cons_zero, List.set_cons_succ]))
              refine pl_nil ?_
              go_wp2
              go_ret
              exact ⟨ret_int HQ.out.symm, hbW.trans ((hbl5.trans (hS6.mono hbl5.size)).mono hzW)⟩
        · have HQ : Hid (Q = 0) := by
            show _ = _
            rw [HQ1.out, if_neg]
            rw [Bool.not_eq_true]
            exact any_range_false fun j hj => hok.out j (by omega)
          go_wp2
          go_ret
          exact ⟨ret_int HQ.out.symm, hblw2⟩
end Go.Proofs.YtedealljhmokoaaDoor

namespace Go.Proofs.YtedealljhmokoaaDoor
open Go.ChangeShapes Go.WideShapes Go.ChangeAt Go.RowKit
set_option linter.unusedVariables false
set_option linter.unusedSimpArgs false
theorem wpList_store_blkD {P : Program} {ops : Array Oper} {rest : List Oper} {o : Oper} {a : Act} {w : World} {Q : Exit → Act → World → Prop} {t te : TypeId} {x y : Operand} {g off n : Nat} {cs : Array Value} {v : Value} (hgd : o.guard = none)
    (ho : o.op = .store t x y) (hx : a.eval x = .pointer (some ⟨g, off, none⟩)) (hy : a.eval y = v) (hi : (P.info? t).map (·.size) = some n) (hn : v.cells.size = n) (hb : Blk w g te cs) (hfit : off + n ≤ cs.size) (h1 : (v.cells.toList.all fun u => u.oneCell') = true)
    (h : ∀ w', Blk w' g te (cs.toList.take off ++ (v.cells.toList ++ cs.toList.drop (off + n))).toArray → w.grownBy w' (some g) → wpList P ops Q rest (a.put o.dst undef) w') : wpList P ops Q (o :: rest) a w :=
  wpList_plain hgd fun _ hK => wp_store_blk ho hx hy hi hn hb hfit h1 fun w' h2 h3 => hK _ _ (h w' h2 h3)
theorem OwnSl.low {α : Type} {sz : Nat} {R : View → List Value → α → Prop} (hR : Mono R) {e : TypeId} {w w' : World} {b g : Nat} {v : Value} {xs : List α} (h : OwnSl sz (RFrom b R) e w b v xs) (hg : w.grownBy w' (some g)) (hne : g < b) : OwnSl sz (RFrom b R) e w' b v xs := by
  obtain ⟨css, h1, h2, h3⟩ := h.own
  have hlt := h1.lt
  refine ⟨css, h1.kept hg (.inr (fun e => by have := (hlt g e).1; omega)), h2, fun i hi => ?_⟩
  obtain ⟨cs, q1, q2, q3⟩ := h3 i hi
  refine ⟨cs, q1, q2, hR _ _ _ _ q3 (fun a u hu => ?_)⟩
  unfold View.from at hu ⊢
  split at hu
  · cases hu
  · rename_i hlt'
    rw [if_neg hlt']
    unfold View.but at hu ⊢
    split at hu
    · cases hu
    · rename_i hne'
      rw [if_neg hne']
      exact hg.cell hu (by intro e; injection e; omega)
theorem OwnSl.low_ne {α : Type} {sz : Nat} {R : View → List Value → α → Prop} {e : TypeId} {w : World} {b g : Nat} {v : Value} {xs : List α} (h : OwnSl sz R e w b v xs) (hg : g < b) : some g ≠ v.ownBlock := fun e => by have := (h.lt g e.symm).1; omega
theorem RFrom.weaken {α : Type} {b b' : Nat} {R : View → List Value → α → Prop} (hR : Mono R) (hb : b' ≤ b) {h : View} {cs : List Value} {x : α} (hr : RFrom b R h cs x) : RFrom b' R h cs x := hR _ _ _ _ hr (from_from hb)
theorem OwnSl.baseR {α : Type} {sz : Nat} {R : View → List Value → α → Prop} (hR : Mono R) {e : TypeId} {w : World} {b b' : Nat} {v : Value} {xs : List α} (h : OwnSl sz (RFrom b R) e w b v xs) (hb : b' ≤ b) : OwnSl sz (RFrom b' R) e w b' v xs := by
  obtain ⟨css, h1, h2, h3⟩ := (h.base hb).own
  exact ⟨css, h1, h2, fun i hi => by obtain ⟨cs, q1, q2, q3⟩ := h3 i hi; exact ⟨cs, q1, q2, RFrom.weaken hR hb q3⟩⟩
set_option maxHeartbeats 4000000 in
set_option maxRecDepth 100000 in
theorem dagCopy_any (vl : Value) (l : List Crt) (w : World) (hl : RCrts w.cell? vl l) :
    Calls Tryd.prog 31 #[.agg #[vl]] w fun e w' => ∃ v', e = .returned (.agg #[v']) ∧ Below w.heap.size w w' ∧ OwnSl 5 (RFrom w.heap.size RCrt) 60 w' w.heap.size v' l := by
  obtain ⟨A, c, rfl, hform⟩ := id hl
  obtain ⟨_, hn1, hn2, hel⟩ := hl.at
  have Hel := Lib.hid hel
  clear hel hform hl
  go_enter Tryd.func31, Tryd.ntmps31
  go_upto_region 1 with fail
  refine two_blocks _ _ _ _ _ (fun W => Code.wp _ _ _ _ W) (fun W hb1 hb2 hsz hbW => ?_)
  have hzW := hbW.size
  have hszI : w.heap.size + 2 ≤ W.heap.size := by omega
  clear hsz
  have g0 := hb1.cell 0
  simp at g0
  go_wp2
  go_loopw [4, 5] (fun i _ wr => ∃ k : Nat, k ≤ l.length ∧ i = .int .i64 k ∧ ∃ v', Blk wr W.heap.size 53 #[v'] ∧ OwnSl 5 (RFrom (W.heap.size + 1) RCrt) 60 wr (W.heap.size + 1) v' (l.take k) ∧ Below W.heap.size W wr ∧ W.heap.size + 1 ≤ wr.heap.size) (fun i _ _ => l.length - (intOf i).toNat)
  case atStart => exact ⟨0, Nat.zero_le _, rfl, _, Blk.new _ _ _, OwnSl.nil _ _ _ _ _, below_one _ _, by simp⟩
  case round =>
    clear g0
    obtain ⟨k, hk, rfl, v', hB, hown, hbl, hz⟩ := hrel
    have hb1k := hb1.kept hbl
    have g0 := hb1k.cell 0
    simp at g0
    have hlt0 : w.heap.size < wr.heap.size := by have := hbl.size; omega
    have hblw := hbW.trans (hbl.mono hzW)
    by_cases hlt : k < l.length
    · obtain ⟨b0, o0, vb, vp, vv, rfl, q0, q1, q2, q3, q4, hb, hp, hv⟩ := Hel.out k hlt
      have c0 := vle_below hblw _ _ q0; have c1 := vle_below hblw _ _ q1; have c2 := vle_below hblw _ _ q2; have c3 := vle_below hblw _ _ q3; have c4 := vle_below hblw _ _ q4
      have hb' := hb.mono RDig.mono (vle_below hblw)
      have hp' := hp.mono RDig.mono (vle_below hblw)
      have hv' := hv.mono (vle_below hblw)
      have Hn := Lib.hid (List.take_succ_eq_append_getElem hlt)
      have Hlk := Lib.hid (show (l.take k).length = k by simp; omega)
      clear q0 q1 q2 q3 q4 hb hp hv
      generalize l.take k = L at hown Hn Hlk
      generalize l[k] = x at *
      go_wp2_with fail
      refine (certCopy_any _ _ _ _ _ x.hdr.batches x.hdr.parents x.voters _ hb' hp' hv').mono ?_
      rintro e w1 ⟨ub, up, uv, rfl, hj, r1, r2, r3⟩
      have hbl1 := hbl.trans (hj.mono hbl.size)
      have hB1 := hB.kept hj
      have hown1 := hown.kept (RFrom.mono RCrt.mono) hj
      have hlto := hown.lt
      have hz1 := hj.size
      obtain ⟨A1, c1', rfl, hf1⟩ := id r1
      obtain ⟨A2, c2', rfl, hf2⟩ := id r2
      obtain ⟨A3, c3', rfl, hf3⟩ := id r3
      clear hf1 hf2 hf3 hB hown c0 c1 c2 c3 c4 g0 hb' hp' hv'
      obtain ⟨nA, nc, rfl⟩ := hown1.form
      have hne := hown1.low_ne (g := W.heap.size) (by omega)
      have hne0 := hown1.low_ne (g := w.heap.size) (by omega)
      have d0 := hB1.cell 0
      simp at d0
      have hltB : W.heap.size < w1.heap.size := by omega
      have hzW1 : W.heap.size + 1 ≤ w1.heap.size := by omega
      have rR : RFrom (W.heap.size + 1) RCrt (View.but w1.cell? (Value.slice nA L.length nc).ownBlock) [.int .i64 x.hdr.author, .int .i64 x.hdr.round, .slice A1 x.hdr.batches.length c1', .slice A2 x.hdr.parents.length c2', .slice A3 x.voters.length c3'] x := by
        have q : VLe (View.from w1.cell? wr.heap.size) (View.from (View.but w1.cell? (Value.slice nA L.length nc).ownBlock) (W.heap.size + 1)) := from_from_but hz (fun g hg => (hlto g hg).2)
        exact ⟨_, _, _, rfl, r1.mono RDig.mono q, r2.mono RDig.mono q, r3.mono q⟩
      have hb1k1 := hb1k.kept hj
      clear r1 r2 r3 hj hb1k hlto
      go_wp2_with (at_builtin; go_loud (refine wpList_append_sl1 (n := 140737488355328) (RFrom.mono RCrt.mono) x [.int .i64 x.hdr.author, .int .i64 x.hdr.round, .slice A1 x.hdr.batches.length c1', .slice A2 x.hdr.parents.length c2', .slice A3 x.voters.length c3'] elemCrt _ _ rfl rfl rfl (hown1.kept (RFrom.mono RCrt.mono) (below_one _ _)) (W := w1) ((Below.refl _ _).alloc hzW1 _) (le_alloc _ hzW1) rfl (by simp) rfl rfl (RFrom.mono RCrt.mono _ _ _ _ rR (but_below (below_one _ _) _)) (Nat.le_refl _) (by rw [Hlk.out]; omega) (by rw [Hlk.out]; omega) ?_))
      intro v2 w2 ho hbl2 hg2
      have hzA : w1.heap.size ≤ (w1.alloc (.cells #[.int .i64 x.hdr.author, .int .i64 x.hdr.round, .slice A1 x.hdr.batches.length c1', .slice A2 x.hdr.parents.length c2', .slice A3 x.voters.length c3'] 60)).heap.size := by simp
      have hz2 := hbl2.size
      have hg2' : w1.grownBy w2 (Value.slice nA L.length nc).ownBlock := grownBy_trans (World.grownBy_alloc w1 _ _) hg2
      have hB2 := hB1.grown hg2' hne
      have hblw2 : Below W.heap.size W w2 := below_grownBy hbl1 hbl1.size hg2' (fun q hq => by have := (hown1.lt q hq).1; omega)
      obtain ⟨mA, mc, rfl⟩ := ho.form
      have hLl : (L ++ [x]).length = k + 1 := by rw [List.length_append, Hlk.out]; rfl
      rw [hLl] at ho
      rw [← Hn.out] at ho
      clear hg2 hg2' hown1 rR d0 hB1 hbl2
      go_wp2_with (refine wpList_store_blkD (n := 1) rfl rfl rfl rfl (by kernel_rfl) rfl hB2 (by simp) rfl ?_)
      intro w3 hB3 hg3
      have hB3 : Blk w3 W.heap.size 53 #[.slice mA (k + 1) mc] := hB3
      have ho3 := ho.low RCrt.mono hg3 (by omega)
      have hbl3 : Below W.heap.size W w3 := below_grownBy hblw2 hblw2.size hg3 (by intro q e; injection e; omega)
      have hz3 := hg3.size
      clear hB2 ho hg3
      go_wp2
      go_roundw
      case rel => exact ⟨k + 1, by omega, by go_num, _, hB3, ho3, hbl3, by omega⟩
      case measure => simp [intOf]; omega
    · have hkl : k = l.length := by omega
      rw [hkl, List.take_length] at hown
      obtain ⟨nA, nc, rfl⟩ := hown.form
      have hb2k := hb2.kept hbl
      have d0 := hB.cell 0
      simp at d0
      go_wp2_with (refine wpList_store_whole (n := 1) rfl rfl rfl rfl (by kernel_rfl) rfl hb2k rfl rfl ?_)
      intro w3 hB3 hg3
      have hown3 := hown.low RCrt.mono hg3 (by omega)
      go_wp2
      refine bodyPost_ret (results_blk rfl rfl (by kernel_rfl) (by kernel_rfl) hB3 rfl) rfl ?_
      exact ⟨_, rfl, below_grownBy hblw hblw.size hg3 (by intro k e; injection e; omega), hown3.baseR RCrt.mono (by omega)⟩
end Go.Proofs.YtedealljhmokoaaDoor

namespace Go.Proofs.YtedealljhmokoaaDoor
open Go.ChangeShapes Go.WideShapes Go.ChangeAt Go.RowKit
set_option linter.unusedVariables false
set_option linter.unusedSimpArgs false
def missE (l : List Crt) (h : Hdr) : Int := if dagF hD cF l ≠ 0 then dagF hD cF l else if hF h ≠ 0 then hF h else if missW l (dsOf hD l) h then 9 else 0
def missL (l : List Crt) (h : Hdr) : List (List UInt8) := if missE l h = 0 then missN (dsOf hD l) h else []
theorem dag_valid {l : List Crt} (h : dagF hD cF l = 0) : l.length ≤ 400 ∧ (∀ c ∈ l, hF c.hdr = 0) := ⟨(dagF_zero h).1, fun c hc => cF_hF ((dagF_zero h).2.1 c hc)⟩
theorem RDigs.of_own {w : World} {b : Nat} {v : Value} {xs : List (List UInt8)} {bb : Nat} (h : OwnSl 1 (RFrom bb RDig) 25 w b v xs) (hl : xs.length * 24 ≤ 140737488355328) : RDigs w.cell? v xs :=
  RSl.weak (fun h cs x hr => RDig.mono _ _ _ _ hr (View.from_le _ _)) (h.reads (RFrom.mono RDig.mono) hl)
theorem RDigs.nil (h : View) : RDigs h (.slice none 0 0) [] := ⟨none, 0, rfl, Nat.le_refl _, Nat.zero_le _, by simp, fun _ => rfl, fun h => by simp at h⟩
set_option maxHeartbeats 4000000 in
set_option maxRecDepth 100000 in
theorem dagMissing_any (vl : Value) (l : List Crt) (h : Hdr) (vb vp : Value) (w : World) (hl : RCrts w.cell? vl l) (hb : RDigs w.cell? vb h.batches) (hp : RDigs w.cell? vp h.parents) (hT : Tabs w.cell?) :
    Calls Tryd.prog 37 #[.agg #[vl], .agg #[.int .i64 h.author, .int .i64 h.round, vb, vp]] w fun e w' => ∃ d, e = .returned (.tuple #[d, .int .i64 (missE l h)]) ∧ Below w.heap.size w w' ∧ RDigs w'.cell? d (missL l h) := by
  obtain ⟨A, c, rfl, hf0⟩ := id hl
  obtain ⟨bA, bc, rfl, hf1⟩ := id hb
  obtain ⟨pA, pc, rfl, hf2⟩ := id hp
  clear hf0 hf1 hf2
  have hpl : h.parents.length * 24 ≤ 140737488355328 := by obtain ⟨_, _, _, _, _, h, _⟩ := hp; exact h
  obtain ⟨QE, hQE⟩ : ∃ q, Hid (missE l h = q) := ⟨_, rfl⟩
  obtain ⟨QL, hQL⟩ : ∃ q, Hid (missL l h = q) := ⟨_, rfl⟩
  have hE0 : Hid (QE = if dagF hD cF l ≠ 0 then dagF hD cF l else if hF h ≠ 0 then hF h else if missW l (dsOf hD l) h then 9 else 0) := hQE.out.symm
  have hL0 : Hid (QL = if QE = 0 then missN (dsOf hD l) h else []) := by show _ = _; rw [← hQL.out]; unfold missL; rw [hQE.out]
  have hvalid : Hid (dagF hD cF l = 0 → l.length ≤ 400 ∧ (∀ c ∈ l, hF c.hdr = 0)) := dag_valid
  have hhdr : Hid (hF h = 0 → 1 ≤ h.round ∧ h.round ≤ 1048576) := fun h0 => by obtain ⟨a, b, _⟩ := headF_zero h0; exact ⟨a, b⟩
  rw [hQE.out, hQL.out]
  clear hQE hQL
  obtain ⟨E1, hE1⟩ : ∃ q, Hid (dagF hD cF l = q) := ⟨_, rfl⟩
  obtain ⟨E2, hE2⟩ : ∃ q, Hid (hF h = q) := ⟨_, rfl⟩
  rw [hE1.out, hE2.out] at hE0
  rw [hE1.out] at hvalid
  rw [hE2.out] at hhdr
  go_enter Tryd.func37, Tryd.ntmps37
  go_wp2_with fail
  refine two_blocks _ _ _ _ _ (fun W => Calls Tryd.prog _ _ W _) (fun W hk1 hk2 hsz hbW => ?_)
  clear hsz
  refine (dagCheck_any _ l _ (hl.mono RCrt.mono (vle_below hbW)) (hT.mono (vle_below hbW))).mono ?_
  rintro e w1 ⟨rfl, hb1⟩
  rw [hE1.out]
  have hbl1 := hbW.trans (hb1.mono hbW.size)
  have hk11 := hk1.kept hb1
  have hk21 := hk2.kept hb1
  have hz1 := hbl1.size
  by_cases h1 : E1 = 0
  · have hv := Lib.hid (hvalid.out h1)
    have hE0 : Hid (QE = if E2 ≠ 0 then E2 else if missW l (dsOf hD l) h then 9 else 0) := by show _ = _; rw [hE0.out]; simp [h1]
    clear hvalid hE1
    subst h1
    have g0 := hk21.cell 0; have g1 := hk21.cell 1; have g2 := hk21.cell 2; have g3 := hk21.cell 3
    simp at g0 g1 g2 g3
    go_wp2_with fail
    refine (checkHeader_any _ _ _ _ h.batches h.parents _ (hb.mono RDig.mono (vle_below hbl1)) (hp.mono RDig.mono (vle_below hbl1))).mono ?_
    rintro e w2 ⟨rfl, hb2⟩
    rw [show headF h.author h.round h.batches h.parents = E2 from hE2.out]
    have hbl2 := hbl1.trans (hb2.mono hz1)
    have hk12 := hk11.kept hb2
    have hk22 := hk21.kept hb2
    have hz2 := hbl2.size
    clear g0 g1 g2 g3
    by_cases h2 : E2 = 0
    · have hr := hhdr.out h2
      have hE0 : Hid (QE = if missW l (dsOf hD l) h then 9 else 0) := by show _ = _; rw [hE0.out]; simp [h2]
      clear hhdr hE2
      subst h2
      have hl2 := hl.mono RCrt.mono (vle_below hbl2)
      have hp2 := hp.mono RDig.mono (vle_below hbl2)
      have hT2 := hT.mono (vle_below hbl2)
      go_wp2_with fail
      refine wp_region_pl (fun w' => Below w2.heap.size w2 w') [11] (.q 0 (.q 1 (.q 2 (.q 3 (.q 5 (.l 4 (.l 6 (.q 7 (.q 8 (.q 9 (.q 10 (.qc 11 .nil)))))))))))) (by kernel_rfl) (by kernel_rfl) (fun _ _ d _ _ h => by cases d <;> exact h) rfl (by kernel_rfl) ?_ ?_
      · exact below_drew _
      intro W3 hS3
      repeat (first
        | (refine pl_q (by assumption) rfl rfl ?_; apply Exists.intro; refine ⟨fun w' hS => ?_, ?_⟩; (· (have hq := hk12.kept hS; have h0 := hq.cell 0; have hh := hk22.kept hS; have p0 := hh.cell 0; have p1 := hh.cell 1; have p2 := hh.cell 2; have p3 := hh.cell 3; simp at h0 p0 p1 p2 p3; go_simp; exact rfl)); simp only [List.getElem_toArray, List.getElem_cons_zero, List.getElem_cons_succ, Act.put, List.setIfInBounds_toArray, List.set_cons_zero, List.set_cons_succ])
        | (refine pl_qc rfl rfl ?_; apply Exists.intro; refine ⟨fun w' _ => ?_, ?_⟩; (· (go_simp; exact rfl)); simp only [List.getElem_toArray, List.getElem_cons_zero, List.getElem_cons_succ, Act.put, List.setIfInBounds_toArray, List.set_cons_zero, List.set_cons_succ])
        | (refine pl_skip (by assumption) rfl rfl ?_; simp only [List.getElem_toArray, List.getElem_cons_zero, List.getElem_cons_succ, Act.put, List.setIfInBounds_toArray, List.set_cons_zero, List.set_cons_succ])
        | (refine pl_skipl (by assumption) rfl rfl ?_; simp only [List.getElem_toArray, List.getElem_cons_zero, List.getElem_cons_succ, Act.put, List.setIfInBounds_toArray, List.set_cons_zero, List.set_cons_succ]))
      first
        | refine pl_do rfl rfl (fun K hK => ?_)
        | refine op_do rfl rfl (fun K hK => ?_)
      try simp only [List.getElem_toArray, List.getElem_cons_zero, List.getElem_cons_succ]
      go_simp
      refine (all_any _ l _ (hl2.mono RCrt.mono (vle_below hS3)) hv.out.2 (hT2.mono (vle_below hS3))).mono ?_
      rintro e w4 ⟨vd, rfl, hb4, od⟩
      have hS4 := hS3.trans (hb4.mono hS3.size)
      have rD := RDigs.of_own od (by rw [dsOf_len]; have := hv.out.1; omega)
      have hlen : (dsOf hD l).length ≤ l.length := by rw [dsOf_len]; omega
      clear od
      generalize dsOf hD l = Ds at rD hlen hE0 hL0
      obtain ⟨dA, dc, rfl, hfd⟩ := id rD
      clear hfd
      refine hK.out _ _ (hS4) (fun hS => ?_)
      clear hK K
      try simp only [List.getElem_toArray, List.getElem_cons_zero, List.getElem_cons_succ, Act.put, List.setIfInBounds_toArray, List.set_cons_zero, List.set_cons_succ]
      repeat (first
        | (refine pl_q (by assumption) rfl rfl ?_; apply Exists.intro; refine ⟨fun w' hS => ?_, ?_⟩; (· (have hh := hk22.kept hS; have p0 := hh.cell 0; have p1 := hh.cell 1; have p2 := hh.cell 2; have p3 := hh.cell 3; simp at p0 p1 p2 p3; go_simp; exact rfl)); simp only [List.getElem_toArray, List.getElem_cons_zero, List.getElem_cons_succ, Act.put, List.setIfInBounds_toArray, List.set_cons_zero, List.set_cons_succ])
        | (refine pl_qc rfl rfl ?_; apply Exists.intro; refine ⟨fun w' _ => ?_, ?_⟩; (· (go_simp; exact rfl)); simp only [List.getElem_toArray, List.getElem_cons_zero, List.getElem_cons_succ, Act.put, List.setIfInBounds_toArray, List.set_cons_zero, List.set_cons_succ])
        | (refine pl_skip (by assumption) rfl rfl ?_; simp only [List.getElem_toArray, List.getElem_cons_zero, List.getElem_cons_succ, Act.put, List.setIfInBounds_toArray, List.set_cons_zero, List.set_cons_succ])
        | (refine pl_skipl (by assumption) rfl rfl ?_; simp only [List.getElem_toArray, List.getElem_cons_zero, List.getElem_cons_succ, Act.put, List.setIfInBounds_toArray, List.set_cons_zero, List.set_cons_succ]))
      first
        | refine pl_do rfl rfl (fun K hK => ?_)
        | refine op_do rfl rfl (fun K hK => ?_)
      try simp only [List.getElem_toArray, List.getElem_cons_zero, List.getElem_cons_succ]
      go_simp
      refine (missing_any _ _ l Ds h _ _ _ (hl2.mono RCrt.mono (vle_below hS4)) rD (hp2.mono RDig.mono (vle_below hS4)) hlen hr.1 hr.2).mono ?_
      rintro e w5 ⟨v5, rfl, hb5, o5⟩
      have hS5 := hS4.trans (hb5.mono hS4.size)
      have r5 := RDigs.of_own o5 (Nat.le_trans (Nat.mul_le_mul_right _ (List.length_filter_le _ _)) hpl)
      obtain ⟨A5, c5, rfl⟩ := o5.form
      clear o5 rD
      generalize missN Ds h = N at r5 hL0
      generalize missW l Ds h = MW at hE0
      refine hK.out _ _ (hS5) (fun hS => ?_)
      clear hK K
      try simp only [List.getElem_toArray, List.getElem_cons_zero, List.getElem_cons_succ, Act.put, List.setIfInBounds_toArray, List.set_cons_zero, List.set_cons_succ]
      repeat (first
        | (refine pl_q (by assumption) rfl rfl ?_; apply Exists.intro; refine ⟨fun w' hS => ?_, ?_⟩; (· (skip; go_simp; exact rfl)); simp only [List.getElem_toArray, List.getElem_cons_zero, List.getElem_cons_succ, Act.put, List.setIfInBounds_toArray, List.set_cons_zero, List.set_cons_succ])
        | (refine pl_qc rfl rfl ?_; apply Exists.intro; refine ⟨fun w' _ => ?_, ?_⟩; (· (go_simp; exact rfl)); simp only [List.getElem_toArray, List.getElem_cons_zero, List.getElem_cons_succ, Act.put, List.setIfInBounds_toArray, List.set_cons_zero, List.set_cons_succ])
        | (refine pl_skip (by assumption) rfl rfl ?_; simp only [List.getElem_toArray, List.getElem_cons_zero, List.getElem_cons_succ, Act.put, List.setIfInBounds_toArray, List.set_cons_zero, List.set_cons_succ])
        | (refine pl_skipl (by assumption) rfl rfl ?_; simp only [List.getElem_toArray, List.getElem_cons_zero, List.getElem_cons_succ, Act.put, List.setIfInBounds_toArray, List.set_cons_zero, List.set_cons_succ]))
      refine pl_nil ?_
      have hbl5 := hbl2.trans (hS5.mono hz2)
      clear hk12 hk22 hk11 hk21 hl2 hp2 hT2
      cases MW
      · have HE : Hid (QE = 0) := by show _ = _; rw [hE0.out]; rfl
        have HL : Hid (QL = N) := by show _ = _; rw [hL0.out, if_pos HE.out]
        clear hE0 hL0
        go_wp2
        go_ret2
        exact ⟨_, by rw [HE.out]; rfl, hbl5, by rw [HL.out]; exact r5⟩
      · have HE : Hid (QE = 9) := by show _ = _; rw [hE0.out]; rfl
        have HL : Hid (QL = []) := by show _ = _; rw [hL0.out, if_neg (by rw [HE.out]; decide)]
        clear hE0 hL0
        go_wp2
        go_ret2
        exact ⟨_, by rw [HE.out]; rfl, hbl5, by rw [HL.out]; exact RDigs.nil _⟩
    · have HE : Hid (QE = E2) := by show _ = _; rw [hE0.out]; simp [h2]
      have HL : Hid (QL = []) := by show _ = _; rw [hL0.out, HE.out, if_neg h2]
      clear hE0 hL0
      go_wp2
      go_ret2
      exact ⟨_, by rw [HE.out]; rfl, hbl2, by rw [HL.out]; exact RDigs.nil _⟩
  · have HE : Hid (QE = E1) := by show _ = _; rw [hE0.out, if_pos h1]
    have HL : Hid (QL = []) := by show _ = _; rw [hL0.out, HE.out, if_neg h1]
    clear hE0 hL0
    go_wp2
    go_ret2
    exact ⟨_, by rw [HE.out]; rfl, hbl1, by rw [HL.out]; exact RDigs.nil _⟩
end Go.Proofs.YtedealljhmokoaaDoor

namespace Go.Proofs.YtedealljhmokoaaDoor
open Go.ChangeShapes Go.WideShapes Go.ChangeAt Go.RowKit
set_option linter.unusedVariables false
set_option linter.unusedSimpArgs false
set_option maxHeartbeats 2000000 in
set_option maxRecDepth 100000 in
theorem cloneI_any (v : Value) (xs : List Int) (w : World) (hr : RIs w.cell? v xs) :
    Calls Tryd.prog 83 #[v] w fun e w' => ∃ v', e = .returned v' ∧ Below w.heap.size w w' ∧ OwnI w' w.heap.size v' xs := by
  have hb : xs.length * 8 ≤ 140737488355328 := hr.len
  have hb1 := Lib.hid hb
  obtain ⟨A, c, rfl, hf⟩ := id hr
  have e1 := @Lib.run_eql_slice_nil Tryd.prog
  clear hb hf
  cases A with
  | none =>
    obtain ⟨rfl, h1, rfl⟩ := hr.isNil
    go_enter Tryd.func83, Tryd.ntmps83
    go_wp2
    go_ret
    exact ⟨_, rfl, Below.refl _ _, OwnVec.nil _ _ _ _⟩
  | some a =>
    have hr' := hr.mono (vle_below ((Below.refl _ _).alloc (Nat.le_refl _) (.cells #[] 3)))
    clear hr
    go_enter Tryd.func83, Tryd.ntmps83
    go_wp2_with (at_builtin; refine wpList_append_vec (n := 140737488355328) elemI encI_one _ _ rfl rfl rfl (OwnVec.made _ _ _ _ (Nat.le_refl _)) ((Below.refl _ _).alloc (Nat.le_refl _) _) (le_alloc _ (Nat.le_refl _)) rfl hr' (Nat.le_refl _) (by simpa using hb1.out) (by have := hb1.out; simp; omega) ?_)
    intro v' w1 ho hbl _
    go_wp2
    go_ret
    exact ⟨v', rfl, hbl, by simpa using ho⟩
set_option maxHeartbeats 2000000 in
set_option maxRecDepth 100000 in
theorem dagDigests_any (v : Value) (l : List (List UInt8)) (w : World) (hv : RDigs w.cell? v l) :
    Calls Tryd.prog 122 #[v] w fun e w' => ∃ v', e = .returned v' ∧ Below w.heap.size w w' ∧ OwnSl 1 (RFrom w.heap.size RDig) 25 w' w.heap.size v' l := by
  obtain ⟨A, c, rfl, hf⟩ := id hv
  obtain ⟨_, hcap, hlen, hel⟩ := hv.at
  have Hel := Lib.hid hel
  clear hel hv hf
  go_enter Tryd.func122, Tryd.ntmps122
  go_wp2
  go_loopw [3, 5, 8] (fun v _ i wr => ∃ k : Nat, k ≤ l.length ∧ i = .int .i64 k ∧ OwnSl 1 (RFrom w.heap.size RDig) 25 wr w.heap.size v (l.take k) ∧ Below w.heap.size w wr) (fun _ _ i _ => l.length - (intOf i).toNat)
  case atStart => exact ⟨0, Nat.zero_le _, rfl, OwnSl.nil _ _ _ _ _, Below.refl _ _⟩
  case round =>
    obtain ⟨k, hk, rfl, hown, hbl⟩ := hrel
    have hbs := hbl.size
    by_cases hlt : k < l.length
    · obtain ⟨b0, o0, d, rfl, e0, hd⟩ := Hel.out k hlt
      have c0 := vle_below hbl _ _ e0
      have hd' := hd.mono (vle_below hbl)
      have Hlk := Lib.hid (show (l.take k).length = k by simp; omega)
      have Hn := Lib.hid (List.take_succ_eq_append_getElem hlt)
      have hdl := Lib.hid (show l[k].length * 1 ≤ 140737488355328 from hd.len)
      clear e0 hd
      generalize l.take k = L at hown Hlk Hn
      generalize l[k] = x at hd' hdl Hn
      obtain ⟨xA, xc, rfl, hfx⟩ := id hd'
      clear hfx
      go_wp2_with fail
      refine (cloneB_any _ x _ hd').mono ?_
      rintro e w1 ⟨d', rfl, hb1, o1⟩
      have hown1 := hown.kept (RFrom.mono RDig.mono) hb1
      have hbl1 : Below w.heap.size w w1 := hbl.trans (hb1.mono hbs)
      have hR : RFrom w.heap.size RDig (View.but w1.cell? u3.ownBlock) [d'] x :=
        ⟨d', rfl, o1.reads_from hdl.out hbs (fun g hg => (hown.lt g hg).2)⟩
      have hs1 := hbl1.size
      obtain ⟨A', c', rfl⟩ := o1.form
      clear c0 hd' o1
      go_wp2_with (at_builtin; go_loud (refine wpList_append_sl1 (n := 140737488355328) (RFrom.mono RDig.mono) x [.slice A' x.length c'] elemDig _ _ rfl rfl rfl hown1 hbl1 hs1 rfl rfl rfl rfl hR (Nat.le_refl _) (by rw [Hlk.out]; omega) (by rw [Hlk.out]; omega) ?_))
      intro v' w2 ho hbl2 _
      clear hown hown1 hR
      go_wp2
      go_roundw
      case rel => exact ⟨k + 1, by omega, by go_num, by rw [Hn.out]; exact ho, hbl2⟩
      case measure => simp [intOf]; omega
    · have : k = l.length := by omega
      subst this
      go_wp2
      go_ret
      exact ⟨_, rfl, hbl, by simpa using hown⟩
set_option maxHeartbeats 4000000 in
set_option maxRecDepth 100000 in
theorem dagOwn_any (a r : Int) (vb vp vv : Value) (b p : List (List UInt8)) (vs : List Int) (w : World) (hb : RDigs w.cell? vb b) (hp : RDigs w.cell? vp p) (hv : RIs w.cell? vv vs) :
    Calls Tryd.prog 91 #[.agg #[.int .i64 a, .int .i64 r, vb, vp, vv]] w fun e w' => ∃ vb' vp' vv', e = .returned (.agg #[.int .i64 a, .int .i64 r, vb', vp', vv']) ∧ Below w.heap.size w w' ∧
      RDigs (View.from w'.cell? w.heap.size) vb' b ∧ RDigs (View.from w'.cell? w.heap.size) vp' p ∧ RIs (View.from w'.cell? w.heap.size) vv' vs := by
  have hlb : b.length * 24 ≤ 140737488355328 := by obtain ⟨_, _, _, _, _, h, _⟩ := hb; exact h
  have hlp : p.length * 24 ≤ 140737488355328 := by obtain ⟨_, _, _, _, _, h, _⟩ := hp; exact h
  have hlv := hv.len
  obtain ⟨bA, bc, rfl, hf1⟩ := id hb
  obtain ⟨pA, pc, rfl, hf2⟩ := id hp
  obtain ⟨vA, vc, rfl, hf3⟩ := id hv
  clear hf1 hf2 hf3
  go_enter Tryd.func91, Tryd.ntmps91
  go_upto_region 1 with fail
  refine two_blocks _ _ _ _ _ (fun W => Code.wp _ _ _ _ W) (fun W hk1 hk2 hsz hbW => ?_)
  have hszI : w.heap.size + 2 ≤ W.heap.size := by omega
  clear hsz
  have g0 := hk1.cell 0; have g1 := hk1.cell 1; have g2 := hk1.cell 2; have g3 := hk1.cell 3
  simp at g0 g1 g2 g3
  go_upto_region 2 with fail
  refine one_block _ _ _ (fun W => Code.wp _ _ _ _ W) (fun W2 h3 hs3 hb3 => ?_)
  have hz3 : W.heap.size + 1 ≤ W2.heap.size := by omega
  clear hs3 g0 g1 g2 g3
  have hbl2 := hbW.trans (hb3.mono hbW.size)
  have hk12 := hk1.kept hb3
  have hk22 := hk2.kept hb3
  have hB := hb.mono RDig.mono (vle_below hbl2)
  have hP := hp.mono RDig.mono (vle_below hbl2)
  have hV := hv.mono (vle_below hbl2)
  have hV0 := hv
  clear hk1 hk2 hb hp hv hV
  refine wp_region_p2 (fun w' => Below W2.heap.size W2 w') (fun w' => Below W2.heap.size W2 w') [6, 7, 8, 9] (.q 0 (.q 1 (.q 3 (.q 4 (.l 2 (.qc 6 (.l 5 (.l 7 (.qc 8 (.l 9 .nil)))))))))) (by kernel_rfl) (by kernel_rfl) (fun _ _ d _ _ h => by cases d <;> exact h) rfl (by kernel_rfl) ?_ ?_
  · exact ⟨below_drew _, below_drew _⟩
  intro W3 _ hS3
  repeat (first
    | (refine pl_q (by assumption) rfl rfl ?_; apply Exists.intro; refine ⟨fun w' hS => ?_, ?_⟩; (· (have hq := h3.kept hS; have h0 := hq.cell 0; have h1 := hq.cell 1; have h2 := hq.cell 2; have h3 := hq.cell 3; simp at h0 h1 h2 h3; go_simp; exact rfl)); simp only [List.getElem_toArray, List.getElem_cons_zero, List.getElem_cons_succ, Act.put, List.setIfInBounds_toArray, List.set_cons_zero, List.set_cons_succ])
    | (refine pl_qc rfl rfl ?_; apply Exists.intro; refine ⟨fun w' _ => ?_, ?_⟩; (· (go_simp; exact rfl)); simp only [List.getElem_toArray, List.getElem_cons_zero, List.getElem_cons_succ, Act.put, List.setIfInBounds_toArray, List.set_cons_zero, List.set_cons_succ])
    | (refine pl_skip (by assumption) rfl rfl ?_; simp only [List.getElem_toArray, List.getElem_cons_zero, List.getElem_cons_succ, Act.put, List.setIfInBounds_toArray, List.set_cons_zero, List.set_cons_succ])
    | (refine pl_skipl (by assumption) rfl rfl ?_; simp only [List.getElem_toArray, List.getElem_cons_zero, List.getElem_cons_succ, Act.put, List.setIfInBounds_toArray, List.set_cons_zero, List.set_cons_succ]))
  first
    | refine pl_do rfl rfl (fun K hK => ?_)
    | refine op_do rfl rfl (fun K hK => ?_)
  try simp only [List.getElem_toArray, List.getElem_cons_zero, List.getElem_cons_succ]
  go_simp
  refine (dagDigests_any _ b _ (hB.mono RDig.mono (vle_below hS3))).mono ?_
  rintro e w4 ⟨v4, rfl, hb4, o4⟩
  have hS4 := hS3.trans (hb4.mono hS3.size)
  have r4 := o4.reads_from RDig.mono hlb
  obtain ⟨A4, c4, rfl⟩ := o4.form
  clear o4
  refine hK.out _ _ (hS4) (fun hS => ?_)
  clear hK K
  try simp only [List.getElem_toArray, List.getElem_cons_zero, List.getElem_cons_succ, Act.put, List.setIfInBounds_toArray, List.set_cons_zero, List.set_cons_succ]
  repeat (first
    | (refine pl_q (by assumption) rfl rfl ?_; apply Exists.intro; refine ⟨fun w' hS => ?_, ?_⟩; (· (skip; go_simp; exact rfl)); simp only [List.getElem_toArray, List.getElem_cons_zero, List.getElem_cons_succ, Act.put, List.setIfInBounds_toArray, List.set_cons_zero, List.set_cons_succ])
    | (refine pl_qc rfl rfl ?_; apply Exists.intro; refine ⟨fun w' _ => ?_, ?_⟩; (· (go_simp; exact rfl)); simp only [List.getElem_toArray, List.getElem_cons_zero, List.getElem_cons_succ, Act.put, List.setIfInBounds_toArray, List.set_cons_zero, List.set_cons_succ])
    | (refine pl_skip (by assumption) rfl rfl ?_; simp only [List.getElem_toArray, List.getElem_cons_zero, List.getElem_cons_succ, Act.put, List.setIfInBounds_toArray, List.set_cons_zero, List.set_cons_succ])
    | (refine pl_skipl (by assumption) rfl rfl ?_; simp only [List.getElem_toArray, List.getElem_cons_zero, List.getElem_cons_succ, Act.put, List.setIfInBounds_toArray, List.set_cons_zero, List.set_cons_succ]))
  first
    | refine pl_do rfl rfl (fun K hK => ?_)
    | refine op_do rfl rfl (fun K hK => ?_)
  try simp only [List.getElem_toArray, List.getElem_cons_zero, List.getElem_cons_succ]
  go_simp
  refine (dagDigests_any _ p _ (hP.mono RDig.mono (vle_below hS4))).mono ?_
  rintro e w5 ⟨v5, rfl, hb5, o5⟩
  have hS5 := hS4.trans (hb5.mono hS4.size)
  have r5 := o5.reads_from RDig.mono hlp
  obtain ⟨A5, c5, rfl⟩ := o5.form
  have h35 := h3.kept hS5
  have r45 := r4.mono RDig.mono (vle_from _ (vle_below hb5))
  clear o5 r4
  refine hK.out _ _ (hS5) (fun hS => ?_)
  clear hK K
  try simp only [List.getElem_toArray, List.getElem_cons_zero, List.getElem_cons_succ, Act.put, List.setIfInBounds_toArray, List.set_cons_zero, List.set_cons_succ]
  repeat (first
    | (refine pl_q (by assumption) rfl rfl ?_; apply Exists.intro; refine ⟨fun w' hS => ?_, ?_⟩; (· (skip; go_simp; exact rfl)); simp only [List.getElem_toArray, List.getElem_cons_zero, List.getElem_cons_succ, Act.put, List.setIfInBounds_toArray, List.set_cons_zero, List.set_cons_succ])
    | (refine pl_qc rfl rfl ?_; apply Exists.intro; refine ⟨fun w' _ => ?_, ?_⟩; (· (go_simp; exact rfl)); simp only [List.getElem_toArray, List.getElem_cons_zero, List.getElem_cons_succ, Act.put, List.setIfInBounds_toArray, List.set_cons_zero, List.set_cons_succ])
    | (refine pl_skip (by assumption) rfl rfl ?_; simp only [List.getElem_toArray, List.getElem_cons_zero, List.getElem_cons_succ, Act.put, List.setIfInBounds_toArray, List.set_cons_zero, List.set_cons_succ])
    | (refine pl_skipl (by assumption) rfl rfl ?_; simp only [List.getElem_toArray, List.getElem_cons_zero, List.getElem_cons_succ, Act.put, List.setIfInBounds_toArray, List.set_cons_zero, List.set_cons_succ]))
  first
    | refine pl_close rfl rfl rfl (fun K hK => ?_)
    | refine op_close rfl rfl rfl (fun K hK => ?_)
  try simp only [List.getElem_toArray, List.getElem_cons_zero, List.getElem_cons_succ]
  refine wp_store_blk (n := 1) rfl rfl rfl (by kernel_rfl) rfl h35 (by simp) rfl ?_
  intro w6 h36 hg6
  have h36 : Blk w6 W.heap.size 37 #[.int .i64 a, .int .i64 r, .slice A4 b.length c4, .slice pA p.length pc] := h36
  refine hK.out _ _ ?_
  clear hK K
  try simp only [List.getElem_toArray, List.getElem_cons_zero, List.getElem_cons_succ, Act.put, List.setIfInBounds_toArray, List.set_cons_zero, List.set_cons_succ]
  repeat (first
    | (refine pl_q (by assumption) rfl rfl ?_; apply Exists.intro; refine ⟨fun w' hS => ?_, ?_⟩; (· (skip; go_simp; exact rfl)); simp only [List.getElem_toArray, List.getElem_cons_zero, List.getElem_cons_succ, Act.put, List.setIfInBounds_toArray, List.set_cons_zero, List.set_cons_succ])
    | (refine pl_qc rfl rfl ?_; apply Exists.intro; refine ⟨fun w' _ => ?_, ?_⟩; (· (go_simp; exact rfl)); simp only [List.getElem_toArray, List.getElem_cons_zero, List.getElem_cons_succ, Act.put, List.setIfInBounds_toArray, List.set_cons_zero, List.set_cons_succ])
    | (refine pl_skip (by assumption) rfl rfl ?_; simp only [List.getElem_toArray, List.getElem_cons_zero, List.getElem_cons_succ, Act.put, List.setIfInBounds_toArray, List.set_cons_zero, List.set_cons_succ])
    | (refine pl_skipl (by assumption) rfl rfl ?_; simp only [List.getElem_toArray, List.getElem_cons_zero, List.getElem_cons_succ, Act.put, List.setIfInBounds_toArray, List.set_cons_zero, List.set_cons_succ]))
  first
    | refine pl_close rfl rfl rfl (fun K hK => ?_)
    | refine op_close rfl rfl rfl (fun K hK => ?_)
  try simp only [List.getElem_toArray, List.getElem_cons_zero, List.getElem_cons_succ]
  refine wp_store_blk (n := 1) rfl rfl rfl (by kernel_rfl) rfl h36 (by simp) rfl ?_
  intro w7 h37 hg7
  have h37 : Blk w7 W.heap.size 37 #[.int .i64 a, .int .i64 r, .slice A4 b.length c4, .slice A5 p.length c5] := h37
  have hg57 := grownBy_trans hg6 hg7
  have hk17 := (hk12.kept hS5).grown hg57 (by simp; omega)
  have hk27 := (hk22.kept hS5).grown hg57 (by simp; omega)
  have hz35 := hS3.size
  have hz45 := hS4.size
  have r47 : RDigs (View.from w7.cell? (W.heap.size + 1)) (.slice A4 b.length c4) b := r45.mono RDig.mono (from_le_from (by omega) (VLe.refl _) hg57 (by omega))
  have r57 : RDigs (View.from w7.cell? (W.heap.size + 1)) (.slice A5 p.length c5) p := r5.mono RDig.mono (from_le_from (by omega) (VLe.refl _) hg57 (by omega))
  have hbl7 : Below W.heap.size W w7 := below_grownBy (hb3.trans (hS5.mono (by omega))) (by have := hS5.size; omega) hg57 (by intro k e; injection e; omega)
  have hV7 : RIs w7.cell? (.slice vA vs.length vc) vs := by
    refine RVec.mono (h := w.cell?) ?_ (vle_below (hbW.trans (hbl7.mono hbW.size)))
    exact hV0
  refine hK.out _ _ ?_
  clear hK K
  try simp only [List.getElem_toArray, List.getElem_cons_zero, List.getElem_cons_succ, Act.put, List.setIfInBounds_toArray, List.set_cons_zero, List.set_cons_succ]
  repeat (first
    | (refine pl_q (by assumption) rfl rfl ?_; apply Exists.intro; refine ⟨fun w' hS => ?_, ?_⟩; (· (skip; go_simp; exact rfl)); simp only [List.getElem_toArray, List.getElem_cons_zero, List.getElem_cons_succ, Act.put, List.setIfInBounds_toArray, List.set_cons_zero, List.set_cons_succ])
    | (refine pl_qc rfl rfl ?_; apply Exists.intro; refine ⟨fun w' _ => ?_, ?_⟩; (· (go_simp; exact rfl)); simp only [List.getElem_toArray, List.getElem_cons_zero, List.getElem_cons_succ, Act.put, List.setIfInBounds_toArray, List.set_cons_zero, List.set_cons_succ])
    | (refine pl_skip (by assumption) rfl rfl ?_; simp only [List.getElem_toArray, List.getElem_cons_zero, List.getElem_cons_succ, Act.put, List.setIfInBounds_toArray, List.set_cons_zero, List.set_cons_succ])
    | (refine pl_skipl (by assumption) rfl rfl ?_; simp only [List.getElem_toArray, List.getElem_cons_zero, List.getElem_cons_succ, Act.put, List.setIfInBounds_toArray, List.set_cons_zero, List.set_cons_succ]))
  refine pl_nil ?_
  have hz77 : W.heap.size + 1 ≤ w7.heap.size := by have := hg57.size; have := hS5.size; omega
  clear hk12 hk22 hS3 hS4 hS5 hg6 hg7 r45 r5 h35 h36 hB hP
  have hz7 := hbl7.size
  go_wp2_with fail
  refine wp_region_pl (fun w' => Below w7.heap.size w7 w') [5] (.q 0 (.q 1 (.q 2 (.l 3 (.q 4 (.l 5 .nil)))))) (by kernel_rfl) (by kernel_rfl) (fun _ _ d _ _ h => by cases d <;> exact h) rfl (by kernel_rfl) ?_ ?_
  · exact below_drew _
  intro W8 hS8
  repeat (first
    | (refine pl_q (by assumption) rfl rfl ?_; apply Exists.intro; refine ⟨fun w' hS => ?_, ?_⟩; (· (have hq := h37.kept hS; have h0 := hq.cell 0; have h1 := hq.cell 1; have h2 := hq.cell 2; have h3 := hq.cell 3; have hp := hk17.kept hS; have p4 := hp.cell 4; simp at h0 h1 h2 h3 p4; go_simp; exact rfl)); simp only [List.getElem_toArray, List.getElem_cons_zero, List.getElem_cons_succ, Act.put, List.setIfInBounds_toArray, List.set_cons_zero, List.set_cons_succ])
    | (refine pl_qc rfl rfl ?_; apply Exists.intro; refine ⟨fun w' _ => ?_, ?_⟩; (· (go_simp; exact rfl)); simp only [List.getElem_toArray, List.getElem_cons_zero, List.getElem_cons_succ, Act.put, List.setIfInBounds_toArray, List.set_cons_zero, List.set_cons_succ])
    | (refine pl_skip (by assumption) rfl rfl ?_; simp only [List.getElem_toArray, List.getElem_cons_zero, List.getElem_cons_succ, Act.put, List.setIfInBounds_toArray, List.set_cons_zero, List.set_cons_succ])
    | (refine pl_skipl (by assumption) rfl rfl ?_; simp only [List.getElem_toArray, List.getElem_cons_zero, List.getElem_cons_succ, Act.put, List.setIfInBounds_toArray, List.set_cons_zero, List.set_cons_succ]))
  first
    | refine pl_do rfl rfl (fun K hK => ?_)
    | refine op_do rfl rfl (fun K hK => ?_)
  try simp only [List.getElem_toArray, List.getElem_cons_zero, List.getElem_cons_succ]
  go_simp
  refine (cloneI_any _ vs _ (hV7.mono (vle_below hS8))).mono ?_
  rintro e w9 ⟨v9, rfl, hb9, o9⟩
  have hS9 := hS8.trans (hb9.mono hS8.size)
  obtain ⟨A9, c9, rfl⟩ := o9.form
  have hk29 := hk27.kept hS9
  have hz8 := hS8.size
  refine hK.out _ _ (hS9) (fun hS => ?_)
  clear hK K
  try simp only [List.getElem_toArray, List.getElem_cons_zero, List.getElem_cons_succ, Act.put, List.setIfInBounds_toArray, List.set_cons_zero, List.set_cons_succ]
  repeat (first
    | (refine pl_q (by assumption) rfl rfl ?_; apply Exists.intro; refine ⟨fun w' hS => ?_, ?_⟩; (· (skip; go_simp; exact rfl)); simp only [List.getElem_toArray, List.getElem_cons_zero, List.getElem_cons_succ, Act.put, List.setIfInBounds_toArray, List.set_cons_zero, List.set_cons_succ])
    | (refine pl_qc rfl rfl ?_; apply Exists.intro; refine ⟨fun w' _ => ?_, ?_⟩; (· (go_simp; exact rfl)); simp only [List.getElem_toArray, List.getElem_cons_zero, List.getElem_cons_succ, Act.put, List.setIfInBounds_toArray, List.set_cons_zero, List.set_cons_succ])
    | (refine pl_skip (by assumption) rfl rfl ?_; simp only [List.getElem_toArray, List.getElem_cons_zero, List.getElem_cons_succ, Act.put, List.setIfInBounds_toArray, List.set_cons_zero, List.set_cons_succ])
    | (refine pl_skipl (by assumption) rfl rfl ?_; simp only [List.getElem_toArray, List.getElem_cons_zero, List.getElem_cons_succ, Act.put, List.setIfInBounds_toArray, List.set_cons_zero, List.set_cons_succ]))
  first
    | refine pl_close rfl rfl rfl (fun K hK => ?_)
    | refine op_close rfl rfl rfl (fun K hK => ?_)
  try simp only [List.getElem_toArray, List.getElem_cons_zero, List.getElem_cons_succ]
  refine wp_store_whole (n := 5) rfl rfl rfl (by kernel_rfl) rfl hk29 rfl rfl ?_
  intro w10 hB10 hg10
  refine hK.out _ _ ?_
  clear hK K
  try simp only [List.getElem_toArray, List.getElem_cons_zero, List.getElem_cons_succ, Act.put, List.setIfInBounds_toArray, List.set_cons_zero, List.set_cons_succ]
  repeat (first
    | (refine pl_q (by assumption) rfl rfl ?_; apply Exists.intro; refine ⟨fun w' hS => ?_, ?_⟩; (· (skip; go_simp; exact rfl)); simp only [List.getElem_toArray, List.getElem_cons_zero, List.getElem_cons_succ, Act.put, List.setIfInBounds_toArray, List.set_cons_zero, List.set_cons_succ])
    | (refine pl_qc rfl rfl ?_; apply Exists.intro; refine ⟨fun w' _ => ?_, ?_⟩; (· (go_simp; exact rfl)); simp only [List.getElem_toArray, List.getElem_cons_zero, List.getElem_cons_succ, Act.put, List.setIfInBounds_toArray, List.set_cons_zero, List.set_cons_succ])
    | (refine pl_skip (by assumption) rfl rfl ?_; simp only [List.getElem_toArray, List.getElem_cons_zero, List.getElem_cons_succ, Act.put, List.setIfInBounds_toArray, List.set_cons_zero, List.set_cons_succ])
    | (refine pl_skipl (by assumption) rfl rfl ?_; simp only [List.getElem_toArray, List.getElem_cons_zero, List.getElem_cons_succ, Act.put, List.setIfInBounds_toArray, List.set_cons_zero, List.set_cons_succ]))
  refine pl_nil ?_
  go_wp2
  refine bodyPost_ret (results_blk rfl rfl (by kernel_rfl) (by kernel_rfl) hB10 rfl) rfl ?_
  have hbl10 : Below w.heap.size w w10 := below_grownBy ((hbW.trans (hbl7.mono hbW.size)).trans (hS9.mono (by omega))) (by have := hS9.size; omega) hg10 (by intro k e; injection e; omega)
  have hzz : w.heap.size + 1 < W.heap.size + 1 := by omega
  refine ⟨_, _, _, rfl, hbl10, ?_, ?_, ?_⟩
  · exact r47.mono RDig.mono (from_le_from (by omega) (vle_from _ (vle_below hS9)) hg10 hzz)
  · exact r57.mono RDig.mono (from_le_from (by omega) (vle_from _ (vle_below hS9)) hg10 hzz)
  · exact (o9.from_ (bs := 8) hlv (b0 := W.heap.size + 1) (by omega)).mono (from_le_from (by omega) (VLe.refl _) hg10 hzz)
end Go.Proofs.YtedealljhmokoaaDoor

namespace Go.Proofs.YtedealljhmokoaaDoor
open Go.ChangeShapes Go.WideShapes Go.ChangeAt Go.RowKit
set_option linter.unusedVariables false
set_option linter.unusedSimpArgs false
theorem dag_lone {l : List Crt} (h : dagF hD cF l = 0) : Lone l ∧ Auth l ∧ l.length ≤ 400 ∧ (∀ c ∈ l, hF c.hdr = 0) := by
  obtain ⟨h1, h2, h3⟩ := dagF_zero h
  refine ⟨badC_lone h3, fun c hc => ?_, h1, (dag_valid h).2⟩
  have hh := (dag_valid h).2 c hc
  unfold hF headF at hh
  split at hh
  · rename_i h1
    simp [inB] at h1
    omega
  · cases hh
def RAt (w0 : World) : View → List Value → Crt → Prop := fun _ cs x => RCrt w0.cell? cs x
theorem RAt.mono (w0 : World) : Mono (RAt w0) := fun _ _ _ _ h _ => h
theorem inRound_take (l : List Crt) (r : Int) {k : Nat} (hk : k < l.length) : inRound (l.take (k + 1)) r = inRound (l.take k) r ++ (if l[k].hdr.round == r then [l[k]] else []) := by
  unfold inRound
  rw [List.take_succ_eq_append_getElem hk, List.filter_append]
  congr 1
  by_cases h : l[k].hdr.round == r <;> simp [List.filter, h]
set_option maxHeartbeats 4000000 in
set_option maxRecDepth 100000 in
theorem dagOf_any (v : Value) (l : List Crt) (r : Int) (w : World) (hl : RCrts w.cell? v l) (hL : Lone l) (hA : Auth l) (h4 : l.length ≤ 400) :
    Calls Tryd.prog 93 #[v, .int .i64 r] w fun e w' => ∃ v', e = .returned v' ∧ Below w.heap.size w w' ∧ RCrts w'.cell? v' (atRound l r) := by
  obtain ⟨A, c, rfl, hform⟩ := id hl
  clear hform
  obtain ⟨_, hn1, hn2, hel⟩ := RCrts.at hl
  have Hel := Lib.hid hel
  have H4 := Lib.hid h4
  have HLA := Lib.hid (And.intro hL hA)
  clear hel hl h4 hL hA
  go_enter Tryd.func93, Tryd.ntmps93
  go_wp2_with fail
  go_loopw [5, 7, 10] (fun v _ i wr => ∃ k : Nat, k ≤ l.length ∧ i = .int .i64 k ∧ OwnSl 5 (RAt w) 60 wr w.heap.size v (inRound (l.take k) r) ∧ Below w.heap.size w wr) (fun _ _ i _ => l.length - (intOf i).toNat)
  case atStart => exact ⟨0, Nat.zero_le _, rfl, OwnSl.nil _ _ _ _ _, Below.refl _ _⟩
  case round =>
    obtain ⟨k, hk, rfl, hown, hbl⟩ := hrel
    have hbs := hbl.size
    by_cases hlt : k < l.length
    · obtain ⟨b0, o0, ub, up, uv, rfl, q0, q1, q2, q3, q4, rb, rp, rv⟩ := Hel.out k hlt
      have c0 := vle_below hbl _ _ q0; have c1 := vle_below hbl _ _ q1; have c2 := vle_below hbl _ _ q2; have c3 := vle_below hbl _ _ q3; have c4 := vle_below hbl _ _ q4
      have Hn := Lib.hid (inRound_take l r hlt)
      have Hlk := Lib.hid (show (inRound (l.take k) r).length ≤ k by unfold inRound; have := List.length_filter_le (fun c : Crt => c.hdr.round == r) (l.take k); simp at this ⊢; omega)
      obtain ⟨E1A, E1c, rfl, hg1⟩ := id rb
      obtain ⟨E2A, E2c, rfl, hg2⟩ := id rp
      obtain ⟨E3A, E3c, rfl, hg3⟩ := id rv
      have hR : RAt w (View.but w.cell? none) [.int .i64 l[k].hdr.author, .int .i64 l[k].hdr.round, .slice E1A l[k].hdr.batches.length E1c, .slice E2A l[k].hdr.parents.length E2c, .slice E3A l[k].voters.length E3c] l[k] := ⟨_, _, _, rfl, rb, rp, rv⟩
      clear q0 q1 q2 q3 q4 rb rp rv hg1 hg2 hg3
      generalize inRound (l.take k) r = L at hown Hn Hlk
      generalize l[k] = y at *
      go_upto_region 5 with fail
      refine one_block _ _ _ (fun W => Code.wp _ _ _ _ W) (fun W2 hX hsX hbX => ?_)
      have hbX2 := hbl.trans (hbX.mono hbs)
      have hown2 := hown.kept (RAt.mono w) hbX
      have x0 := hX.cell 0; have x1 := hX.cell 1; have x2 := hX.cell 2; have x3 := hX.cell 3; have x4 := hX.cell 4
      simp at x0 x1 x2 x3 x4
      clear hsX hown c0 c1 c2 c3 c4
      by_cases hr : y.hdr.round = r
      · have Hn2 : Hid (inRound (l.take (k + 1)) r = L ++ [y]) := by show _ = _; rw [Hn.out]; simp [hr]
        have HL := Lib.hid (show L.length ≤ 400 by have := Hlk.out; have := H4.out; omega)
        clear Hn
        subst hr
        obtain ⟨nA, nc, rfl⟩ := hown2.form
        go_wp2_with (at_builtin; go_loud (refine wpList_append_sl1 (n := 140737488355328) (xs := L) (R := RAt w) (RAt.mono w) y [.int .i64 y.hdr.author, .int .i64 y.hdr.round, .slice E1A y.hdr.batches.length E1c, .slice E2A y.hdr.parents.length E2c, .slice E3A y.voters.length E3c] elemCrt _ _ rfl rfl rfl hown2 hbX2 hbX2.size rfl rfl rfl rfl hR (Nat.le_refl _) (by have := HL.out; omega) (by have := HL.out; omega) ?_))
        intro v' w2 ho hbl2 _
        rw [← Hn2.out] at ho
        clear hown2 x0 x1 x2 x3 x4
        go_wp2
        go_roundw
        case rel => exact ⟨k + 1, by omega, by go_num, ho, hbl2⟩
        case measure => simp [intOf]; omega
      · have Hn2 : Hid (inRound (l.take (k + 1)) r = L) := by show _ = _; rw [Hn.out]; simp [hr]
        clear Hn
        rw [← Hn2.out] at hown2
        go_wp2
        go_roundw
        case rel => exact ⟨k + 1, by omega, by go_num, hown2, hbX2⟩
        case measure => simp [intOf]; omega
    · have hkl : k = l.length := by omega
      rw [hkl, List.take_length] at hown
      have HA : Auth (inRound l r) := fun c hc => HLA.out.2 c (List.mem_filter.1 hc).1
      have Hl : (inRound l r).length ≤ 400 := by have := List.length_filter_le (fun c : Crt => c.hdr.round == r) l; have := H4.out; unfold inRound; omega
      clear Hel hkl
      obtain ⟨LR, hLR⟩ : ∃ q, Hid (inRound l r = q) := ⟨_, rfl⟩
      rw [hLR.out] at hown HA Hl
      obtain ⟨nA, nc, rfl⟩ := hown.form
      go_wp2_with fail
      refine (sortCrts_any _ LR _ w.heap.size hown HA Hl hbl (Nat.le_refl _)).mono ?_
      rintro e w2 ⟨rfl, hb2, ys, hp, hs, hr⟩
      have hys : ys = atRound l r := round_sorted HLA.out.1 HLA.out.2 (by rw [hLR.out]; exact hp) hs
      rw [hys] at hr
      go_wp2
      go_ret
      exact ⟨_, rfl, hb2, hr⟩
end Go.Proofs.YtedealljhmokoaaDoor

namespace Go.Proofs.YtedealljhmokoaaDoor
open Go.ChangeShapes Go.WideShapes Go.ChangeAt Go.RowKit
set_option linter.unusedVariables false
set_option linter.unusedSimpArgs false
def atN (l : List Crt) (r : Int) (n : Nat) : List Crt := (List.range n).filterMap fun a : Nat => l.find? (isCert a r)
theorem atN_four (l : List Crt) (r : Int) : atN l r 4 = atRound l r := rfl
theorem atN_succ (l : List Crt) (r : Int) (n : Nat) : atN l r (n + 1) = atN l r n ++ (l.find? (isCert n r)).toList := by
  unfold atN
  rw [List.range_succ, List.filterMap_append]
  congr 1
theorem find_cases (l : List Crt) (a r : Int) : (certI l a r = -1 ∧ l.find? (isCert a r) = none) ∨ ∃ k : Nat, ∃ hk : k < l.length, certI l a r = k ∧ l.find? (isCert a r) = some l[k] := by
  rcases idxI_cases (isCert a r) l with ⟨h1, h2⟩ | ⟨k, hk, h1, h2, h3⟩
  · refine .inl ⟨h1, ?_⟩
    rw [List.find?_eq_none]
    intro x hx
    rw [List.any_eq_false] at h2
    exact h2 x hx
  · refine .inr ⟨k, hk, h1, ?_⟩
    rw [List.find?_eq_some_iff_getElem]
    exact ⟨h2, k, hk, rfl, fun j hj => by rw [h3 j (by omega) hj]; rfl⟩
theorem atN_len (l : List Crt) (r : Int) (n : Nat) : (atN l r n).length ≤ n := by
  unfold atN
  have := List.length_filterMap_le (fun a : Nat => l.find? (isCert a r)) (List.range n)
  simpa using this
def rndV (l : List Crt) : Int := if dagF hD cF l = 0 then nextR l else 0
def digV (l : List Crt) (r : Int) : List (List UInt8) := if dagF hD cF l = 0 then dsOf hD (atRound l r) else []
theorem rounds_lt {l : List Crt} (hL : Lone l) (hA : Auth l) {k : Nat} (h : ∀ j : Nat, j < k → 3 ≤ (atRound l (1 + j)).length) : k ≤ l.length :=
  rounds_len k 1 fun j hj => by have := h j hj; rw [atRound_len _ hL hA] at this; omega
set_option maxHeartbeats 2000000 in
set_option maxRecDepth 100000 in
theorem dagRound_any (vl : Value) (l : List Crt) (w : World) (hl : RCrts w.cell? vl l) (hT : Tabs w.cell?) :
    Calls Tryd.prog 47 #[.agg #[vl]] w fun e w' => e = .returned (.tuple #[.int .i64 (rndV l), .int .i64 (dagF hD cF l)]) ∧ Below w.heap.size w w' := by
  obtain ⟨A, c, rfl, hform⟩ := id hl
  clear hform
  obtain ⟨E, hE⟩ : ∃ q, Hid (dagF hD cF l = q) := ⟨_, rfl⟩
  obtain ⟨V, hV⟩ : ∃ q, Hid (rndV l = q) := ⟨_, rfl⟩
  have HV : Hid (V = if E = 0 then nextR l else 0) := by show _ = _; rw [← hV.out]; unfold rndV; rw [hE.out]
  have Hlone : Hid (E = 0 → Lone l ∧ Auth l ∧ l.length ≤ 400 ∧ (∀ c ∈ l, hF c.hdr = 0)) := fun h => dag_lone (hE.out.trans h)
  rw [hV.out, hE.out]
  clear hV
  go_enter Tryd.func47, Tryd.ntmps47
  go_upto_region 1 with fail
  refine one_block _ _ _ (fun W => Code.wp _ _ _ _ W) (fun W hk hsz hbW => ?_)
  clear hsz
  have hzW := hbW.size
  have g0 := hk.cell 0
  simp at g0
  go_wp2_with fail
  refine (dagCheck_any _ l _ (hl.mono RCrt.mono (vle_below hbW)) (hT.mono (vle_below hbW))).mono ?_
  rintro e w1 ⟨rfl, hb1⟩
  rw [hE.out]
  have hbl1 := hbW.trans (hb1.mono hzW)
  have hz1 := hbl1.size
  have hk1 := hk.kept hb1
  clear g0 hE
  by_cases h0 : E = 0
  rotate_left
  · have HQ : Hid (V = 0) := by show _ = _; rw [HV.out, if_neg h0]
    clear HV Hlone
    go_wp2
    go_ret2
    exact ⟨by rw [HQ.out]; rfl, hbl1⟩
  have HQ : Hid (V = nextR l) := by show _ = _; rw [HV.out, if_pos h0]
  have HL := Lib.hid (Hlone.out h0)
  clear HV Hlone
  subst h0
  go_wp2_with fail
  go_loopw [5] (fun i wr => ∃ (k : Nat) (z : Int), i = .int .i64 z ∧ Hid (z = 1 + (k : Int)) ∧ 1 ≤ z ∧ z ≤ 401 ∧ Hid (k ≤ l.length ∧ ∀ j : Nat, j < k → 3 ≤ (atRound l (1 + j)).length) ∧ Below w1.heap.size w1 wr) (fun i _ => 500 - (intOf i).toNat)
  case atStart => exact ⟨0, 1, rfl, rfl, by omega, by omega, ⟨Nat.zero_le _, fun j hj => by omega⟩, Below.refl _ _⟩
  case round =>
    obtain ⟨k, z, rfl, hz, hz0, hz401, hok, hbl⟩ := hrel
    have hk2 := hk1.kept hbl
    have g0 := hk2.cell 0
    simp at g0
    have hblw := hbl1.trans (hbl.mono hz1)
    go_wp2_with fail
    refine (dagOf_any _ l z _ (hl.mono RCrt.mono (vle_below hblw)) HL.out.1 HL.out.2.1 HL.out.2.2.1).mono ?_
    rintro e w2 ⟨v2, rfl, hb2, r2⟩
    have hbl2 := hbl.trans (hb2.mono hbl.size)
    obtain ⟨N, hN⟩ : ∃ N, Hid ((atRound l z).length = N) := ⟨_, rfl⟩
    obtain ⟨A2, c2, hv2, _⟩ := r2
    rw [hN.out] at hv2
    subst hv2
    have HN : Hid (N = (atRound l (1 + (k : Int))).length) := by show _ = _; rw [← hN.out, hz.out]
    clear hN g0
    by_cases h3 : (3 : Int) ≤ (N : Int)
    · have hok2 : Hid (∀ j : Nat, j < k + 1 → 3 ≤ (atRound l (1 + j)).length) := fun j hj => by
        by_cases e : j = k
        · subst e; have := HN.out; omega
        · exact hok.out.2 j (by omega)
      have hk1' := rounds_lt HL.out.1 HL.out.2.1 hok2.out
      have hz400 : z + 1 ≤ 401 := by have := hz.out; have := HL.out.2.2.1; omega
      have hzz : Hid (z + 1 = 1 + ((k + 1 : Nat) : Int)) := by show _ = _; have := hz.out; omega
      obtain ⟨z2, hz2⟩ : ∃ z2, z + 1 = z2 := ⟨_, rfl⟩
      have hz2' := Lib.hid hz2
      have hwz : IntKind.i64.wrap (z + 1) = z2 := by rw [IntKind.wrap_i64]; omega
      clear hz2
      go_wp2
      go_roundw
      case rel => exact ⟨k + 1, _, rfl, by first | exact hzz | (show _ = _; rw [← hz2'.out]; exact hzz.out), by have := hz2'.out; omega, by have := hz2'.out; omega, ⟨hk1', hok2.out⟩, hbl2⟩
      case measure => have := hz2'.out; simp [intOf]; omega
    · have hV2 : Hid (V = z) := by
        show _ = _
        rw [HQ.out, nextR_is HL.out.1 HL.out.2.1 hok.out.2 (by have := HN.out; omega)]
        exact hz.out.symm
      go_wp2
      go_ret2
      exact ⟨by rw [hV2.out]; rfl, hbl1.trans (hbl2.mono hz1)⟩
set_option maxHeartbeats 2000000 in
set_option maxRecDepth 100000 in
theorem digestsAt_any (vl : Value) (l : List Crt) (r : Int) (w : World) (hl : RCrts w.cell? vl l) (hv : ∀ c ∈ l, hF c.hdr = 0) :
    Calls Tryd.prog 96 #[.agg #[vl], .int .i64 r] w fun e w' => ∃ v', e = .returned v' ∧ Below w.heap.size w w' ∧ OwnSl 1 (RFrom w.heap.size RDig) 25 w' w.heap.size v' (dsOf hD (atRound l r)) := by
  obtain ⟨A, c, rfl, hform⟩ := id hl
  clear hform
  obtain ⟨_, hn1, hn2, hel⟩ := RCrts.at hl
  have Hel := Lib.hid hel
  have Hv := Lib.hid hv
  clear hel hv
  go_enter Tryd.func96, Tryd.ntmps96
  go_upto_region 1 with fail
  refine one_block _ _ _ (fun W => Code.wp _ _ _ _ W) (fun W hkb hsz hbW => ?_)
  clear hsz
  have hzW := hbW.size
  go_wp2_with fail
  go_loopw [5, 6, 7, 8] (fun v i _ _ wr => ∃ n : Nat, n ≤ 4 ∧ i = .int .i64 n ∧ OwnSl 1 (RFrom W.heap.size RDig) 25 wr W.heap.size v (dsOf hD (atN l r n)) ∧ Below W.heap.size W wr) (fun _ i _ _ _ => 4 - (intOf i).toNat)
  case atStart => exact ⟨0, Nat.zero_le _, rfl, OwnSl.nil _ _ _ _ _, Below.refl _ _⟩
  case round =>
    obtain ⟨n, hn, rfl, hown, hbl⟩ := hrel
    have hbs := hbl.size
    have hblw := hbW.trans (hbl.mono hzW)
    by_cases hlt : n < 4
    · have hk1 := hkb.kept hbl
      have g0 := hk1.cell 0
      simp at g0
      have Hsu := Lib.hid (atN_succ l r n)
      have Hln := Lib.hid (show (dsOf hD (atN l r n)).length ≤ 4 by rw [dsOf_len]; have := atN_len l r n; omega)
      go_wp2_with fail
      refine (certOf_any _ l (n : Int) r _ (hl.mono RCrt.mono (vle_below hblw))).mono ?_
      rintro e w1 ⟨rfl, hb1⟩
      have hbl1 := hbl.trans (hb1.mono hbs)
      have hown1 := hown.kept (RFrom.mono RDig.mono) hb1
      have hbl1w := hbW.trans (hbl1.mono hzW)
      have hk2 := hk1.kept hb1
      have hlto := hown.lt
      have hz1 := hb1.size
      clear hown g0 hk1
      rcases find_cases l (n : Int) r with ⟨e1, e2⟩ | ⟨j, hj, e1, e2⟩
      · rw [e1]
        have Hs2 : Hid (atN l r (n + 1) = atN l r n) := by show _ = _; rw [Hsu.out, e2]; simp
        rw [← Hs2.out] at hown1
        clear e1 e2 Hsu
        go_wp2
        go_roundw
        case rel => exact ⟨n + 1, by omega, by go_num, hown1, hbl1⟩
        case measure => simp [intOf]; omega
      · rw [e1]
        have Hs2 : Hid (dsOf hD (atN l r (n + 1)) = dsOf hD (atN l r n) ++ [hD l[j].hdr]) := by show _ = _; rw [Hsu.out, e2]; simp [dsOf]
        clear e1 e2 Hsu
        obtain ⟨b0, o0, vb, vp, vv, rfl, q0, q1, q2, q3, q4, rb, rp, rv⟩ := Hel.out j hj
        have q := vle_below hbl1w
        have c0 := q _ _ q0; have c1 := q _ _ q1; have c2 := q _ _ q2; have c3 := q _ _ q3
        have rb' := rb.mono RDig.mono q
        have rp' := rp.mono RDig.mono q
        have hval := Lib.hid (Hv.out l[j] (List.getElem_mem hj))
        obtain ⟨z0, z1, z2⟩ := headF_zero4 hval.out
        have hjl : (j : Int) < (l.length : Int) := by omega
        have g0 := hk2.cell 0
        simp at g0
        clear q0 q1 q2 q3 q4 rb rp rv q
        generalize dsOf hD (atN l r n) = L at hown1 Hs2 Hln
        generalize l[j] = x at *
        go_wp2_with fail
        refine (headerDigestR_any _ _ _ _ x.hdr.batches x.hdr.parents _ (by omega) (by omega) rb' rp' (by omega)).mono ?_
        rintro e w2 ⟨d, rfl, hb2, hr⟩
        have hr : RBytes (View.from w2.cell? w1.heap.size) d (hD x.hdr) := hr
        have hown2 := hown1.kept (RFrom.mono RDig.mono) hb2
        have hbl2 := hbl1.trans (hb2.mono hbl1.size)
        have hblw2 := hbW.trans (hbl2.mono hzW)
        have hR : RFrom W.heap.size RDig (View.but w2.cell? u5.ownBlock) [d] (hD x.hdr) :=
          ⟨d, rfl, hr.mono (from_from_but (by have := hbl1.size; omega) (fun g hg => by have := (hlto g hg).2; omega))⟩
        obtain ⟨A', c', rfl, hform⟩ := id hr
        clear hform c0 c1 c2 c3 rb' rp' hr hown1 g0
        go_wp2_with (at_builtin; go_loud (refine wpList_append_sl1 (n := 140737488355328) (RFrom.mono RDig.mono) (hD x.hdr) [.slice A' (hD x.hdr).length c'] elemDig _ _ rfl rfl rfl hown2 hbl2 hbl2.size rfl rfl rfl rfl hR (Nat.le_refl _) (by have := Hln.out; omega) (by have := Hln.out; omega) ?_))
        intro v' w3 ho hbl3 hg3
        rw [← Hs2.out] at ho
        clear hown2 hR
        go_wp2
        go_roundw
        case rel => exact ⟨n + 1, by omega, by go_num, ho, hbl3⟩
        case measure => simp [intOf]; omega
    · have : n = 4 := by omega
      subst this
      rw [atN_four] at hown
      go_wp2
      go_ret
      exact ⟨_, rfl, hblw, hown.baseR RDig.mono hzW⟩
end Go.Proofs.YtedealljhmokoaaDoor

namespace Go.Proofs.YtedealljhmokoaaDoor
open Go.ChangeShapes Go.WideShapes Go.ChangeAt Go.RowKit
set_option linter.unusedVariables false
set_option linter.unusedSimpArgs false
set_option maxHeartbeats 1000000 in
set_option maxRecDepth 100000 in
theorem hisFn_any (d x : Value) (y ds : List UInt8) (g : Nat) (w : World) (hc : w.cell? ⟨g, 0, none⟩ = some x) (hd : RBytes w.cell? d y) (hx : RBytes w.cell? x ds) :
    Calls Tryd.prog 125 (#[d] ++ #[.pointer (some ⟨g, 0, none⟩)]) w fun e w' => e = .returned (.bool (y == ds)) ∧ Below w.heap.size w w' := by
  show Calls Tryd.prog 125 #[d, .pointer (some ⟨g, 0, none⟩)] w _
  go_enter Tryd.func125, Tryd.ntmps125
  go_wp2_with fail
  refine (bytesEqual_any _ _ ds y _ hx hd).mono ?_
  rintro e w' ⟨rfl, rfl⟩
  go_wp2
  go_ret
  exact ⟨by show Ending.returned (Value.bool (ds == y)) = _; rw [show (ds == y) = (y == ds) from BEq.comm], Below.refl _ _⟩
set_option maxHeartbeats 2000000 in
set_option maxRecDepth 100000 in
theorem orderAll_any (vl : Value) (l : List Crt) (w : World) (hl : RCrts w.cell? vl l) (hv : ∀ c ∈ l, hF c.hdr = 0) (hT : Tabs w.cell?) :
    Calls Tryd.prog 97 #[.agg #[vl]] w fun e w' => ∃ v', e = .returned v' ∧ Below w.heap.size w w' ∧ OwnSl 1 (RFrom w.heap.size RDig) 25 w' w.heap.size v' (dsOf hD l) := by
  obtain ⟨A, c, rfl, hform⟩ := id hl
  clear hform
  obtain ⟨_, hcap, hlen, hel⟩ := hl.at
  have Hel := Lib.hid hel
  have Hv := Lib.hid hv
  clear hel hl hv
  go_enter Tryd.func97, Tryd.ntmps97
  go_upto_region 1 with fail
  refine one_block _ _ _ (fun W => Code.wp _ _ _ _ W) (fun W hk hsz hbW => ?_)
  have hzW := hbW.size
  have g0 := hk.cell 0
  simp at g0
  clear hsz
  go_wp2
  go_loopw [3, 5, 6, 7, 11] (fun v _ _ _ i wr => ∃ k : Nat, k ≤ l.length ∧ i = .int .i64 k ∧ OwnSl 1 (RFrom W.heap.size RDig) 25 wr W.heap.size v (dsOf hD (l.take k)) ∧ Below W.heap.size W wr) (fun _ _ _ _ i _ => l.length - (intOf i).toNat)
  case atStart => exact ⟨0, Nat.zero_le _, rfl, OwnSl.nil _ _ _ _ _, Below.refl _ _⟩
  case round =>
    obtain ⟨k, hk', rfl, hown, hbl⟩ := hrel
    have hbs := hbl.size
    by_cases hlt : k < l.length
    · obtain ⟨b0, o0, vb, vp, vv, rfl, q0, q1, q2, q3, q4, hb, hp, hvv⟩ := Hel.out k hlt
      obtain ⟨bA, bc, rfl, hf1⟩ := id hb
      obtain ⟨pA, pc, rfl, hf2⟩ := id hp
      obtain ⟨vA, vc, rfl, hf3⟩ := id hvv
      clear hf1 hf2 hf3 hvv
      have hblw := hbW.trans (hbl.mono hzW)
      have q := vle_below hblw
      have c0 := q _ _ q0
      have c1 := q _ _ q1
      have c2 := q _ _ q2
      have c3 := q _ _ q3
      have c4 := q _ _ q4
      have hb' := hb.mono RDig.mono q
      have hp' := hp.mono RDig.mono q
      have hval := Lib.hid (Hv.out l[k] (List.getElem_mem hlt))
      have Hn := Lib.hid (show dsOf hD (l.take (k + 1)) = dsOf hD (l.take k) ++ [hD l[k].hdr] by unfold dsOf; rw [List.take_succ_eq_append_getElem hlt, List.map_append, List.map_singleton])
      have Hlk := Lib.hid (show (dsOf hD (l.take k)).length = k by unfold dsOf; simp; omega)
      clear q0 q1 q2 q3 q4 hb hp
      generalize dsOf hD (l.take k) = L at hown Hn Hlk
      generalize l[k] = x at c0 c1 c2 c3 c4 hb' hp' hval Hn
      go_upto_region 5 with fail
      refine one_block _ _ _ (fun W => Code.wp _ _ _ _ W) (fun W2 hX hsX hbX => ?_)
      have hbX2 := hbl.trans (hbX.mono hbs)
      have hlto := hown.lt
      have x0 := hX.cell 0; have x1 := hX.cell 1; have x2 := hX.cell 2; have x3 := hX.cell 3
      simp at x0 x1 x2 x3
      have qX := vle_below hbX
      have hzX := hbX.size
      clear hsX c0 c1 c2 c3 c4
      go_wp2_with fail
      refine (headerDigestW_any _ _ _ _ x.hdr.batches x.hdr.parents _ (hb'.mono RDig.mono qX) (hp'.mono RDig.mono qX) (hT.mono (vle_below (hbW.trans (hbX2.mono hzW))))).mono ?_
      rintro e w1 ⟨d, rfl, hb1, hr⟩
      rw [hdrDR_valid hval.out] at hr
      rw [show headF x.hdr.author x.hdr.round x.hdr.batches x.hdr.parents = 0 from hval.out]
      have hown1 := (hown.kept (RFrom.mono RDig.mono) hbX).kept (RFrom.mono RDig.mono) hb1
      have hbl1 := hbX2.trans (hb1.mono hbX2.size)
      have hR : RFrom W.heap.size RDig (View.but w1.cell? u3.ownBlock) [d] (hD x.hdr) :=
        ⟨d, rfl, hr.mono (from_from_but (by have := hbX2.size; omega) (fun g hg => by have := (hlto g hg).2; omega))⟩
      obtain ⟨A', c', rfl, hform⟩ := id hr
      clear hform x0 x1 x2 x3 hb' hp' hr hown
      go_wp2_with (at_builtin; go_loud (refine wpList_append_sl1 (n := 140737488355328) (RFrom.mono RDig.mono) (hD x.hdr) [.slice A' (hD x.hdr).length c'] elemDig _ _ rfl rfl rfl hown1 hbl1 hbl1.size rfl rfl rfl rfl hR (Nat.le_refl _) (by have := Hlk.out; omega) (by have := Hlk.out; omega) ?_))
      intro v' w2 ho hbl2 _
      clear hown1 hR
      go_wp2
      go_roundw
      case rel => exact ⟨k + 1, by omega, by go_num, by rw [Hn.out]; exact ho, hbl2⟩
      case measure => simp [intOf]; omega
    · have hkl : k = l.length := by omega
      subst hkl
      have ho2 : OwnSl 1 (RFrom W.heap.size RDig) 25 wr W.heap.size u3 (dsOf hD l) := by simpa using hown
      have ho3 := OwnSl.baseR RDig.mono ho2 hzW
      clear hown ho2
      go_wp2
      go_ret
      exact ⟨_, rfl, hbW.trans (hbl.mono hzW), ho3⟩
end Go.Proofs.YtedealljhmokoaaDoor

namespace Go.Proofs.YtedealljhmokoaaDoor
open Go.ChangeShapes Go.WideShapes Go.ChangeAt Go.RowKit
set_option linter.unusedVariables false
set_option linter.unusedSimpArgs false
/-- draws, and blocks laid behind -/
def Grw (w w' : World) : Prop := ∃ q os', w' = Sort.grow (w.drewN q) os'
theorem Grw.refl (w : World) : Grw w w := ⟨0, #[], by rw [Sort.grow_empty]; rfl⟩
theorem Grw.drew {w w' : World} (h : Grw w w') : Grw w w'.drew := by
  obtain ⟨q, os, rfl⟩ := h
  exact ⟨q + 1, os, rfl⟩
theorem Grw.alloc {w w' : World} (h : Grw w w') (o : Obj) : Grw w (w'.alloc o) := by
  obtain ⟨q, os, rfl⟩ := h
  exact ⟨q, os ++ #[o], by rw [Sort.alloc_eq_grow, Sort.grow_grow]⟩
theorem Grw.size {w w' : World} (h : Grw w w') : w.heap.size ≤ w'.heap.size := by
  obtain ⟨q, os, rfl⟩ := h
  rw [Sort.size_grow]
  exact Nat.le_add_right _ _
theorem Grw.below {w w' : World} (h : Grw w w') : Below w.heap.size w w' := by
  obtain ⟨q, os, rfl⟩ := h
  refine ⟨rfl, rfl, rfl, by rw [Sort.size_grow]; exact Nat.le_add_right _ _, fun k hk => ?_⟩
  exact Sort.heap_grow_old _ _ hk
theorem Grw.setRow {w w' : World} (h : Grw w w') {g : Nat} (hg : w.heap.size ≤ g) (cs : Array Value) : Grw w (w'.setRow g cs) := by
  obtain ⟨q, os, rfl⟩ := h
  refine ⟨q, ?_, ?_⟩
  rotate_left
  · unfold World.setRow Sort.grow
    simp only [Sort.modify_append_right _ _ _ _ (show (w.drewN q).heap.size ≤ g from hg)]
    rfl
theorem wp_store_setw {P : Program} {o : Oper} {a : Act} {w : World} {K : Act → World → Prop} {Q : Exit → Act → World → Prop} {t te : TypeId} {x y : Operand} {g n : Nat} {cs new : Array Value}
    (ho : o.op = .store t x y) (hx : a.eval x = .pointer (some ⟨g, 0, none⟩)) (hy : a.eval y = .agg new) (hi : (P.info? t).map (·.size) = some n) (hn : new.size = n) (hb : Blk w g te cs) (hcs : cs.size = n) (h1 : (new.toList.all fun u => u.oneCell') = true)
    (h : Blk (w.setRow g new) g te new → K (a.put o.dst undef) (w.setRow g new)) : o.wp P a w K Q := by
  have hr := run_store_blk (P := P) (v := .agg new) hi hn hb (o := 0) (by omega) (fun u hu => List.all_eq_true.1 h1 u hu)
  have e : (cs.toList.take 0 ++ (Value.agg new).cells.toList ++ cs.toList.drop (0 + n)).toArray = new := by
    rw [List.drop_of_length_le (by simp [hcs])]
    simp [Value.cells]
  rw [e] at hr
  unfold Oper.wp execOp
  simp [ho, hx, hy, hr, Result.andThen, Oper.upon]
  exact h (blk_set hb new).1
set_option maxHeartbeats 1000000 in
set_option maxRecDepth 100000 in
theorem cmpOr_any (x y : Int) (g : Nat) (w : World) (h0 : w.cell? ⟨g, 0, none⟩ = some (.int .i64 x)) (h1 : w.cell? ⟨g, 1, none⟩ = some (.int .i64 y)) :
    Calls Tryd.prog 128 #[.slice (some ⟨g, 0, none⟩) 2 2] w fun e w' => e = .returned (.int .i64 (if x ≠ 0 then x else y)) ∧ w = w' := by
  obtain ⟨R, hR⟩ : ∃ R, Hid ((if x ≠ 0 then x else y) = R) := ⟨_, rfl⟩
  rw [hR.out]
  go_enter Tryd.func128, Tryd.ntmps128
  go_wp2_with fail
  go_loopw [5, 8] (fun _ i wr => ∃ k : Nat, k ≤ 2 ∧ i = .int .i64 k ∧ wr = w ∧ (0 < k → x = 0) ∧ (1 < k → y = 0)) (fun _ i _ => 2 - (intOf i).toNat)
  case atStart => exact ⟨0, by omega, rfl, rfl, fun h => by omega, fun h => by omega⟩
  case round =>
    obtain ⟨k, hk, rfl, rfl, hx, hy⟩ := hrel
    rcases (show k = 0 ∨ k = 1 ∨ k = 2 by omega) with rfl | rfl | rfl
    · by_cases h : x = 0
      · clear hx hy
        go_wp2
        go_roundw
        case rel => exact ⟨1, by simp [h]⟩
        case measure => simp [intOf]
      · clear hx hy
        go_wp2
        go_ret
        exact ⟨by rw [show R = x by rw [← hR.out, if_pos h]]; rfl, rfl⟩
    · have hx0 := hx (by omega)
      subst hx0
      by_cases h : y = 0
      · clear hx hy
        go_wp2
        go_roundw
        case rel => exact ⟨2, by simp [h]⟩
        case measure => simp [intOf]
      · clear hx hy
        go_wp2
        go_ret
        exact ⟨by rw [show R = y by rw [← hR.out]; rfl]; rfl, rfl⟩
    · have hx0 := hx (by omega)
      have hy0 := hy (by omega)
      subst hx0 hy0
      clear hx hy
      go_wp2
      go_ret
      exact ⟨by rw [show R = 0 by rw [← hR.out]; rfl]; rfl, rfl⟩
/-- how two places stand -/
def cfH (x y : Hdr) : Int := if x.round - y.round ≠ 0 then x.round - y.round else x.author - y.author
theorem hF_say {h : Hdr} (hv : hF h = 0) : 0 ≤ h.author ∧ h.author ≤ 3 ∧ 1 ≤ h.round ∧ h.round ≤ 1048576 := by
  unfold hF headF at hv
  split at hv
  · rename_i h
    simp [inB] at h
    omega
  · omega
set_option maxHeartbeats 4000000 in
set_option maxRecDepth 100000 in
theorem hisCmp_any {w0 : World} (gd : Nat) (vl : Value) (l : List Crt) (hc : w0.cell? ⟨gd, 0, none⟩ = some vl) (hl : RCrts w0.cell? vl l) (i j : Nat) (hi : i < l.length) (hj : j < l.length) (hvi : hF l[i].hdr = 0) (hvj : hF l[j].hdr = 0) (W : World) (hb : Below w0.heap.size w0 W) :
    Calls Tryd.prog 127 #[.int .i64 i, .int .i64 j, .pointer (some ⟨gd, 0, none⟩)] W fun e w' => e = .returned (.int .i64 (cfH l[i].hdr l[j].hdr)) ∧ Grw W w' := by
  obtain ⟨A, c, rfl, hform⟩ := id hl
  clear hform
  obtain ⟨_, hcap, hlen, hel⟩ := hl.at
  obtain ⟨b0, o0, vb0, vp0, vv0, rfl, p0, p1, p2, p3, p4, rb0, rp0, _⟩ := hel i hi
  obtain ⟨b1, o1, vb1, vp1, vv1, eA, q0, q1, q2, q3, q4, rb1, rp1, _⟩ := hel j hj
  obtain ⟨bA0, bc0, rfl, f1⟩ := id rb0
  obtain ⟨pA0, pc0, rfl, f2⟩ := id rp0
  obtain ⟨bA1, bc1, rfl, f3⟩ := id rb1
  obtain ⟨pA1, pc1, rfl, f4⟩ := id rp1
  clear f1 f2 f3 f4 rb0 rp0 rb1 rp1
  obtain ⟨n1, hn1⟩ : ∃ n, l[i].hdr.batches.length = n := ⟨_, rfl⟩
  obtain ⟨n2, hn2⟩ : ∃ n, l[i].hdr.parents.length = n := ⟨_, rfl⟩
  obtain ⟨n3, hn3⟩ : ∃ n, l[j].hdr.batches.length = n := ⟨_, rfl⟩
  obtain ⟨n4, hn4⟩ : ∃ n, l[j].hdr.parents.length = n := ⟨_, rfl⟩
  rw [hn1] at p2
  rw [hn2] at p3
  rw [hn3] at q2
  rw [hn4] at q3
  clear hn1 hn2 hn3 hn4
  injection eA with eA
  injection eA with eb eo _
  subst eb eo
  have s1 := hF_say hvi
  have s2 := hF_say hvj
  have q := vle_below hb
  have hcw := q _ _ hc
  have c00 := q _ _ p0; have c01 := q _ _ p1; have c02 := q _ _ p2; have c03 := q _ _ p3
  have c10 := q _ _ q0; have c11 := q _ _ q1; have c12 := q _ _ q2; have c13 := q _ _ q3
  have hi' : (i : Int) < l.length := by omega
  have hj' : (j : Int) < l.length := by omega
  unfold cfH
  generalize l[i].hdr.author = a1 at *
  generalize l[i].hdr.round = r1 at *
  generalize l[j].hdr.author = a2 at *
  generalize l[j].hdr.round = r2 at *
  clear p0 p1 p2 p3 p4 q0 q1 q2 q3 q4 hel hvi hvj hc hl hb
  obtain ⟨R, hR⟩ : ∃ R, Hid ((if r1 - r2 ≠ 0 then r1 - r2 else a1 - a2) = R) := ⟨_, rfl⟩
  rw [hR.out]
  go_enter Tryd.func127, Tryd.ntmps127
  go_upto_region 1 with fail
  go_cut [6, 7] (fun p q w' => ∃ g1 g2, p = .pointer (some ⟨g1, 0, none⟩) ∧ q = .pointer (some ⟨g2, 0, none⟩) ∧ Blk w' g1 37 #[.int .i64 a1, .int .i64 r1, .slice bA0 n1 bc0, .slice pA0 n2 pc0] ∧ Blk w' g2 37 #[.int .i64 a2, .int .i64 r2, .slice bA1 n3 bc1, .slice pA1 n4 pc1] ∧ Grw W w')
  case first =>
    refine wp_region_pl (fun w' => Grw W w') [15] (.q 0 (.q 1 (.q 2 (.q 3 (.q 4 (.q 5 (.q 6 (.q 7 (.q 8 (.q 9 (.q 10 (.q 11 (.alt 12 (.l 13 (.l 14 (.l 15 .nil))) 13 (.l 12 (.l 14 (.l 15 .nil)))))))))))))))) (by kernel_rfl) (by kernel_rfl) (fun _ _ d _ _ h => by cases d <;> exact h) rfl (by kernel_rfl) ?_ ?_
    · exact (Grw.refl _).drew
    intro W1 hS
    have hz0 := hS.size
    repeat (first
      | (refine pl_q (by assumption) rfl rfl ?_; apply Exists.intro; refine ⟨fun w' hS => ?_, ?_⟩; (· (have hq := vle_below hS.below; have h0 := hq _ _ hcw; have h1 := hq _ _ c00; have h2 := hq _ _ c01; have h3 := hq _ _ c02; have h4 := hq _ _ c03; have k1 := hq _ _ c10; have k2 := hq _ _ c11; have k3 := hq _ _ c12; have k4 := hq _ _ c13; go_simp; exact rfl)); simp only [List.getElem_toArray, List.getElem_cons_zero, List.getElem_cons_succ, Act.put, List.setIfInBounds_toArray, List.set_cons_zero, List.set_cons_succ])
      | (refine pl_qc rfl rfl ?_; apply Exists.intro; refine ⟨fun w' _ => ?_, ?_⟩; (· (go_simp; exact rfl)); simp only [List.getElem_toArray, List.getElem_cons_zero, List.getElem_cons_succ, Act.put, List.setIfInBounds_toArray, List.set_cons_zero, List.set_cons_succ])
      | (refine pl_skip (by assumption) rfl rfl ?_; simp only [List.getElem_toArray, List.getElem_cons_zero, List.getElem_cons_succ, Act.put, List.setIfInBounds_toArray, List.set_cons_zero, List.set_cons_succ])
      | (refine pl_skipl (by assumption) rfl rfl ?_; simp only [List.getElem_toArray, List.getElem_cons_zero, List.getElem_cons_succ, Act.put, List.setIfInBounds_toArray, List.set_cons_zero, List.set_cons_succ]))
    refine pl_alt ?_ ?_
    · first
        | refine pl_do rfl rfl (fun K hK => ?_)
        | refine op_do rfl rfl (fun K hK => ?_)
      try simp only [List.getElem_toArray, List.getElem_cons_zero, List.getElem_cons_succ]
      go_simp
      have hn1 := Blk.new W1 37 #[.int .i64 0, .int .i64 0, .slice none 0 0, .slice none 0 0]
      have hS1 := hS.alloc (.cells #[.int .i64 0, .int .i64 0, .slice none 0 0, .slice none 0 0] 37)
      refine hK.out _ _ (hS1) (fun hS => ?_)
      clear hK K
      try simp only [List.getElem_toArray, List.getElem_cons_zero, List.getElem_cons_succ, Act.put, List.setIfInBounds_toArray, List.set_cons_zero, List.set_cons_succ]
      first
        | refine pl_do rfl rfl (fun K hK => ?_)
        | refine op_do rfl rfl (fun K hK => ?_)
      try simp only [List.getElem_toArray, List.getElem_cons_zero, List.getElem_cons_succ]
      go_simp
      have hn2 := Blk.new (W1.alloc (.cells #[.int .i64 0, .int .i64 0, .slice none 0 0, .slice none 0 0] 37)) 37 #[.int .i64 0, .int .i64 0, .slice none 0 0, .slice none 0 0]
      have hn2 : Blk ((W1.alloc (.cells #[.int .i64 0, .int .i64 0, .slice none 0 0, .slice none 0 0] 37)).alloc (.cells #[.int .i64 0, .int .i64 0, .slice none 0 0, .slice none 0 0] 37)) (W1.heap.size + 1) 37 #[.int .i64 0, .int .i64 0, .slice none 0 0, .slice none 0 0] := by simpa using hn2
      have hn1 := hn1.alloc (.cells #[.int .i64 0, .int .i64 0, .slice none 0 0, .slice none 0 0] 37)
      have hS2 := hS1.alloc (.cells #[.int .i64 0, .int .i64 0, .slice none 0 0, .slice none 0 0] 37)
      have hz1 := hS.size
      refine hK.out _ _ (hS2) (fun hS => ?_)
      clear hK K
      try simp only [List.getElem_toArray, List.getElem_cons_zero, List.getElem_cons_succ, Act.put, List.setIfInBounds_toArray, List.set_cons_zero, List.set_cons_succ]
      first
        | refine pl_do rfl rfl (fun K hK => ?_)
        | refine op_do rfl rfl (fun K hK => ?_)
      try simp only [List.getElem_toArray, List.getElem_cons_zero, List.getElem_cons_succ]
      refine wp_store_setw (n := 4) rfl rfl rfl (by kernel_rfl) rfl hn1 rfl rfl ?_
      intro hB1
      have HBX := hn2.grown (blk_set hn1 #[.int .i64 a1, .int .i64 r1, .slice bA0 n1 bc0, .slice pA0 n2 pc0]).2 (by simp)
      have hS3 := hS2.setRow (g := W1.heap.size) (by omega) #[.int .i64 a1, .int .i64 r1, .slice bA0 n1 bc0, .slice pA0 n2 pc0]
      refine hK.out _ _ (hS3) (fun hS => ?_)
      clear hK K
      try simp only [List.getElem_toArray, List.getElem_cons_zero, List.getElem_cons_succ, Act.put, List.setIfInBounds_toArray, List.set_cons_zero, List.set_cons_succ]
      first
        | refine pl_close rfl rfl rfl (fun K hK => ?_)
        | refine op_close rfl rfl rfl (fun K hK => ?_)
      try simp only [List.getElem_toArray, List.getElem_cons_zero, List.getElem_cons_succ]
      refine wp_store_setw (n := 4) rfl rfl rfl (by kernel_rfl) rfl HBX rfl rfl ?_
      intro hB2
      have hS4 := hS3.setRow (g := W1.heap.size + 1) (by omega) #[.int .i64 a2, .int .i64 r2, .slice bA1 n3 bc1, .slice pA1 n4 pc1]
      have hB1 := hB1.grown (blk_set HBX #[.int .i64 a2, .int .i64 r2, .slice bA1 n3 bc1, .slice pA1 n4 pc1]).2 (by intro e; injection e; omega)
      refine hK.out _ _ ?_
      clear hK K
      try simp only [List.getElem_toArray, List.getElem_cons_zero, List.getElem_cons_succ, Act.put, List.setIfInBounds_toArray, List.set_cons_zero, List.set_cons_succ]
      repeat (first
        | (refine pl_q (by assumption) rfl rfl ?_; apply Exists.intro; refine ⟨fun w' hS => ?_, ?_⟩; (· (skip; go_simp; exact rfl)); simp only [List.getElem_toArray, List.getElem_cons_zero, List.getElem_cons_succ, Act.put, List.setIfInBounds_toArray, List.set_cons_zero, List.set_cons_succ])
        | (refine pl_qc rfl rfl ?_; apply Exists.intro; refine ⟨fun w' _ => ?_, ?_⟩; (· (go_simp; exact rfl)); simp only [List.getElem_toArray, List.getElem_cons_zero, List.getElem_cons_succ, Act.put, List.setIfInBounds_toArray, List.set_cons_zero, List.set_cons_succ])
        | (refine pl_skip (by assumption) rfl rfl ?_; simp only [List.getElem_toArray, List.getElem_cons_zero, List.getElem_cons_succ, Act.put, List.setIfInBounds_toArray, List.set_cons_zero, List.set_cons_succ])
        | (refine pl_skipl (by assumption) rfl rfl ?_; simp only [List.getElem_toArray, List.getElem_cons_zero, List.getElem_cons_succ, Act.put, List.setIfInBounds_toArray, List.set_cons_zero, List.set_cons_succ]))
      refine pl_nil ?_
      go_wp2_with fail
      go_meet
      exact ⟨_, _, rfl, rfl, hB1, hB2, hS4⟩
    · first
        | refine pl_do rfl rfl (fun K hK => ?_)
        | refine op_do rfl rfl (fun K hK => ?_)
      try simp only [List.getElem_toArray, List.getElem_cons_zero, List.getElem_cons_succ]
      go_simp
      have hn1 := Blk.new W1 37 #[.int .i64 0, .int .i64 0, .slice none 0 0, .slice none 0 0]
      have hS1 := hS.alloc (.cells #[.int .i64 0, .int .i64 0, .slice none 0 0, .slice none 0 0] 37)
      refine hK.out _ _ (hS1) (fun hS => ?_)
      clear hK K
      try simp only [List.getElem_toArray, List.getElem_cons_zero, List.getElem_cons_succ, Act.put, List.setIfInBounds_toArray, List.set_cons_zero, List.set_cons_succ]
      first
        | refine pl_do rfl rfl (fun K hK => ?_)
        | refine op_do rfl rfl (fun K hK => ?_)
      try simp only [List.getElem_toArray, List.getElem_cons_zero, List.getElem_cons_succ]
      go_simp
      have hn2 := Blk.new (W1.alloc (.cells #[.int .i64 0, .int .i64 0, .slice none 0 0, .slice none 0 0] 37)) 37 #[.int .i64 0, .int .i64 0, .slice none 0 0, .slice none 0 0]
      have hn2 : Blk ((W1.alloc (.cells #[.int .i64 0, .int .i64 0, .slice none 0 0, .slice none 0 0] 37)).alloc (.cells #[.int .i64 0, .int .i64 0, .slice none 0 0, .slice none 0 0] 37)) (W1.heap.size + 1) 37 #[.int .i64 0, .int .i64 0, .slice none 0 0, .slice none 0 0] := by simpa using hn2
      have hn1 := hn1.alloc (.cells #[.int .i64 0, .int .i64 0, .slice none 0 0, .slice none 0 0] 37)
      have hS2 := hS1.alloc (.cells #[.int .i64 0, .int .i64 0, .slice none 0 0, .slice none 0 0] 37)
      have hz1 := hS.size
      refine hK.out _ _ (hS2) (fun hS => ?_)
      clear hK K
      try simp only [List.getElem_toArray, List.getElem_cons_zero, List.getElem_cons_succ, Act.put, List.setIfInBounds_toArray, List.set_cons_zero, List.set_cons_succ]
      first
        | refine pl_do rfl rfl (fun K hK => ?_)
        | refine op_do rfl rfl (fun K hK => ?_)
      try simp only [List.getElem_toArray, List.getElem_cons_zero, List.getElem_cons_succ]
      refine wp_store_setw (n := 4) rfl rfl rfl (by kernel_rfl) rfl hn2 rfl rfl ?_
      intro hB1
      have HBX := hn1.grown (blk_set hn2 #[.int .i64 a1, .int .i64 r1, .slice bA0 n1 bc0, .slice pA0 n2 pc0]).2 (by simp)
      have hS3 := hS2.setRow (g := W1.heap.size + 1) (by omega) #[.int .i64 a1, .int .i64 r1, .slice bA0 n1 bc0, .slice pA0 n2 pc0]
      refine hK.out _ _ (hS3) (fun hS => ?_)
      clear hK K
      try simp only [List.getElem_toArray, List.getElem_cons_zero, List.getElem_cons_succ, Act.put, List.setIfInBounds_toArray, List.set_cons_zero, List.set_cons_succ]
      first
        | refine pl_close rfl rfl rfl (fun K hK => ?_)
        | refine op_close rfl rfl rfl (fun K hK => ?_)
      try simp only [List.getElem_toArray, List.getElem_cons_zero, List.getElem_cons_succ]
      refine wp_store_setw (n := 4) rfl rfl rfl (by kernel_rfl) rfl HBX rfl rfl ?_
      intro hB2
      have hS4 := hS3.setRow (g := W1.heap.size) (by omega) #[.int .i64 a2, .int .i64 r2, .slice bA1 n3 bc1, .slice pA1 n4 pc1]
      have hB1 := hB1.grown (blk_set HBX #[.int .i64 a2, .int .i64 r2, .slice bA1 n3 bc1, .slice pA1 n4 pc1]).2 (by intro e; injection e; omega)
      refine hK.out _ _ ?_
      clear hK K
      try simp only [List.getElem_toArray, List.getElem_cons_zero, List.getElem_cons_succ, Act.put, List.setIfInBounds_toArray, List.set_cons_zero, List.set_cons_succ]
      repeat (first
        | (refine pl_q (by assumption) rfl rfl ?_; apply Exists.intro; refine ⟨fun w' hS => ?_, ?_⟩; (· (skip; go_simp; exact rfl)); simp only [List.getElem_toArray, List.getElem_cons_zero, List.getElem_cons_succ, Act.put, List.setIfInBounds_toArray, List.set_cons_zero, List.set_cons_succ])
        | (refine pl_qc rfl rfl ?_; apply Exists.intro; refine ⟨fun w' _ => ?_, ?_⟩; (· (go_simp; exact rfl)); simp only [List.getElem_toArray, List.getElem_cons_zero, List.getElem_cons_succ, Act.put, List.setIfInBounds_toArray, List.set_cons_zero, List.set_cons_succ])
        | (refine pl_skip (by assumption) rfl rfl ?_; simp only [List.getElem_toArray, List.getElem_cons_zero, List.getElem_cons_succ, Act.put, List.setIfInBounds_toArray, List.set_cons_zero, List.set_cons_succ])
        | (refine pl_skipl (by assumption) rfl rfl ?_; simp only [List.getElem_toArray, List.getElem_cons_zero, List.getElem_cons_succ, Act.put, List.setIfInBounds_toArray, List.set_cons_zero, List.set_cons_succ]))
      refine pl_nil ?_
      go_wp2_with fail
      go_meet
      exact ⟨_, _, rfl, rfl, hB1, hB2, hS4⟩
  case rest =>
    obtain ⟨g1, g2, rfl, rfl, hB1, hB2, hS⟩ := hcut
    have x0 := hB1.cell 0; have x1 := hB1.cell 1
    have y0 := hB2.cell 0; have y1 := hB2.cell 1
    simp at x0 x1 y0 y1
    have hw1 : IntKind.i64.wrap (r1 - r2) = r1 - r2 := by rw [IntKind.wrap_i64]; omega
    have hw2 : IntKind.i64.wrap (a1 - a2) = a1 - a2 := by rw [IntKind.wrap_i64]; omega
    go_wp2_with fail
    have hS5 := hS.alloc (.cells #[.int .i64 (r1 - r2), .int .i64 (a1 - a2)] 3)
    have hn := Blk.new wc 3 #[.int .i64 (r1 - r2), .int .i64 (a1 - a2)]
    refine (cmpOr_any (r1 - r2) (a1 - a2) _ _ (hn.cell 0) (hn.cell 1)).mono ?_
    rintro e w' ⟨rfl, rfl⟩
    rw [hR.out]
    go_wp2
    go_ret
    exact ⟨rfl, hS5⟩
end Go.Proofs.YtedealljhmokoaaDoor

namespace Go.Proofs.YtedealljhmokoaaDoor
open Go.ChangeShapes Go.WideShapes Go.ChangeAt Go.RowKit
set_option linter.unusedVariables false
set_option linter.unusedSimpArgs false
theorem cf_lt (x y : Hdr) : cfH x y < 0 ↔ (x.round < y.round ∨ x.round = y.round ∧ x.author < y.author) := by
  unfold cfH
  split <;> omega
theorem ltH {l : List Crt} (a b : Fin l.length) : ltOf (fun x y : Fin l.length => cfH l[x].hdr l[y].hdr) a b = decide (l[a].hdr.round < l[b].hdr.round ∨ l[a].hdr.round = l[b].hdr.round ∧ l[a].hdr.author < l[b].hdr.author) := by
  show decide (cfH l[a].hdr l[b].hdr < 0) = _
  exact decide_eq_decide.2 (cf_lt _ _)
theorem swoH (l : List Crt) : Sort.SWO (ltOf (fun x y : Fin l.length => cfH l[x].hdr l[y].hdr)) where
  irrefl x := by rw [ltH]; simp
  trans x y z h1 h2 := by
    rw [ltH] at *
    simp only [decide_eq_true_eq] at *
    omega
  ntrans x y z h1 h2 := by
    rw [ltH] at *
    simp only [decide_eq_false_iff_not] at *
    omega
theorem sortWorld1_grown {α : Type} [Inhabited α] (enc : α → Value) (w : World) (blk off n : Nat) (d : Array α) (os : Array Obj) : w.grownBy (sortWorld enc w blk off n d os) (some blk) := by
  have hs : (Sort.putRow enc (Sort.ahead w n) blk off d).heap.size = w.heap.size := by rw [Sort.size_putRow]; rfl
  refine ⟨rfl, rfl, rfl, ?_, fun i hi hne => ?_⟩
  · unfold sortWorld
    rw [Sort.size_grow, hs]
    exact Nat.le_add_right _ _
  · unfold sortWorld
    rw [Sort.heap_grow_old _ _ (by rw [hs]; exact hi)]
    show ((Sort.ahead w n).heap.modify blk _)[i]? = _
    rw [Array.getElem?_modify, if_neg (fun e => hne (by rw [e]))]
    rfl
set_option maxHeartbeats 2000000 in
set_option maxRecDepth 100000 in
theorem sortIdx_any {w0 : World} (gd : Nat) (vl : Value) (l : List Crt) (hc : w0.cell? ⟨gd, 0, none⟩ = some vl) (hl : RCrts w0.cell? vl l) (hv : ∀ c ∈ l, hF c.hdr = 0) (v : Value) (xs : List Nat) (W : World) (b : Nat)
    (hown : OwnI W b v (xs.map fun n : Nat => (n : Int))) (hx : ∀ i ∈ xs, i < l.length) (hp : 0 < xs.length) (hl4 : xs.length ≤ 400) (hb0 : Below w0.heap.size w0 W) (hbb : w0.heap.size ≤ b) :
    Calls Tryd.prog 126 #[v, .func (.func 127) #[] #[.pointer (some ⟨gd, 0, none⟩)]] W fun e w' => e = .returned (.tuple #[]) ∧ Below w0.heap.size w0 w' ∧ ∃ ys : List Nat, ys.Perm xs ∧ (ys.Pairwise fun i j => ¬ aheadH l j i) ∧ RIs w'.cell? v (ys.map fun n : Nat => (n : Int)) := by
  have hr := hown.reads (bs := 8) (by simp; omega)
  have h1 := hown.own
  rw [List.length_map] at h1
  rcases h1.2 with ⟨rfl, hn⟩ | ⟨g, cap, cur, rfl, hbg, hcur, hncap, hcap, hcs, _⟩
  · omega
  · obtain ⟨A', c', e, _, _, hbd, _, hel⟩ := hr
    injection e with e1 e2 e3
    subst e1 e3
    simp only [List.length_map] at e2 hel hbd
    haveI : Inhabited (Fin l.length) := ⟨⟨xs[0], hx _ (List.getElem_mem hp)⟩⟩
    obtain ⟨d, hd⟩ : ∃ d : Array (Fin l.length), d.toList.map (·.val) = xs := ⟨(xs.attach.map fun i => (⟨i.1, hx i.1 i.2⟩ : Fin l.length)).toArray, by simp⟩
    have hds : d.size = xs.length := by rw [← hd]; simp
    let enc : Fin l.length → Value := fun i => .int .i64 i.val
    have hH : Sort.Holds enc W g 0 d := fun j hj => by
      obtain ⟨b', o', ea, hcc⟩ := hel (by omega)
      injection ea with ea
      injection ea with eb eo _
      subst eb eo
      have hjx : j < xs.length := by omega
      refine ⟨?_, Blk.frozen (show Blk W g 3 cur from hcur) _⟩
      rw [hcc j (by simpa using hjx), getElem!_pos d j hj]
      have : xs[j] = (d[j]).val := by
        subst hd
        simp
      simp [this]
      rfl
    have hlt : g < W.heap.size := (Array.getElem?_eq_some_iff.1 hcur).1
    have eg : ∀ args w, (callFunc 127 args).run Tryd.prog w = .ok (.enter 127 args) w := enters_of_func Tryd.func127 (by kernel_rfl) rfl
    have hcmp : CmpLays1 Tryd.prog 127 #[.pointer (some ⟨gd, 0, none⟩)] enc (fun x y : Fin l.length => cfH l[x].hdr l[y].hdr) g 0 d.size W := fun m os dk _ x y => by
      have hg := sortWorld1_grown enc W g 0 m dk os
      have hbl : Below w0.heap.size w0 (sortWorld enc W g 0 m dk os) := below_grownBy hb0 hb0.size hg (by intro k e; injection e with e; omega)
      exact hisCmp_any gd vl l hc hl x.val y.val x.isLt y.isLt (hv _ (List.getElem_mem _)) (hv _ (List.getElem_mem _)) _ hbl
    have hcon := Any.slices_SortFunc sortInt enc (fun _ => rfl) (fun x y : Fin l.length => cfH l[x].hdr l[y].hdr) (swoH l) 127 #[.pointer (some ⟨gd, 0, none⟩)] g 0 cap d W eg hcmp hH hlt (by omega)
    rw [hds] at hcon
    refine hcon.mono ?_
    rintro e w' ⟨rfl, d', n, os, hpm, hs, rfl⟩
    have hg := sortWorld1_grown enc W g 0 n d' os
    have hbl : Below w0.heap.size w0 (sortWorld enc W g 0 n d' os) := below_grownBy hb0 hb0.size hg (by intro k e; injection e with e; omega)
    have hds' : d'.size = xs.length := hpm.1.trans hds
    have hperm : d'.toList.Perm d.toList := by
      have h2 := hpm.2.2
      rw [← hds] at h2
      simp at h2
      rw [List.take_of_length_le (by simp [hpm.1])] at h2
      exact h2
    have hW' : SW enc W g 0 d' (sortWorld enc W g 0 n d' os) := ⟨n, os, rfl⟩
    have hH' := hW'.holds hlt hH hpm.1
    refine ⟨rfl, hbl, d'.toList.map (·.val), by rw [← hd]; exact hperm.map _, ?_, ?_⟩
    · rw [List.pairwise_map, List.pairwise_iff_getElem]
      intro i j hi hj hij
      simp at hi hj
      have := hs i j (Nat.zero_le _) hij (by omega)
      rw [ltH, getElem!_pos d' i (by omega), getElem!_pos d' j (by omega)] at this
      simp only [decide_eq_false_iff_not] at this
      rintro ⟨x, y, hx', hy', h3⟩
      simp only [Array.getElem_toList] at hx' hy'
      obtain ⟨q1, rfl⟩ := List.getElem?_eq_some_iff.1 hx'
      obtain ⟨q2, rfl⟩ := List.getElem?_eq_some_iff.1 hy'
      exact this h3
    · have hlen : (d'.toList.map (·.val)).length = xs.length := by simp [hds']
      refine ⟨some ⟨g, 0, none⟩, cap, by rw [List.length_map, hlen], by rw [List.length_map, hlen]; exact hncap, hcap, by rw [List.length_map, hlen]; omega, (fun h => by cases h), fun h0 => ⟨g, 0, rfl, fun i hi => ?_⟩⟩
      rw [List.length_map, hlen] at hi
      have := (hH' i (by omega)).1
      rw [this, getElem!_pos d' i (by omega)]
      simp
      rfl
end Go.Proofs.YtedealljhmokoaaDoor

namespace Go.Proofs.YtedealljhmokoaaDoor
open Go.ChangeShapes Go.WideShapes Go.ChangeAt Go.RowKit
set_option linter.unusedVariables false
set_option linter.unusedSimpArgs false
/-- a batch of texts that are no longer than a machine's -/
def RBat (h : View) (cs : List Value) (x : Bat) : Prop := ∃ v, cs = [.int .i64 x.author, .int .i64 x.number, v] ∧ RTexts h v x.txs ∧ ∀ s ∈ x.txs, s.size ≤ 140737488355328
theorem RBat.mono : Mono RBat := fun h h' cs x ⟨v, e, h1, h2⟩ hle => ⟨v, e, h1.mono hle, h2⟩
abbrev RBats := RSl 3 RBat 40
theorem elemBat : Elem Tryd.prog 31 24 3 40 := elemN (z := .agg #[.int .i64 0, .int .i64 0, .slice none 0 0]) Tryd.underlying31 (by kernel_rfl) rfl (by decide)
theorem RBats.at {h : View} {A : Option Addr} {n c : Nat} {xs : List Bat} (hr : RBats h (.slice A n c) xs) : n = xs.length ∧ n ≤ c ∧ n * 40 ≤ 140737488355328 ∧ ∀ k (hk : k < xs.length), ∃ b o v, A = some ⟨b, o, none⟩ ∧ h ⟨b, o + k * 3, none⟩ = some (.int .i64 xs[k].author) ∧ h ⟨b, o + k * 3 + 1, none⟩ = some (.int .i64 xs[k].number) ∧ h ⟨b, o + k * 3 + 2, none⟩ = some v ∧ RTexts h v xs[k].txs ∧ ∀ s ∈ xs[k].txs, s.size ≤ 140737488355328 := by
  obtain ⟨A', c', e, h1, _, h2, _, h3⟩ := hr
  injection e with e1 e2 e3
  subst e1 e2 e3
  refine ⟨rfl, h1, h2, fun k hk => ?_⟩
  obtain ⟨b, o, ea, hc⟩ := h3 (by omega)
  obtain ⟨cs, hl, hcs, v, rfl, hb, hs⟩ := hc k hk
  have c0 := hcs 0 (by omega)
  have c1 := hcs 1 (by omega)
  have c2 := hcs 2 (by omega)
  simp at c0 c1 c2
  exact ⟨b, o, v, ea, c0, c1, c2, hb, hs⟩
theorem RBats.form {h : View} {v : Value} {xs : List Bat} (hr : RBats h v xs) : ∃ A c, v = .slice A xs.length c := by
  obtain ⟨A, c, e, _⟩ := hr
  exact ⟨A, c, e⟩
theorem RBats.len {h : View} {v : Value} {xs : List Bat} (hr : RBats h v xs) : xs.length * 40 ≤ 140737488355328 := by
  obtain ⟨_, _, _, _, _, h, _⟩ := hr
  exact h
theorem opens_bats : OpensTo Tryd.prog 31 (fun h cs (xs : List Bat) => ∃ v, cs = [v] ∧ RBats h v xs) :=
  opens_sl Tryd.underlying31 (by kernel_rfl) (by decide) (by kernel_rfl) (R := RBat) (by
    intro H enc w fuel cs x h hw
    obtain ⟨x, v, e, r, hs⟩ := opens_bat H enc w fuel cs x h hw
    exact ⟨x, v, e, r, fun s hs' => reach_le (hs s hs')⟩)
set_option maxHeartbeats 2000000 in
set_option maxRecDepth 100000 in
theorem batches_any (v : Value) (l : List Bat) (w : World) (hv : RBats w.cell? v l) :
    Calls Tryd.prog 19 #[v] w fun e w' => ∃ v', e = .returned v' ∧ Below w.heap.size w w' ∧ OwnSl 3 (RFrom w.heap.size RBat) 24 w' w.heap.size v' l := by
  obtain ⟨A, c, rfl, _⟩ := id hv
  obtain ⟨_, hcap, hlen, hel⟩ := RBats.at hv
  have Hel := Lib.hid hel
  clear hel hv
  go_enter Tryd.func19, Tryd.ntmps19
  go_wp2
  go_loopw [3, 4, 5] (fun v i _ wr => ∃ k : Nat, k ≤ l.length ∧ i = .int .i64 k ∧ OwnSl 3 (RFrom w.heap.size RBat) 24 wr w.heap.size v (l.take k) ∧ Below w.heap.size w wr) (fun _ i _ _ => l.length - (intOf i).toNat)
  case atStart => exact ⟨0, Nat.zero_le _, rfl, OwnSl.nil _ _ _ _ _, Below.refl _ _⟩
  case round =>
    obtain ⟨k, hk, rfl, hown, hbl⟩ := hrel
    have hbs := hbl.size
    by_cases hlt : k < l.length
    · obtain ⟨b0, o0, d, rfl, e0, e1, e2, hd, hs⟩ := Hel.out k hlt
      have c0 := vle_below hbl _ _ e0
      have c1 := vle_below hbl _ _ e1
      have c2 := vle_below hbl _ _ e2
      have hd' := hd.mono (vle_below hbl)
      have Hn := Lib.hid (List.take_succ_eq_append_getElem hlt)
      have Hlk := Lib.hid (show (l.take k).length = k by simp; omega)
      have Hs := Lib.hid hs
      have hdl := Lib.hid (show l[k].txs.length * 16 ≤ 140737488355328 by obtain ⟨_, _, _, _, _, h, _⟩ := hd; exact h)
      clear e0 e1 e2 hd hs
      generalize l.take k = L at hown Hn Hlk
      generalize l[k] = y at *
      go_wp2_with fail
      refine (batch_any _ _ _ _ _ hd').mono ?_
      rintro e w1 ⟨d', rfl, hb1, o1⟩
      have hown1 := hown.kept (RFrom.mono RBat.mono) hb1
      have hbl1 : Below w.heap.size w w1 := hbl.trans (hb1.mono hbs)
      have hR : RFrom w.heap.size RBat (View.but w1.cell? u3.ownBlock) [.int .i64 y.author, .int .i64 y.number, d'] y :=
        ⟨d', rfl, o1.reads_from hdl.out hbs (fun g hg => (hown.lt g hg).2), Hs.out⟩
      have hlto := hown.lt
      have hs1 := hb1.size
      obtain ⟨A', c', rfl⟩ := o1.form
      clear c0 c1 c2 hd' o1
      go_upto_region 6 with fail
      refine one_block _ _ _ (fun W => Code.wp _ _ _ _ W) (fun W2 hX hsX hbX => ?_)
      have hbX2 := hbl1.trans (hbX.mono hbl1.size)
      have hown2 := hown1.kept (RFrom.mono RBat.mono) hbX
      have hR2 := RFrom.mono RBat.mono _ _ _ _ hR (but_below hbX u3.ownBlock)
      have x0 := hX.cell 0; have x1 := hX.cell 1; have x2 := hX.cell 2
      simp at x0 x1 x2
      clear hsX hown hown1 hR
      go_wp2_with (at_builtin; go_loud (refine wpList_append_sl1 (n := 140737488355328) (RFrom.mono RBat.mono) y [.int .i64 y.author, .int .i64 y.number, .slice A' y.txs.length c'] elemBat _ _ rfl rfl rfl hown2 hbX2 hbX2.size rfl rfl rfl rfl hR2 (Nat.le_refl _) (by rw [Hlk.out]; omega) (by rw [Hlk.out]; omega) ?_))
      intro v' w2 ho hbl2 _
      rw [← Hn.out] at ho
      clear hown2 hR2 x0 x1 x2
      go_wp2
      go_roundw
      case rel => exact ⟨k + 1, by omega, by go_num, ho, hbl2⟩
      case measure => simp [intOf]; omega
    · have : k = l.length := by omega
      subst this
      go_wp2
      go_ret
      exact ⟨_, rfl, hbl, by simpa using hown⟩
end Go.Proofs.YtedealljhmokoaaDoor

namespace Go.Proofs.YtedealljhmokoaaDoor
open Go.ChangeShapes Go.WideShapes Go.ChangeAt Go.RowKit
set_option linter.unusedVariables false
open Go.Maps
set_option linter.unusedSimpArgs false
def bF (x : Bat) : Int := batchF x.author x.number x.txs
def bD (x : Bat) : List UInt8 := batD x.author x.number x.txs
def badB (l : List Bat) (i : Nat) : Bool := match l[i]? with | some x => bF x != 0 || ((l.take i).map bD).any (· == bD x) | none => false
def batsF (l : List Bat) : Int := if 800 < l.length then 12 else if (List.range l.length).any (badB l) then 12 else 0
theorem badB_at {l : List Bat} {k : Nat} (hk : k < l.length) : badB l k = (bF l[k] != 0 || ((l.take k).map bD).any (· == bD l[k])) := by
  unfold badB; simp [hk]
theorem strKey : Keyed Tryd.prog 9 := string_keyed Tryd.underlying9
theorem zeroU (w : World) : (zeroValue 89).run Tryd.prog w = .ok (.agg #[]) w := by kernel_rfl
def keysOf (ds : List (List UInt8)) : List Lit := ds.map Lit.string
theorem has_keys (ds : List (List UInt8)) (d : List UInt8) : Maps.has (setOf (H := Unit) (.agg []) (keysOf ds)) (.string d) = ds.any (· == d) := by
  rw [has_setOf _ _ _ (by
    intro x hx
    unfold keysOf at hx
    obtain ⟨y, _, rfl⟩ := List.mem_map.1 hx
    trivial)]
  unfold keysOf
  rw [List.any_map]
  rfl
theorem key_str {d : List UInt8} (h : d.length ≤ 140737488355328) : keyOf Tryd.prog 9 (.string (bstr d)) = some (.string d) :=
  WideMaps.keyOf_string_mk Tryd.underlying9 (s := bstr d) (by rw [bstr_size]; exact le_maxLen h)
theorem ownsMap_below {P : Program} {k : TypeId} {R : Value → Option (DataW Unit × List MemPlace)} {w w' : World} {b n : Nat} {D : DataW Unit} (h : w.ownsMap P k R b n D) (hb : Below w.heap.size w w') : w'.ownsMap P k R b n D :=
  h.kept (grownBy_below none hb) (by simp)
set_option maxHeartbeats 4000000 in
set_option maxRecDepth 100000 in
theorem checkBatches_any (v : Value) (l : List Bat) (w : World) (hv : RBats w.cell? v l) (hT : Tabs w.cell?) :
    Calls Tryd.prog 18 #[v] w fun e w' => e = .returned (.int .i64 (batsF l)) ∧ Below w.heap.size w w' := by
  obtain ⟨A, c, rfl, hf⟩ := id hv
  clear hf
  obtain ⟨_, hn1, hn2, hel⟩ := RBats.at hv
  have Hel := Lib.hid hel
  clear hel hv
  obtain ⟨Q, hQ⟩ : ∃ q, Hid (batsF l = q) := ⟨_, rfl⟩
  have hQ0 : Hid (Q = if 800 < l.length then 12 else if (List.range l.length).any (badB l) then 12 else 0) := hQ.out.symm
  rw [hQ.out]
  clear hQ
  have hmm := @run_makeMap Tryd.prog
  go_enter Tryd.func18, Tryd.ntmps18
  by_cases hbig : (800 : Int) < l.length
  · have HQ : Hid (Q = 12) := by show _ = _; rw [hQ0.out, if_pos (by omega)]
    go_wp2
    go_ret
    exact ⟨ret_int HQ.out.symm, Below.refl _ _⟩
  have hQ1 : Hid (Q = if (List.range l.length).any (badB l) then 12 else 0) := by show _ = _; rw [hQ0.out, if_neg (by omega)]
  have hl8 := Lib.hid (show l.length ≤ 800 by omega)
  clear hQ0
  go_wp2_with fail
  go_loopw [5, 6, 7, 8, 9, 16] (fun _ _ _ _ _ i wr => ∃ k : Nat, k ≤ l.length ∧ i = .int .i64 k ∧ (∀ j, j < k → badB l j = false) ∧ wr.ownsMap Tryd.prog 9 (unitElem (H := Unit)) w.heap.size k (setOf (.agg []) (keysOf ((l.take k).map bD))) ∧ Below w.heap.size w wr ∧ w.heap.size + 1 ≤ wr.heap.size) (fun _ _ _ _ _ i _ => l.length - (intOf i).toNat)
  case atStart => exact ⟨0, Nat.zero_le _, rfl, fun j hj => by omega, World.ownsMap_made _ _ _ _, (Below.refl _ _).alloc (Nat.le_refl _) _, by simp⟩
  case round =>
    obtain ⟨k, hk, rfl, hok', hown, hbl, hz⟩ := hrel
    have hok := Lib.hid hok'
    clear hok'
    by_cases hlt : k < l.length
    · obtain ⟨b0, o0, d, rfl, e0, e1, e2, hd, hs⟩ := Hel.out k hlt
      have c0 := vle_below hbl _ _ e0
      have c1 := vle_below hbl _ _ e1
      have c2 := vle_below hbl _ _ e2
      have hd' := hd.mono (vle_below hbl)
      have Hs := Lib.hid hs
      have Hb := Lib.hid (badB_at hlt)
      have Hn := Lib.hid (show (l.take (k + 1)).map bD = (l.take k).map bD ++ [bD l[k]] by rw [List.take_succ_eq_append_getElem hlt, List.map_append]; rfl)
      have hnext : Hid (badB l k = false → ∀ j, j < k + 1 → badB l j = false) := fun hq j hj => by
        by_cases e : j = k
        · subst e; exact hq
        · exact hok.out j (by omega)
      have hbadQ : Hid (badB l k = true → Q = 12) := fun h => by rw [hQ1.out, if_pos (any_range_true hlt h)]
      obtain ⟨txA, txc, rfl, hg⟩ := id hd
      clear e0 e1 e2 hd hs hg
      have hHas : Hid (∀ d, Maps.has (setOf (H := Unit) (.agg []) (keysOf ((l.take k).map bD))) (.string d) = ((l.take k).map bD).any (· == d)) := fun d => has_keys _ d
      generalize (l.take k).map bD = Ds at hown Hb Hn hHas
      generalize badB l k = BK at Hb hnext hbadQ
      have HD : Hid (batD l[k].author l[k].number l[k].txs = bD l[k] ∧ batchF l[k].author l[k].number l[k].txs = bF l[k]) := ⟨rfl, rfl⟩
      generalize l[k] = y at *
      go_upto_region 7 with fail
      refine one_block _ _ _ (fun W => Code.wp _ _ _ _ W) (fun W2 hX hsX hbX => ?_)
      have hbl2 := hbl.trans (hbX.mono hbl.size)
      have hown2 := ownsMap_below hown hbX
      have hz2 := hbX.size
      have hd2 := hd'.mono (vle_below hbX)
      have x0 := hX.cell 0; have x1 := hX.cell 1; have x2 := hX.cell 2
      simp at x0 x1 x2
      clear hsX hown hd' c0 c1 c2
      go_wp2_with fail
      refine (batchDigestW_any _ _ _ y.txs _ hd2 Hs.out (hT.mono (vle_below hbl2))).mono ?_
      rintro e w3 ⟨d3, rfl, hb3, r3⟩
      rw [HD.out.2]
      have hbl3 := hbl2.trans (hb3.mono hbl2.size)
      have hown3 := ownsMap_below hown2 hb3
      have hz3 := hb3.size
      clear x0 x1 x2 hX hd2 hown2
      by_cases h0 : bF y = 0
      rotate_left
      · have HQ := Lib.hid (hbadQ.out (by rw [Hb.out]; simp [h0]))
        generalize bF y = E at *
        clear hnext hbadQ Hb r3
        go_wp2
        go_ret
        exact ⟨ret_int HQ.out.symm, hbl3⟩
      have HR : batDR y.author y.number y.txs = bD y := if_pos (HD.out.2.trans h0)
      rw [HR] at r3
      have hb1 : Hid (BK = Ds.any (· == bD y)) := by show _ = _; rw [Hb.out, h0]; rfl
      rw [h0]
      clear HR HD Hb h0
      have r3 := r3.mono (View.from_le _ _)
      have hstr := run_toStr r3
      have hdl : (bD y).length * 1 ≤ 140737488355328 := r3.len
      generalize bD y = D at *
      have hkey := key_str (d := D) (by omega)
      obtain ⟨HB, hHB⟩ : ∃ z, Ds.any (· == D) = z := ⟨_, rfl⟩
      have hhas := hHas.out D
      rw [hHB] at hhas
      have hb2 : Hid (BK = HB) := by show _ = _; rw [hb1.out, hHB]
      obtain ⟨dA, dc, rfl, hfd⟩ := id r3
      clear hfd hHB hb1 hHas
      have hz33 : w.heap.size + 1 ≤ w3.heap.size := by omega
      go_upto_region 11 with (at_lookup; refine wpList_lookup_own_unit _ rfl _ _ 88 rfl 9 89 strKey Tryd.underlying88 (zeroU _) w.heap.size k _ rfl hown3 _ _ rfl hkey ?_)
      refine one_block _ _ _ (fun W => Code.wp _ _ _ _ W) (fun W4 hU hsU hbU => ?_)
      have hbl4 := hbl3.trans (hbU.mono hbl3.size)
      have hown4 := ownsMap_below hown3 hbU
      have hstr4 := run_toStr (r3.mono (vle_below hbU))
      have hz4 := hbU.size
      clear hsU hU hown3 r3 hstr
      cases HB
      · have hq := Lib.hid (hnext.out hb2.out)
        clear hnext hbadQ hb2
        go_wp2_with (at_mapUpdate; refine wpList_mapUpdate_own _ rfl _ _ _ 88 rfl 9 89 strKey Tryd.underlying88 (unitElem (H := Unit)) w.heap.size k _ rfl hown4 (by have := hl8.out; unfold maxLen; omega) _ _ _ rfl rfl hkey _ [] unitElem_mk ?_; intro w5 hown5 hg5)
        go_roundw
        case rel =>
          refine ⟨k + 1, by omega, by go_num, hq.out, ?_, below_grownBy hbl4 hbl4.size hg5 (by intro q e; injection e; omega), by have := hg5.size; omega⟩
          rw [Hn.out]
          unfold keysOf at hown5 ⊢
          rw [List.map_append, List.map_cons, List.map_nil, setOf_snoc]
          exact hown5
        case measure => simp [intOf]; omega
      · have HQ := Lib.hid (hbadQ.out hb2.out)
        clear hnext hbadQ hb2
        go_wp2
        go_ret
        exact ⟨ret_int HQ.out.symm, hbl4⟩
    · have HQ : Hid (Q = 0) := by
        show _ = _
        rw [hQ1.out, if_neg]
        rw [Bool.not_eq_true]
        exact any_range_false fun j hj => hok.out j (by omega)
      go_wp2
      go_ret
      exact ⟨ret_int HQ.out.symm, hbl⟩
set_option maxHeartbeats 4000000 in
set_option maxRecDepth 100000 in
theorem batchesFault_any (v : Value) (l : List Bat) (w : World) (hv : RBats w.cell? v l) :
    Calls Tryd.prog 20 #[v] w fun e w' => e = .returned (.int .i64 (batsF l)) ∧ Below w.heap.size w w' := by
  obtain ⟨A, c, rfl, hf⟩ := id hv
  clear hf
  obtain ⟨_, hn1, hn2, hel⟩ := RBats.at hv
  have Hel := Lib.hid hel
  clear hel hv
  obtain ⟨Q, hQ⟩ : ∃ q, Hid (batsF l = q) := ⟨_, rfl⟩
  have hQ0 : Hid (Q = if 800 < l.length then 12 else if (List.range l.length).any (badB l) then 12 else 0) := hQ.out.symm
  rw [hQ.out]
  clear hQ
  go_enter Tryd.func20, Tryd.ntmps20
  by_cases hbig : (800 : Int) < l.length
  · have HQ : Hid (Q = 12) := by show _ = _; rw [hQ0.out, if_pos (by omega)]
    go_wp2
    go_ret
    exact ⟨ret_int HQ.out.symm, Below.refl _ _⟩
  have hQ1 : Hid (Q = if (List.range l.length).any (badB l) then 12 else 0) := by show _ = _; rw [hQ0.out, if_neg (by omega)]
  have hl8 := Lib.hid (show l.length ≤ 800 by omega)
  clear hQ0
  go_wp2_with fail
  go_loopw [3, 4, 5] (fun v i _ wr => ∃ k : Nat, k ≤ l.length ∧ i = .int .i64 k ∧ (∀ j, j < k → badB l j = false) ∧ OwnSl 1 (RFrom w.heap.size RDig) 25 wr w.heap.size v ((l.take k).map bD) ∧ Below w.heap.size w wr) (fun _ i _ _ => l.length - (intOf i).toNat)
  case atStart => exact ⟨0, Nat.zero_le _, rfl, fun j hj => by omega, OwnSl.nil _ _ _ _ _, Below.refl _ _⟩
  case round =>
    obtain ⟨k, hk, rfl, hok', hown, hbl⟩ := hrel
    have hok := Lib.hid hok'
    clear hok'
    have hbs := hbl.size
    by_cases hlt : k < l.length
    · obtain ⟨b0, o0, d, rfl, e0, e1, e2, hd, hs⟩ := Hel.out k hlt
      have c0 := vle_below hbl _ _ e0
      have c1 := vle_below hbl _ _ e1
      have c2 := vle_below hbl _ _ e2
      have hd' := hd.mono (vle_below hbl)
      have Hs := Lib.hid hs
      have Hb := Lib.hid (badB_at hlt)
      have Hn := Lib.hid (show (l.take (k + 1)).map bD = (l.take k).map bD ++ [bD l[k]] by rw [List.take_succ_eq_append_getElem hlt, List.map_append]; rfl)
      have Hlk := Lib.hid (show ((l.take k).map bD).length = k by simp; omega)
      have hnext : Hid (badB l k = false → ∀ j, j < k + 1 → badB l j = false) := fun hq j hj => by
        by_cases e : j = k
        · subst e; exact hq
        · exact hok.out j (by omega)
      have hbadQ : Hid (badB l k = true → Q = 12) := fun h => by rw [hQ1.out, if_pos (any_range_true hlt h)]
      obtain ⟨txA, txc, rfl, hg⟩ := id hd
      clear e0 e1 e2 hd hs hg
      generalize (l.take k).map bD = Ds at hown Hb Hn Hlk
      generalize badB l k = BK at Hb hnext hbadQ
      have HD : Hid (batD l[k].author l[k].number l[k].txs = bD l[k] ∧ batchF l[k].author l[k].number l[k].txs = bF l[k]) := ⟨rfl, rfl⟩
      generalize l[k] = y at *
      go_wp2_with fail
      refine (batchFault_any _ _ _ y.txs _ hd' Hs.out).mono ?_
      rintro e w3 ⟨rfl, hb3⟩
      rw [HD.out.2]
      have hbl3 := hbl.trans (hb3.mono hbs)
      have hown3 := hown.kept (RFrom.mono RDig.mono) hb3
      have hz3 := hb3.size
      have q3 := vle_below hb3
      have c0' := q3 _ _ c0; have c1' := q3 _ _ c1; have c2' := q3 _ _ c2
      clear c0 c1 c2 hown
      by_cases h0 : bF y = 0
      rotate_left
      · have HQ := Lib.hid (hbadQ.out (by rw [Hb.out]; simp [h0]))
        generalize bF y = E at *
        clear hnext hbadQ Hb
        go_wp2
        go_ret
        exact ⟨ret_int HQ.out.symm, hbl3⟩
      have H3 := Lib.hid (batchF_zero (HD.out.2.trans h0))
      have hb1 : Hid (BK = Ds.any (· == bD y)) := by show _ = _; rw [Hb.out, h0]; rfl
      rw [h0]
      clear Hb h0
      go_wp2_with fail
      refine (batchDigestR_any _ _ _ y.txs _ (by have := H3.out; omega) (by have := H3.out; omega) (hd'.mono q3) (by have := H3.out; omega)).mono ?_
      rintro e w4 ⟨d4, rfl, hb4, r4⟩
      rw [HD.out.1] at r4
      have hbl4 := hbl3.trans (hb4.mono hbl3.size)
      have hlto := hown3.lt
      have hown4 := hown3.kept (RFrom.mono RDig.mono) hb4
      have hz4 := hb4.size
      have rDs := hown4.reads (bs := 24) (RFrom.mono RDig.mono) (by rw [Hlk.out]; have := hl8.out; omega)
      have rDs := RSl.weak (R' := RDig) (fun h cs x hr => RDig.mono _ _ _ _ hr (View.from_le _ _)) rDs
      generalize bD y = D at *
      have r4' := r4.mono (View.from_le _ _)
      obtain ⟨dA, dc, rfl, hfd⟩ := id r4'
      clear hfd hown3 hd' q3 c0' c1' c2' H3 HD
      obtain ⟨nA, nc, rfl⟩ := hown4.form
      go_wp2_with fail
      refine (placeOf_any _ Ds _ D _ rDs r4').mono ?_
      rintro e w5 ⟨rfl, hb5⟩
      have hbl5 := hbl4.trans (hb5.mono hbl4.size)
      have hown5 := hown4.kept (RFrom.mono RDig.mono) hb5
      have hz5 := hb5.size
      have hR : RFrom w.heap.size RDig (View.but w5.cell? (Value.slice nA Ds.length nc).ownBlock) [.slice dA D.length dc] D :=
        ⟨_, rfl, (r4.mono (from_from_but (b' := w.heap.size) (by omega) (fun g hg => (hlto g hg).2))).mono (vle_from _ (but_below hb5 _))⟩
      clear rDs r4 r4' hown4
      rcases idxI_cases (· == D) Ds with ⟨p1, p2⟩ | ⟨j, hj, p1, p2, p3⟩
      · rw [show placeI Ds D = -1 from p1]
        have hq := Lib.hid (hnext.out (by rw [hb1.out]; exact p2))
        clear p1 p2 hnext hbadQ hb1
        go_wp2_with (at_builtin; go_loud (refine wpList_append_sl1 (n := 140737488355328) (RFrom.mono RDig.mono) D [.slice dA D.length dc] elemDig _ _ rfl rfl rfl hown5 hbl5 hbl5.size rfl rfl rfl rfl hR (Nat.le_refl _) (by rw [Hlk.out]; have := hl8.out; omega) (by rw [Hlk.out]; have := hl8.out; omega) ?_))
        intro v' w6 ho hbl6 _
        rw [← Hn.out] at ho
        clear hown5 hR
        go_wp2
        go_roundw
        case rel => exact ⟨k + 1, by omega, by go_num, hq.out, ho, hbl6⟩
        case measure => simp [intOf]; omega
      · rw [show placeI Ds D = j from p1]
        have HQ := Lib.hid (hbadQ.out (by rw [hb1.out]; exact any_true_get hj p2))
        clear p1 p2 p3 hnext hbadQ hb1
        go_wp2
        go_ret
        exact ⟨ret_int HQ.out.symm, hbl5⟩
    · have HQ : Hid (Q = 0) := by
        show _ = _
        rw [hQ1.out, if_neg]
        rw [Bool.not_eq_true]
        exact any_range_false fun j hj => hok.out j (by omega)
      go_wp2
      go_ret
      exact ⟨ret_int HQ.out.symm, hbl⟩
end Go.Proofs.YtedealljhmokoaaDoor

namespace Go.Proofs.YtedealljhmokoaaDoor
open Go.ChangeShapes Go.WideShapes Go.ChangeAt Go.RowKit
set_option linter.unusedVariables false
open Go.Maps
set_option linter.unusedSimpArgs false
theorem exists_least {p : Nat → Prop} : ∀ n, p n → ∃ m, p m ∧ ∀ k, p k → m ≤ k := by
  intro n
  induction n using Nat.strongRecOn with
  | _ n ih =>
    intro hn
    by_cases h : ∃ k, p k ∧ k < n
    · obtain ⟨k, hk, hlt⟩ := h
      exact ih k hlt hk
    · exact ⟨n, hn, fun k hk => Nat.le_of_not_lt fun hlt => h ⟨k, hk, hlt⟩⟩
open Classical in
noncomputable def least (p : Nat → Prop) : Nat := if h : ∃ m, p m ∧ ∀ k, p k → m ≤ k then h.choose else 0
theorem least_spec {p : Nat → Prop} {n : Nat} (h : p n) : p (least p) ∧ ∀ k, p k → least p ≤ k := by
  have h2 := exists_least n h
  unfold least
  rw [dif_pos h2]
  exact h2.choose_spec
/-- a digest in a row -/
structure DV where
  A : Option Addr
  c : Nat
  x : List UInt8
def encV (d : DV) : Value := .slice d.A d.x.length d.c
theorem encV_one (d : DV) : (encV d).oneCell' = true := rfl
abbrev OwnDV := OwnVec encV 25
theorem elemDV : Elem1 Tryd.prog 35 25 24 := elem1 (z := .slice none 0 0) Tryd.underlying35 (by kernel_rfl) rfl
theorem RDigs.rows {h : View} {v : Value} {xs : List (List UInt8)} (hr : RDigs h v xs) : ∃ vs : List DV, vs.map (·.x) = xs ∧ RVec encV 24 h v vs ∧ ∀ d ∈ vs, RBytes h (encV d) d.x := by
  obtain ⟨A, c, rfl, h1, h2, h3, h4, h5⟩ := hr
  have hex : ∀ i : Fin xs.length, ∃ d : DV, d.x = xs[i] ∧ RBytes h (encV d) d.x ∧ ∀ b o, A = some ⟨b, o, none⟩ → h ⟨b, o + i.val, none⟩ = some (encV d) := fun i => by
    obtain ⟨b, o, ea, hc⟩ := h5 (by have := i.isLt; omega)
    obtain ⟨cs, hl, hcell, d, rfl, hd⟩ := hc i.val i.isLt
    obtain ⟨A', c', rfl, hf⟩ := id hd
    refine ⟨⟨A', c', xs[i]⟩, rfl, hd, fun b' o' e => ?_⟩
    rw [ea] at e
    injection e with e
    injection e with e1 e2 _
    subst e1 e2
    have := hcell 0 (by omega)
    rw [Nat.mul_one, Nat.add_zero] at this
    exact this
  refine ⟨List.ofFn fun i => Classical.choose (hex i), ?_, ?_, ?_⟩
  · apply List.ext_getElem
    · simp
    · intro i q1 q2
      simp only [List.getElem_map, List.getElem_ofFn]
      exact (Classical.choose_spec (hex ⟨i, q2⟩)).1
  · refine ⟨A, c, by simp, by simpa using h1, h2, by simpa using h3, h4, fun hp => ?_⟩
    simp at hp
    obtain ⟨b, o, ea, _⟩ := h5 hp
    refine ⟨b, o, ea, fun i hi => ?_⟩
    simp at hi
    simp only [List.getElem_ofFn]
    exact (Classical.choose_spec (hex ⟨i, hi⟩)).2.2 b o ea
  · intro d hd
    obtain ⟨i, rfl⟩ := List.mem_ofFn.1 hd
    exact (Classical.choose_spec (hex i)).2.1
theorem OwnVec.pop {α : Type} {enc : α → Value} {e : TypeId} {w : World} {b : Nat} {A : Option Addr} {n c : Nat} {xs : List α} {x : α} (h : OwnVec enc e w b (.slice A (n + 1) c) (xs ++ [x])) (hn : n = xs.length) : OwnVec enc e w b (.slice A n c) xs := by
  obtain ⟨h⟩ := h
  rcases h.2 with ⟨h1, h2⟩ | ⟨g, cap, cur, h1, h2, h3, h4, h5, h6, h7⟩
  · simp at h2
  · injection h1 with e1 e2 e3
    subst e1 e3
    refine ⟨by simp, .inr ⟨g, c, cur, by rw [hn], h2, h3, by simp at h4; omega, h5, h6, ?_⟩⟩
    have h8 := congrArg (List.take (xs.length * 1)) h7
    rw [List.take_take] at h8
    simp at h8
    simpa using h8
theorem intKey : Keyed Tryd.prog 3 := int_keyed Tryd.underlying3
def keysI (m : List Nat) : List Lit := m.map fun n : Nat => Lit.int .i64 n
theorem has_keysI (m : List Nat) (j : Nat) : Maps.has (setOf (H := Unit) (.agg []) (keysI m)) (.int .i64 j) = decide (j ∈ m) := by
  rw [has_setOf _ _ _ (by
    intro x hx
    unfold keysI at hx
    obtain ⟨y, _, rfl⟩ := List.mem_map.1 hx
    trivial)]
  unfold keysI
  rw [List.any_map]
  rw [Bool.eq_iff_iff]
  simp only [List.any_eq_true, decide_eq_true_eq, Function.comp]
  constructor
  · rintro ⟨y, hy, he⟩
    have : y = j := by
      have h2 : (y : Int) = j := by simpa [Lit.sameKey] using he
      omega
    rw [← this]; exact hy
  · intro hj
    exact ⟨j, hj, by simp [Lit.sameKey]⟩
theorem key_int {j : Nat} (h : j ≤ 140737488355328) : keyOf Tryd.prog 3 (.int .i64 j) = some (.int .i64 j) :=
  keyOf_int_mk Tryd.underlying3 (by
    have e1 : IntKind.i64.min = -9223372036854775808 := by decide
    have e2 : IntKind.i64.max = 9223372036854775807 := by decide
    show (decide (IntKind.i64.min ≤ (j : Int)) && decide ((j : Int) ≤ IntKind.i64.max)) = true
    rw [e1, e2]
    simp
    omega)
end Go.Proofs.YtedealljhmokoaaDoor
