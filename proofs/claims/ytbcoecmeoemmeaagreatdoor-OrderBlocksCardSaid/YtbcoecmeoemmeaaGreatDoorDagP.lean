/- Dags, in plain words: places, rounds, what stands on what. -/
import Derived.Test.YtbcoecmeoemmeaaGreatDoorOpenCert
namespace Go.Proofs.YtbcoecmeoemmeaaGreatDoor
open Go.ChangeShapes Go.WideShapes Go.ChangeAt Go.RowKit
set_option linter.unusedVariables false
/-- the place of the first one; -1: there is none -/
def idxI {α : Type} (p : α → Bool) (l : List α) : Int := match l.findIdx? p with | some i => i | none => -1
theorem idxI_found {α : Type} {p : α → Bool} {l : List α} {k : Nat} (hk : k < l.length) (h : ∀ j (hj : j < l.length), j < k → p l[j] = false) (hp : p l[k] = true) : idxI p l = k := by
  have : l.findIdx? p = some k := by
    rw [List.findIdx?_eq_some_iff_getElem]
    exact ⟨hk, hp, fun j hjk => by simp [h j (by omega) hjk]⟩
  simp [idxI, this]
theorem idxI_none {α : Type} {p : α → Bool} {l : List α} (h : ∀ j (hj : j < l.length), p l[j] = false) : idxI p l = -1 := by
  have : l.findIdx? p = none := by
    rw [List.findIdx?_eq_none_iff]
    intro x hx
    obtain ⟨i, hi, rfl⟩ := List.getElem_of_mem hx
    exact h i hi
  simp [idxI, this]
theorem idxI_cases {α : Type} (p : α → Bool) (l : List α) : (idxI p l = -1 ∧ l.any p = false) ∨ ∃ k : Nat, ∃ hk : k < l.length, idxI p l = k ∧ p l[k] = true ∧ ∀ j (hj : j < l.length), j < k → p l[j] = false := by
  unfold idxI
  split
  · rename_i i hi
    rw [List.findIdx?_eq_some_iff_getElem] at hi
    obtain ⟨h1, h2, h3⟩ := hi
    exact .inr ⟨i, h1, rfl, h2, fun j hj hji => by simpa using h3 j hji⟩
  · rename_i hi
    rw [List.findIdx?_eq_none_iff] at hi
    refine .inl ⟨rfl, ?_⟩
    rw [List.any_eq_false]
    intro x hx
    simp [hi x hx]
theorem idxI_any {α : Type} (p : α → Bool) (l : List α) : decide (0 ≤ idxI p l) = l.any p := by
  rcases idxI_cases p l with ⟨h1, h2⟩ | ⟨k, hk, h1, h2, _⟩
  · rw [h1, h2]; rfl
  · rw [h1]
    have : l.any p = true := List.any_eq_true.2 ⟨_, List.getElem_mem hk, h2⟩
    rw [this]; exact decide_eq_true (by omega)

section
variable (dg : Hdr → List UInt8)
def dsOf (l : List Crt) : List (List UInt8) := l.map fun c => dg c.hdr
def placeI (ds : List (List UInt8)) (d : List UInt8) : Int := idxI (· == d) ds
def isCert (a r : Int) (c : Crt) : Bool := c.hdr.author == a && c.hdr.round == r
def certI (l : List Crt) (a r : Int) : Int := idxI (isCert a r) l
def taken (l : List Crt) (h : Hdr) : Bool := l.any (isCert h.author h.round)
/-- the parent stands there, of another round than that ahead -/
def wrongP (l : List Crt) (ds : List (List UInt8)) (r : Int) (p : List UInt8) : Bool := match l[(placeI ds p).toNat]? with | some c => decide (0 ≤ placeI ds p) && c.hdr.round != r - 1 | none => false
def missW (l : List Crt) (ds : List (List UInt8)) (h : Hdr) : Bool := h.parents.any (wrongP l ds h.round)
def missN (ds : List (List UInt8)) (h : Hdr) : List (List UInt8) := h.parents.filter fun p => decide (placeI ds p < 0)
def parF (l : List Crt) (ds : List (List UInt8)) (h : Hdr) : Int := if missW l ds h then 9 else if (missN ds h).length = 0 then 0 else 8
variable (cF : Crt → Int)
def badC (l : List Crt) (i : Nat) : Bool := match l[i]? with | some c => taken (l.take i) c.hdr || decide (parF (l.take i) ((dsOf dg l).take i) c.hdr ≠ 0) | none => false
def dagF (l : List Crt) : Int := if 400 < l.length then 12 else if l.any (fun c => cF c != 0) then 12 else if (List.range l.length).any (badC dg l) then 12 else 0


def atRound (l : List Crt) (r : Int) : List Crt := (List.range 4).filterMap fun n : Nat => l.find? (isCert n r)
def inRound (l : List Crt) (r : Int) : List Crt := l.filter fun c => c.hdr.round == r
def Lone (l : List Crt) : Prop := l.Pairwise fun x y => ¬ (x.hdr.author = y.hdr.author ∧ x.hdr.round = y.hdr.round)
def Auth (l : List Crt) : Prop := ∀ c ∈ l, 0 ≤ c.hdr.author ∧ c.hdr.author ≤ 3
theorem isCert_iff {a r : Int} {c : Crt} : isCert a r c = true ↔ c.hdr.author = a ∧ c.hdr.round = r := by simp [isCert]
theorem lone_same {l : List Crt} (h : Lone l) {x y : Crt} (hx : x ∈ l) (hy : y ∈ l) (h1 : x.hdr.author = y.hdr.author) (h2 : x.hdr.round = y.hdr.round) : x = y := by
  induction l with
  | nil => cases hx
  | cons c l ih =>
    unfold Lone at h
    rw [List.pairwise_cons] at h
    rcases List.mem_cons.1 hx with rfl | hx' <;> rcases List.mem_cons.1 hy with rfl | hy'
    · rfl
    · exact absurd ⟨h1, h2⟩ (h.1 y hy')
    · exact absurd ⟨h1.symm, h2.symm⟩ (h.1 x hx')
    · exact ih h.2 hx' hy'
theorem mem_atRound {l : List Crt} {r : Int} (hL : Lone l) (hA : Auth l) {c : Crt} : c ∈ atRound l r ↔ c ∈ inRound l r := by
  unfold atRound inRound
  rw [List.mem_filterMap, List.mem_filter]
  constructor
  · rintro ⟨n, _, hf⟩
    have h1 := List.mem_of_find?_eq_some hf
    have h2 := isCert_iff.1 (List.find?_some hf)
    exact ⟨h1, by simp [h2.2]⟩
  · rintro ⟨h1, h2⟩
    have h2 : c.hdr.round = r := by simpa using h2
    have ha := hA c h1
    refine ⟨c.hdr.author.toNat, List.mem_range.2 (by omega), ?_⟩
    have hn : ((c.hdr.author.toNat : Nat) : Int) = c.hdr.author := by omega
    rw [hn]
    cases hf : l.find? (isCert c.hdr.author r) with
    | none =>
      have := List.find?_eq_none.1 hf c h1
      exact absurd (isCert_iff.2 ⟨rfl, h2⟩) (by simpa using this)
    | some d =>
      have k1 := List.mem_of_find?_eq_some hf
      have k2 := isCert_iff.1 (List.find?_some hf)
      rw [lone_same hL k1 h1 k2.1 (by rw [k2.2, h2])]
theorem atRound_sorted (l : List Crt) (r : Int) : (atRound l r).Pairwise fun x y => x.hdr.author < y.hdr.author := by
  unfold atRound
  rw [List.pairwise_filterMap]
  refine List.Pairwise.imp ?_ List.pairwise_lt_range
  intro a b hab x hx y hy
  have h1 := isCert_iff.1 (List.find?_some hx)
  have h2 := isCert_iff.1 (List.find?_some hy)
  rw [h1.1, h2.1]; omega
theorem nodup_of_lt {l : List Crt} (h : l.Pairwise fun x y => x.hdr.author < y.hdr.author) : l.Nodup :=
  h.imp fun {a b} hab e => by rw [e] at hab; omega
theorem nodup_inRound {l : List Crt} (r : Int) (hL : Lone l) : (inRound l r).Nodup := by
  unfold inRound
  have h : l.Nodup := List.Pairwise.imp (fun {a b} hab e => hab (by rw [e]; exact ⟨rfl, rfl⟩)) hL
  exact List.Pairwise.sublist List.filter_sublist h
theorem atRound_perm {l : List Crt} (r : Int) (hL : Lone l) (hA : Auth l) : (atRound l r).Perm (inRound l r) :=
  (List.perm_ext_iff_of_nodup (nodup_of_lt (atRound_sorted l r)) (nodup_inRound r hL)).2 fun _ => mem_atRound hL hA
/-- what is sorted by author of a round's certificates -/
theorem round_sorted {l out : List Crt} {r : Int} (hL : Lone l) (hA : Auth l) (hp : out.Perm (inRound l r)) (hs : out.Pairwise fun x y => x.hdr.author ≤ y.hdr.author) : out = atRound l r := by
  refine List.Perm.eq_of_pairwise (le := fun x y => x.hdr.author ≤ y.hdr.author) (fun a b ha hb h1 h2 => ?_) hs ((atRound_sorted l r).imp fun {a b} h => by omega) (hp.trans (atRound_perm r hL hA).symm)
  have ha' := hp.mem_iff.1 ha
  have hb' := (mem_atRound hL hA).1 hb
  unfold inRound at ha' hb'
  rw [List.mem_filter] at ha' hb'
  exact lone_same hL ha'.1 hb'.1 (by omega) (by have := ha'.2; have := hb'.2; simp at *; omega)
theorem atRound_len {l : List Crt} (r : Int) (hL : Lone l) (hA : Auth l) : (atRound l r).length = (inRound l r).length := (atRound_perm r hL hA).length_eq
theorem atRound_le (l : List Crt) (r : Int) : (atRound l r).length ≤ 4 := by
  unfold atRound
  exact Nat.le_trans (List.length_filterMap_le _ _) (by simp)
/-- a dag that may be has one certificate of an author and a round -/
theorem badC_lone {dg : Hdr → List UInt8} {l : List Crt} (h : ∀ j, j < l.length → badC dg l j = false) : Lone l := by
  unfold Lone
  rw [List.pairwise_iff_getElem]
  intro i j hi hj hij hsame
  have hb := h j hj
  unfold badC at hb
  rw [List.getElem?_eq_getElem hj] at hb
  simp only [Bool.or_eq_false_iff] at hb
  have := hb.1
  unfold taken at this
  rw [List.any_eq_false] at this
  have hm : l[i] ∈ l.take j := by
    rw [List.mem_take_iff_getElem]
    exact ⟨i, by omega, rfl⟩
  exact this _ hm (isCert_iff.2 hsame)
theorem badC_none {dg : Hdr → List UInt8} {l : List Crt} (h : (List.range l.length).any (badC dg l) = false) : ∀ j, j < l.length → badC dg l j = false := fun j hj => by
  rw [List.any_eq_false] at h
  simpa using h j (List.mem_range.2 hj)
theorem dagF_zero {dg : Hdr → List UInt8} {cF : Crt → Int} {l : List Crt} (h : dagF dg cF l = 0) : l.length ≤ 400 ∧ (∀ c ∈ l, cF c = 0) ∧ ∀ j, j < l.length → badC dg l j = false := by
  unfold dagF at h
  split at h
  · cases h
  · split at h
    · cases h
    · split at h
      · cases h
      · rename_i h1 h2 h3
        refine ⟨by omega, fun c hc => ?_, badC_none (by simpa using h3)⟩
        rw [Bool.not_eq_true, List.any_eq_false] at h2
        simpa using h2 c hc
/-- the next round -/
def nextFrom (l : List Crt) : Nat → Int → Int
  | 0, r => r
  | n + 1, r => if 3 ≤ (atRound l r).length then nextFrom l n (r + 1) else r
def nextR (l : List Crt) : Int := nextFrom l (l.length + 1) 1
theorem inRound_pos {l : List Crt} {r : Int} (h : 0 < (inRound l r).length) : ∃ c ∈ l, c.hdr.round = r := by
  obtain ⟨c, hc⟩ := List.exists_mem_of_length_pos h
  unfold inRound at hc
  rw [List.mem_filter] at hc
  exact ⟨c, hc.1, by simpa using hc.2⟩
theorem nextFrom_is {l : List Crt} : ∀ (n : Nat) (r : Int) (k : Nat), k ≤ n → (∀ j : Nat, j < k → 3 ≤ (atRound l (r + j)).length) → nextFrom l n r = nextFrom l (n - k) (r + k)
  | n, r, 0, _, _ => by simp
  | 0, r, k + 1, h, _ => by omega
  | n + 1, r, k + 1, h, hj => by
    have h0 := hj 0 (by omega)
    simp only [Int.ofNat_zero, Int.add_zero] at h0
    rw [nextFrom, if_pos h0, nextFrom_is n (r + 1) k (by omega) (fun j hjk => by have := hj (j + 1) (by omega); rw [show r + ((j + 1 : Nat) : Int) = r + 1 + j by omega] at this; exact this)]
    rw [show n + 1 - (k + 1) = n - k by omega, show r + ((k + 1 : Nat) : Int) = r + 1 + k by omega]
/-- many rounds of three take many certificates -/
theorem rounds_len {l : List Crt} : ∀ (k : Nat) (r : Int), (∀ j : Nat, j < k → 1 ≤ (inRound l (r + j)).length) → k ≤ l.length := by
  intro k
  induction k generalizing l with
  | zero => intro r _; omega
  | succ k ih =>
    intro r h
    obtain ⟨c, hc, hr⟩ := inRound_pos (h k (by omega))
    have hne : c ∈ l := hc
    have hl : (l.filter fun x => x.hdr.round != r + k).length + 1 ≤ l.length := by
      have h1 := List.length_filter_lt_length_iff_exists (p := fun x : Crt => x.hdr.round != r + k) (l := l)
      have := h1.2 ⟨c, hc, by simp [hr]⟩
      omega
    have := ih (l := l.filter fun x => x.hdr.round != r + k) r (fun j hj => by
      have h1 := h j (by omega)
      have e : inRound (l.filter fun x => x.hdr.round != r + k) (r + j) = inRound l (r + j) := by
        unfold inRound
        rw [List.filter_filter]
        refine List.filter_congr fun x _ => ?_
        by_cases hx : x.hdr.round = r + j
        · simp [hx]; omega
        · simp [hx]
      rw [e]; exact h1)
    omega
/-- where a loop over the rounds stops -/
theorem nextR_is {l : List Crt} (hL : Lone l) (hA : Auth l) {k : Nat} (h : ∀ j : Nat, j < k → 3 ≤ (atRound l (1 + j)).length) (hk : (atRound l (1 + k)).length < 3) : nextR l = 1 + k := by
  have hkl : k ≤ l.length := rounds_len k 1 fun j hj => by have := h j hj; rw [atRound_len _ hL hA] at this; omega
  unfold nextR
  rw [nextFrom_is (l.length + 1) 1 k (by omega) h, show l.length + 1 - k = (l.length - k) + 1 by omega, nextFrom, if_neg (by omega)]
end
end Go.Proofs.YtbcoecmeoemmeaaGreatDoor
