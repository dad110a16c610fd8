/- The law OrderBatches: order.CheckBatches answers what the document says, at every argument: no condition; its card: the tables tied to the text of the program. -/
import Derived.Test.YtedealljhmokoaaDoorBatch
import Derived.Test.YtedealljhmokoaaDoorOpenBat
import Derived.Test.YtedealljhmokoaaDoorChg2
import Derived.Test.YtedealljhmokoaaDoorHead2
import Derived.Deep.DeepCutAuto
import Derived.Deep.CutBlock
import Derived.Test.YtedealljhmokoaaDoorOpenCert
import Derived.Test.YtedealljhmokoaaDoorCopy
import Derived.WalkSpells
import Derived.Test.YtedealljhmokoaaDoorCert
import Derived.Test.YtedealljhmokoaaDoorDig2
import Derived.Shelf.Abstract
import Derived.Test.YtedealljhmokoaaDoorStr
import Derived.StringKeys
import Derived.Maps.OwnSet
import Derived.Maps.AppendAt
import Derived.Test.YtedealljhmokoaaDoorOwn
import Derived.Test.YtedealljhmokoaaDoorOpen
import Derived.Test.YtedealljhmokoaaDoorLaid
import Derived.Test.YtedealljhmokoaaDoorCards
import Derived.Test.YtedealljhmokoaaDoorTie
import Derived.SevenTiedAt
namespace Go.Proofs.YtedealljhmokoaaDoor
open Go.ChangeShapes Go.WideShapes Go.ChangeAt Go.RowKit
set_option linter.unusedVariables false
set_option linter.unusedSimpArgs false
/-- a batch of texts that are no longer than a machine's -/
def RBat (h : View) (cs : List Value) (x : Bat) : Prop := ∃ v, cs = [.int .i64 x.author, .int .i64 x.number, v] ∧ RTexts h v x.txs ∧ ∀ s ∈ x.txs, s.size ≤ 140737488355328
theorem RBat.mono : Mono RBat := fun h h' cs x ⟨v, e, h1, h2⟩ hle => ⟨v, e, h1.mono hle, h2⟩
abbrev RBats := RSl 3 RBat 40
theorem elemBat : Elem Tryd.prog 31 24 3 40 := elemN (z := .agg #[.int .i64 0, .int .i64 0, .slice none 0 0]) Tryd.underlying31 (by kernel_rfl) rfl (by decide)
theorem RBats.at {h : View} {A : Option Addr} {n c : Nat} {xs : List Bat} (hr : RBats h (.slice A n c) xs) : n = xs.length ∧ n ≤ c ∧ n * 40 ≤ 140737488355328 ∧ ∀ k (hk : k < xs.length), ∃ b o v, A = some ⟨b, o, none⟩ ∧ h ⟨b, o + k * 3, none⟩ = some (.int .i64 xs[k].author) ∧ h ⟨b, o + k * 3 + 1, none⟩ = some (.int .i64 xs[k].number) ∧ h ⟨b, o + k * 3 + 2, none⟩ = some v ∧ RTexts h v xs[k].txs ∧ ∀ s ∈ xs[k].txs, s.size ≤ 140737488355328 := by
  obtain ⟨A', c', e, h1, _, h2, _, h3⟩ := hr
  injection e with e1 e2 e3
  subst e1 e2 e3
  refine ⟨rfl, h1, h2, fun k hk => ?_⟩
  obtain ⟨b, o, ea, hc⟩ := h3 (by omega)
  obtain ⟨cs, hl, hcs, v, rfl, hb, hs⟩ := hc k hk
  have c0 := hcs 0 (by omega)
  have c1 := hcs 1 (by omega)
  have c2 := hcs 2 (by omega)
  simp at c0 c1 c2
  exact ⟨b, o, v, ea, c0, c1, c2, hb, hs⟩
theorem RBats.form {h : View} {v : Value} {xs : List Bat} (hr : RBats h v xs) : ∃ A c, v = .slice A xs.length c := by
  obtain ⟨A, c, e, _⟩ := hr
  exact ⟨A, c, e⟩
theorem RBats.len {h : View} {v : Value} {xs : List Bat} (hr : RBats h v xs) : xs.length * 40 ≤ 140737488355328 := by
  obtain ⟨_, _, _, _, _, h, _⟩ := hr
  exact h
theorem opens_bats : OpensTo Tryd.prog 31 (fun h cs (xs : List Bat) => ∃ v, cs = [v] ∧ RBats h v xs) :=
  opens_sl Tryd.underlying31 (by kernel_rfl) (by decide) (by kernel_rfl) (R := RBat) (by
    intro H enc w fuel cs x h hw
    obtain ⟨x, v, e, r, hs⟩ := opens_bat H enc w fuel cs x h hw
    exact ⟨x, v, e, r, fun s hs' => reach_le (hs s hs')⟩)
set_option maxHeartbeats 2000000 in
set_option maxRecDepth 100000 in
theorem batches_any (v : Value) (l : List Bat) (w : World) (hv : RBats w.cell? v l) :
    Calls Tryd.prog 19 #[v] w fun e w' => ∃ v', e = .returned v' ∧ Below w.heap.size w w' ∧ OwnSl 3 (RFrom w.heap.size RBat) 24 w' w.heap.size v' l := by
  obtain ⟨A, c, rfl, _⟩ := id hv
  obtain ⟨_, hcap, hlen, hel⟩ := RBats.at hv
  have Hel := Lib.hid hel
  clear hel hv
  go_enter Tryd.func19, Tryd.ntmps19
  go_wp2
  go_loopw [3, 4, 5] (fun v i _ wr => ∃ k : Nat, k ≤ l.length ∧ i = .int .i64 k ∧ OwnSl 3 (RFrom w.heap.size RBat) 24 wr w.heap.size v (l.take k) ∧ Below w.heap.size w wr) (fun _ i _ _ => l.length - (intOf i).toNat)
  case atStart => exact ⟨0, Nat.zero_le _, rfl, OwnSl.nil _ _ _ _ _, Below.refl _ _⟩
  case round =>
    obtain ⟨k, hk, rfl, hown, hbl⟩ := hrel
    have hbs := hbl.size
    by_cases hlt : k < l.length
    · obtain ⟨b0, o0, d, rfl, e0, e1, e2, hd, hs⟩ := Hel.out k hlt
      have c0 := vle_below hbl _ _ e0
      have c1 := vle_below hbl _ _ e1
      have c2 := vle_below hbl _ _ e2
      have hd' := hd.mono (vle_below hbl)
      have Hn := Lib.hid (List.take_succ_eq_append_getElem hlt)
      have Hlk := Lib.hid (show (l.take k).length = k by simp; omega)
      have Hs := Lib.hid hs
      have hdl := Lib.hid (show l[k].txs.length * 16 ≤ 140737488355328 by obtain ⟨_, _, _, _, _, h, _⟩ := hd; exact h)
      clear e0 e1 e2 hd hs
      generalize l.take k = L at hown Hn Hlk
      generalize l[k] = y at *
      go_wp2_with fail
      refine (batch_any _ _ _ _ _ hd').mono ?_
      rintro e w1 ⟨d', rfl, hb1, o1⟩
      have hown1 := hown.kept (RFrom.mono RBat.mono) hb1
      have hbl1 : Below w.heap.size w w1 := hbl.trans (hb1.mono hbs)
      have hR : RFrom w.heap.size RBat (View.but w1.cell? u3.ownBlock) [.int .i64 y.author, .int .i64 y.number, d'] y :=
        ⟨d', rfl, o1.reads_from hdl.out hbs (fun g hg => (hown.lt g hg).2), Hs.out⟩
      have hlto := hown.lt
      have hs1 := hb1.size
      obtain ⟨A', c', rfl⟩ := o1.form
      clear c0 c1 c2 hd' o1
      go_upto_region 6 with fail
      refine one_block _ _ _ (fun W => Code.wp _ _ _ _ W) (fun W2 hX hsX hbX => ?_)
      have hbX2 := hbl1.trans (hbX.mono hbl1.size)
      have hown2 := hown1.kept (RFrom.mono RBat.mono) hbX
      have hR2 := RFrom.mono RBat.mono _ _ _ _ hR (but_below hbX u3.ownBlock)
      have x0 := hX.cell 0; have x1 := hX.cell 1; have x2 := hX.cell 2
      simp at x0 x1 x2
      clear hsX hown hown1 hR
      go_wp2_with (at_builtin; go_loud (refine wpList_append_sl1 (n := 140737488355328) (RFrom.mono RBat.mono) y [.int .i64 y.author, .int .i64 y.number, .slice A' y.txs.length c'] elemBat _ _ rfl rfl rfl hown2 hbX2 hbX2.size rfl rfl rfl rfl hR2 (Nat.le_refl _) (by rw [Hlk.out]; omega) (by rw [Hlk.out]; omega) ?_))
      intro v' w2 ho hbl2 _
      rw [← Hn.out] at ho
      clear hown2 hR2 x0 x1 x2
      go_wp2
      go_roundw
      case rel => exact ⟨k + 1, by omega, by go_num, ho, hbl2⟩
      case measure => simp [intOf]; omega
    · have : k = l.length := by omega
      subst this
      go_wp2
      go_ret
      exact ⟨_, rfl, hbl, by simpa using hown⟩
end Go.Proofs.YtedealljhmokoaaDoor

namespace Go.Proofs.YtedealljhmokoaaDoor
open Go.ChangeShapes Go.WideShapes Go.ChangeAt Go.RowKit
set_option linter.unusedVariables false
/-- the place of the first one; -1: there is none -/
def idxI {α : Type} (p : α → Bool) (l : List α) : Int := match l.findIdx? p with | some i => i | none => -1
theorem idxI_found {α : Type} {p : α → Bool} {l : List α} {k : Nat} (hk : k < l.length) (h : ∀ j (hj : j < l.length), j < k → p l[j] = false) (hp : p l[k] = true) : idxI p l = k := by
  have : l.findIdx? p = some k := by
    rw [List.findIdx?_eq_some_iff_getElem]
    exact ⟨hk, hp, fun j hjk => by simp [h j (by omega) hjk]⟩
  simp [idxI, this]
theorem idxI_none {α : Type} {p : α → Bool} {l : List α} (h : ∀ j (hj : j < l.length), p l[j] = false) : idxI p l = -1 := by
  have : l.findIdx? p = none := by
    rw [List.findIdx?_eq_none_iff]
    intro x hx
    obtain ⟨i, hi, rfl⟩ := List.getElem_of_mem hx
    exact h i hi
  simp [idxI, this]
theorem idxI_cases {α : Type} (p : α → Bool) (l : List α) : (idxI p l = -1 ∧ l.any p = false) ∨ ∃ k : Nat, ∃ hk : k < l.length, idxI p l = k ∧ p l[k] = true ∧ ∀ j (hj : j < l.length), j < k → p l[j] = false := by
  unfold idxI
  split
  · rename_i i hi
    rw [List.findIdx?_eq_some_iff_getElem] at hi
    obtain ⟨h1, h2, h3⟩ := hi
    exact .inr ⟨i, h1, rfl, h2, fun j hj hji => by simpa using h3 j hji⟩
  · rename_i hi
    rw [List.findIdx?_eq_none_iff] at hi
    refine .inl ⟨rfl, ?_⟩
    rw [List.any_eq_false]
    intro x hx
    simp [hi x hx]
theorem idxI_any {α : Type} (p : α → Bool) (l : List α) : decide (0 ≤ idxI p l) = l.any p := by
  rcases idxI_cases p l with ⟨h1, h2⟩ | ⟨k, hk, h1, h2, _⟩
  · rw [h1, h2]; rfl
  · rw [h1]
    have : l.any p = true := List.any_eq_true.2 ⟨_, List.getElem_mem hk, h2⟩
    rw [this]; exact decide_eq_true (by omega)

section
variable (dg : Hdr → List UInt8)
def dsOf (l : List Crt) : List (List UInt8) := l.map fun c => dg c.hdr
def placeI (ds : List (List UInt8)) (d : List UInt8) : Int := idxI (· == d) ds
def isCert (a r : Int) (c : Crt) : Bool := c.hdr.author == a && c.hdr.round == r
def certI (l : List Crt) (a r : Int) : Int := idxI (isCert a r) l
def taken (l : List Crt) (h : Hdr) : Bool := l.any (isCert h.author h.round)
/-- the parent stands there, of another round than that ahead -/
def wrongP (l : List Crt) (ds : List (List UInt8)) (r : Int) (p : List UInt8) : Bool := match l[(placeI ds p).toNat]? with | some c => decide (0 ≤ placeI ds p) && c.hdr.round != r - 1 | none => false
def missW (l : List Crt) (ds : List (List UInt8)) (h : Hdr) : Bool := h.parents.any (wrongP l ds h.round)
def missN (ds : List (List UInt8)) (h : Hdr) : List (List UInt8) := h.parents.filter fun p => decide (placeI ds p < 0)
def parF (l : List Crt) (ds : List (List UInt8)) (h : Hdr) : Int := if missW l ds h then 9 else if (missN ds h).length = 0 then 0 else 8
variable (cF : Crt → Int)
def badC (l : List Crt) (i : Nat) : Bool := match l[i]? with | some c => taken (l.take i) c.hdr || decide (parF (l.take i) ((dsOf dg l).take i) c.hdr ≠ 0) | none => false
def dagF (l : List Crt) : Int := if 400 < l.length then 12 else if l.any (fun c => cF c != 0) then 12 else if (List.range l.length).any (badC dg l) then 12 else 0


def atRound (l : List Crt) (r : Int) : List Crt := (List.range 4).filterMap fun n : Nat => l.find? (isCert n r)
def inRound (l : List Crt) (r : Int) : List Crt := l.filter fun c => c.hdr.round == r
def Lone (l : List Crt) : Prop := l.Pairwise fun x y => ¬ (x.hdr.author = y.hdr.author ∧ x.hdr.round = y.hdr.round)
def Auth (l : List Crt) : Prop := ∀ c ∈ l, 0 ≤ c.hdr.author ∧ c.hdr.author ≤ 3
theorem isCert_iff {a r : Int} {c : Crt} : isCert a r c = true ↔ c.hdr.author = a ∧ c.hdr.round = r := by simp [isCert]
theorem lone_same {l : List Crt} (h : Lone l) {x y : Crt} (hx : x ∈ l) (hy : y ∈ l) (h1 : x.hdr.author = y.hdr.author) (h2 : x.hdr.round = y.hdr.round) : x = y := by
  induction l with
  | nil => cases hx
  | cons c l ih =>
    unfold Lone at h
    rw [List.pairwise_cons] at h
    rcases List.mem_cons.1 hx with rfl | hx' <;> rcases List.mem_cons.1 hy with rfl | hy'
    · rfl
    · exact absurd ⟨h1, h2⟩ (h.1 y hy')
    · exact absurd ⟨h1.symm, h2.symm⟩ (h.1 x hx')
    · exact ih h.2 hx' hy'
theorem mem_atRound {l : List Crt} {r : Int} (hL : Lone l) (hA : Auth l) {c : Crt} : c ∈ atRound l r ↔ c ∈ inRound l r := by
  unfold atRound inRound
  rw [List.mem_filterMap, List.mem_filter]
  constructor
  · rintro ⟨n, _, hf⟩
    have h1 := List.mem_of_find?_eq_some hf
    have h2 := isCert_iff.1 (List.find?_some hf)
    exact ⟨h1, by simp [h2.2]⟩
  · rintro ⟨h1, h2⟩
    have h2 : c.hdr.round = r := by simpa using h2
    have ha := hA c h1
    refine ⟨c.hdr.author.toNat, List.mem_range.2 (by omega), ?_⟩
    have hn : ((c.hdr.author.toNat : Nat) : Int) = c.hdr.author := by omega
    rw [hn]
    cases hf : l.find? (isCert c.hdr.author r) with
    | none =>
      have := List.find?_eq_none.1 hf c h1
      exact absurd (isCert_iff.2 ⟨rfl, h2⟩) (by simpa using this)
    | some d =>
      have k1 := List.mem_of_find?_eq_some hf
      have k2 := isCert_iff.1 (List.find?_some hf)
      rw [lone_same hL k1 h1 k2.1 (by rw [k2.2, h2])]
theorem atRound_sorted (l : List Crt) (r : Int) : (atRound l r).Pairwise fun x y => x.hdr.author < y.hdr.author := by
  unfold atRound
  rw [List.pairwise_filterMap]
  refine List.Pairwise.imp ?_ List.pairwise_lt_range
  intro a b hab x hx y hy
  have h1 := isCert_iff.1 (List.find?_some hx)
  have h2 := isCert_iff.1 (List.find?_some hy)
  rw [h1.1, h2.1]; omega
theorem nodup_of_lt {l : List Crt} (h : l.Pairwise fun x y => x.hdr.author < y.hdr.author) : l.Nodup :=
  h.imp fun {a b} hab e => by rw [e] at hab; omega
theorem nodup_inRound {l : List Crt} (r : Int) (hL : Lone l) : (inRound l r).Nodup := by
  unfold inRound
  have h : l.Nodup := List.Pairwise.imp (fun {a b} hab e => hab (by rw [e]; exact ⟨rfl, rfl⟩)) hL
  exact List.Pairwise.sublist List.filter_sublist h
theorem atRound_perm {l : List Crt} (r : Int) (hL : Lone l) (hA : Auth l) : (atRound l r).Perm (inRound l r) :=
  (List.perm_ext_iff_of_nodup (nodup_of_lt (atRound_sorted l r)) (nodup_inRound r hL)).2 fun _ => mem_atRound hL hA
/-- what is sorted by author of a round's certificates -/
theorem round_sorted {l out : List Crt} {r : Int} (hL : Lone l) (hA : Auth l) (hp : out.Perm (inRound l r)) (hs : out.Pairwise fun x y => x.hdr.author ≤ y.hdr.author) : out = atRound l r := by
  refine List.Perm.eq_of_pairwise (le := fun x y => x.hdr.author ≤ y.hdr.author) (fun a b ha hb h1 h2 => ?_) hs ((atRound_sorted l r).imp fun {a b} h => by omega) (hp.trans (atRound_perm r hL hA).symm)
  have ha' := hp.mem_iff.1 ha
  have hb' := (mem_atRound hL hA).1 hb
  unfold inRound at ha' hb'
  rw [List.mem_filter] at ha' hb'
  exact lone_same hL ha'.1 hb'.1 (by omega) (by have := ha'.2; have := hb'.2; simp at *; omega)
theorem atRound_len {l : List Crt} (r : Int) (hL : Lone l) (hA : Auth l) : (atRound l r).length = (inRound l r).length := (atRound_perm r hL hA).length_eq
theorem atRound_le (l : List Crt) (r : Int) : (atRound l r).length ≤ 4 := by
  unfold atRound
  exact Nat.le_trans (List.length_filterMap_le _ _) (by simp)
/-- a dag that may be has one certificate of an author and a round -/
theorem badC_lone {dg : Hdr → List UInt8} {l : List Crt} (h : ∀ j, j < l.length → badC dg l j = false) : Lone l := by
  unfold Lone
  rw [List.pairwise_iff_getElem]
  intro i j hi hj hij hsame
  have hb := h j hj
  unfold badC at hb
  rw [List.getElem?_eq_getElem hj] at hb
  simp only [Bool.or_eq_false_iff] at hb
  have := hb.1
  unfold taken at this
  rw [List.any_eq_false] at this
  have hm : l[i] ∈ l.take j := by
    rw [List.mem_take_iff_getElem]
    exact ⟨i, by omega, rfl⟩
  exact this _ hm (isCert_iff.2 hsame)
theorem badC_none {dg : Hdr → List UInt8} {l : List Crt} (h : (List.range l.length).any (badC dg l) = false) : ∀ j, j < l.length → badC dg l j = false := fun j hj => by
  rw [List.any_eq_false] at h
  simpa using h j (List.mem_range.2 hj)
theorem dagF_zero {dg : Hdr → List UInt8} {cF : Crt → Int} {l : List Crt} (h : dagF dg cF l = 0) : l.length ≤ 400 ∧ (∀ c ∈ l, cF c = 0) ∧ ∀ j, j < l.length → badC dg l j = false := by
  unfold dagF at h
  split at h
  · cases h
  · split at h
    · cases h
    · split at h
      · cases h
      · rename_i h1 h2 h3
        refine ⟨by omega, fun c hc => ?_, badC_none (by simpa using h3)⟩
        rw [Bool.not_eq_true, List.any_eq_false] at h2
        simpa using h2 c hc
/-- the next round -/
def nextFrom (l : List Crt) : Nat → Int → Int
  | 0, r => r
  | n + 1, r => if 3 ≤ (atRound l r).length then nextFrom l n (r + 1) else r
def nextR (l : List Crt) : Int := nextFrom l (l.length + 1) 1
theorem inRound_pos {l : List Crt} {r : Int} (h : 0 < (inRound l r).length) : ∃ c ∈ l, c.hdr.round = r := by
  obtain ⟨c, hc⟩ := List.exists_mem_of_length_pos h
  unfold inRound at hc
  rw [List.mem_filter] at hc
  exact ⟨c, hc.1, by simpa using hc.2⟩
theorem nextFrom_is {l : List Crt} : ∀ (n : Nat) (r : Int) (k : Nat), k ≤ n → (∀ j : Nat, j < k → 3 ≤ (atRound l (r + j)).length) → nextFrom l n r = nextFrom l (n - k) (r + k)
  | n, r, 0, _, _ => by simp
  | 0, r, k + 1, h, _ => by omega
  | n + 1, r, k + 1, h, hj => by
    have h0 := hj 0 (by omega)
    simp only [Int.ofNat_zero, Int.add_zero] at h0
    rw [nextFrom, if_pos h0, nextFrom_is n (r + 1) k (by omega) (fun j hjk => by have := hj (j + 1) (by omega); rw [show r + ((j + 1 : Nat) : Int) = r + 1 + j by omega] at this; exact this)]
    rw [show n + 1 - (k + 1) = n - k by omega, show r + ((k + 1 : Nat) : Int) = r + 1 + k by omega]
/-- many rounds of three take many certificates -/
theorem rounds_len {l : List Crt} : ∀ (k : Nat) (r : Int), (∀ j : Nat, j < k → 1 ≤ (inRound l (r + j)).length) → k ≤ l.length := by
  intro k
  induction k generalizing l with
  | zero => intro r _; omega
  | succ k ih =>
    intro r h
    obtain ⟨c, hc, hr⟩ := inRound_pos (h k (by omega))
    have hne : c ∈ l := hc
    have hl : (l.filter fun x => x.hdr.round != r + k).length + 1 ≤ l.length := by
      have h1 := List.length_filter_lt_length_iff_exists (p := fun x : Crt => x.hdr.round != r + k) (l := l)
      have := h1.2 ⟨c, hc, by simp [hr]⟩
      omega
    have := ih (l := l.filter fun x => x.hdr.round != r + k) r (fun j hj => by
      have h1 := h j (by omega)
      have e : inRound (l.filter fun x => x.hdr.round != r + k) (r + j) = inRound l (r + j) := by
        unfold inRound
        rw [List.filter_filter]
        refine List.filter_congr fun x _ => ?_
        by_cases hx : x.hdr.round = r + j
        · simp [hx]; omega
        · simp [hx]
      rw [e]; exact h1)
    omega
/-- where a loop over the rounds stops -/
theorem nextR_is {l : List Crt} (hL : Lone l) (hA : Auth l) {k : Nat} (h : ∀ j : Nat, j < k → 3 ≤ (atRound l (1 + j)).length) (hk : (atRound l (1 + k)).length < 3) : nextR l = 1 + k := by
  have hkl : k ≤ l.length := rounds_len k 1 fun j hj => by have := h j hj; rw [atRound_len _ hL hA] at this; omega
  unfold nextR
  rw [nextFrom_is (l.length + 1) 1 k (by omega) h, show l.length + 1 - k = (l.length - k) + 1 by omega, nextFrom, if_neg (by omega)]
end
end Go.Proofs.YtedealljhmokoaaDoor

namespace Go.Proofs.YtedealljhmokoaaDoor
open Go.ChangeShapes Go.WideShapes Go.ChangeAt Go.RowKit
set_option linter.unusedVariables false
set_option linter.unusedSimpArgs false
set_option maxHeartbeats 2000000 in
set_option maxRecDepth 100000 in
theorem idxDigs_any (g : Nat) (lb : Array Value) (p : List UInt8 → Bool) (eg : ∀ args w, (callFunc g args).run Tryd.prog w = .ok (.enter g args) w) (vl : Value) (l : List (List UInt8)) (w : World) (hl : RDigs w.cell? vl l)
    (hp : ∀ (W : World) (d : Value) (x : List UInt8), Below w.heap.size w W → RBytes W.cell? d x → Calls Tryd.prog g (#[d] ++ lb) W fun e w' => e = .returned (.bool (p x)) ∧ Below W.heap.size W w') :
    Calls Tryd.prog 120 #[vl, .func (.func g) #[] lb] w fun e w' => e = .returned (.int .i64 (idxI p l)) ∧ Below w.heap.size w w' := by
  obtain ⟨A, c, rfl, hform⟩ := id hl
  clear hform
  obtain ⟨_, hn1, hn2, hel⟩ := hl.at
  have Hel := Lib.hid hel
  have Hp := Lib.hid hp
  clear hl hel hp
  go_enter Tryd.func120, Tryd.ntmps120
  go_wp2
  go_loopw [8] (fun i wr => ∃ k : Nat, k ≤ l.length ∧ i = .int .i64 k ∧ Hid (∀ j (hj : j < l.length), j < k → p l[j] = false) ∧ Below w.heap.size w wr) (fun i _ => l.length - (intOf i).toNat)
  case atStart => exact ⟨0, Nat.zero_le _, rfl, fun j _ hj => by omega, Below.refl _ _⟩
  case round =>
    obtain ⟨k, hk, rfl, hno, hbl⟩ := hrel
    by_cases hlt : k < l.length
    · obtain ⟨b0, o0, d, rfl, q0, hd⟩ := Hel.out k hlt
      have c0 := vle_below hbl _ _ q0
      have hR : Hid (RBytes wr.cell? d l[k]) := hd.mono (vle_below hbl)
      clear q0
      go_wp2_with fail
      refine (Hp.out _ d l[k] hbl hR.out).mono ?_
      rintro e w1 ⟨rfl, hb'⟩
      have hbl1 := hbl.trans (hb'.mono hbl.size)
      clear hR hb' c0
      cases e1 : p l[k]
      · have Hb := Lib.hid e1
        clear e1
        go_wp2
        go_roundw
        case rel => exact ⟨k + 1, by omega, by go_num, fun j hj hjk => by
          by_cases e : j = k
          · subst e; exact Hb.out
          · exact hno.out j hj (by omega), hbl1⟩
        case measure => simp [intOf]; omega
      · have Hb := Lib.hid e1
        clear e1
        go_wp2
        go_ret
        exact ⟨ret_int (idxI_found hlt hno.out Hb.out).symm, hbl1⟩
    · go_wp2
      go_ret
      exact ⟨ret_int (idxI_none fun j hj => hno.out j hj (by omega)).symm, hbl⟩
set_option maxHeartbeats 2000000 in
set_option maxRecDepth 100000 in
theorem hasDigs_any (g : Nat) (lb : Array Value) (p : List UInt8 → Bool) (eg : ∀ args w, (callFunc g args).run Tryd.prog w = .ok (.enter g args) w) (vl : Value) (l : List (List UInt8)) (w : World) (hl : RDigs w.cell? vl l)
    (hp : ∀ (W : World) (d : Value) (x : List UInt8), Below w.heap.size w W → RBytes W.cell? d x → Calls Tryd.prog g (#[d] ++ lb) W fun e w' => e = .returned (.bool (p x)) ∧ Below W.heap.size W w') :
    Calls Tryd.prog 132 #[vl, .func (.func g) #[] lb] w fun e w' => e = .returned (.bool (l.any p)) ∧ Below w.heap.size w w' := by
  have Hp := Lib.hid hp
  clear hp
  rw [← idxI_any p l]
  obtain ⟨i, hi⟩ : ∃ i, Hid (idxI p l = i) := ⟨_, rfl⟩
  rw [hi.out]
  go_enter Tryd.func132, Tryd.ntmps132
  go_wp2_with fail
  refine (idxDigs_any g lb p eg vl l _ hl Hp.out).mono ?_
  rintro e w1 ⟨rfl, hb⟩
  rw [hi.out]
  clear hi hl
  by_cases h0 : 0 ≤ i
  · have Hq : Hid (decide (0 ≤ i) = true) := decide_eq_true h0
    go_wp2
    go_ret
    exact ⟨ret_bool Hq.out.symm, hb⟩
  · have Hq : Hid (decide (0 ≤ i) = false) := decide_eq_false h0
    go_wp2
    go_ret
    exact ⟨ret_bool (by rw [Hq.out]), hb⟩
end Go.Proofs.YtedealljhmokoaaDoor

namespace Go.Proofs.YtedealljhmokoaaDoor
open Go.ChangeShapes Go.WideShapes Go.ChangeAt Go.RowKit
set_option linter.unusedVariables false
abbrev RCrts := RSl 5 RCrt 88
abbrev OwnCrts := OwnSl 5 RCrt 60
theorem elemCrt : Elem Tryd.prog 51 60 5 88 := elemN (z := .agg #[.int .i64 0, .int .i64 0, .slice none 0 0, .slice none 0 0, .slice none 0 0]) Tryd.underlying51 (by kernel_rfl) rfl (by decide)
theorem RCrts.at {h : View} {A : Option Addr} {n c : Nat} {xs : List Crt} (hr : RCrts h (.slice A n c) xs) : n = xs.length ∧ n ≤ c ∧ n * 88 ≤ 140737488355328 ∧ ∀ k (hk : k < xs.length), ∃ b o vb vp vv, A = some ⟨b, o, none⟩ ∧ h ⟨b, o + k * 5, none⟩ = some (.int .i64 xs[k].hdr.author) ∧ h ⟨b, o + k * 5 + 1, none⟩ = some (.int .i64 xs[k].hdr.round) ∧ h ⟨b, o + k * 5 + 2, none⟩ = some vb ∧ h ⟨b, o + k * 5 + 3, none⟩ = some vp ∧ h ⟨b, o + k * 5 + 4, none⟩ = some vv ∧ RDigs h vb xs[k].hdr.batches ∧ RDigs h vp xs[k].hdr.parents ∧ RIs h vv xs[k].voters := by
  obtain ⟨A', c', e, h1, _, h2, _, h3⟩ := hr
  injection e with e1 e2 e3
  subst e1 e2 e3
  refine ⟨rfl, h1, h2, fun k hk => ?_⟩
  obtain ⟨b, o, ea, hc⟩ := h3 (by omega)
  obtain ⟨cs, hl, hcell, vb, vp, vv, rfl, q1, q2, q3⟩ := hc k hk
  exact ⟨b, o, vb, vp, vv, ea, hcell 0 (by omega), hcell 1 (by omega), hcell 2 (by omega), hcell 3 (by omega), hcell 4 (by omega), q1, q2, q3⟩
end Go.Proofs.YtedealljhmokoaaDoor

namespace Go.Proofs.YtedealljhmokoaaDoor
open Go.ChangeShapes Go.WideShapes Go.ChangeAt Go.RowKit
set_option linter.unusedVariables false
set_option linter.unusedSimpArgs false
set_option maxHeartbeats 2000000 in
set_option maxRecDepth 100000 in
theorem idxCrts_any (g : Nat) (lb : Array Value) (p : Crt → Bool) (eg : ∀ args w, (callFunc g args).run Tryd.prog w = .ok (.enter g args) w) (vl : Value) (l : List (Crt)) (w : World) (hl : RCrts w.cell? vl l)
    (hp : ∀ (W : World) (cs : List Value) (x : Crt), Below w.heap.size w W → RCrt W.cell? cs x → Calls Tryd.prog g (#[.agg cs.toArray] ++ lb) W fun e w' => e = .returned (.bool (p x)) ∧ Below W.heap.size W w') :
    Calls Tryd.prog 134 #[vl, .func (.func g) #[] lb] w fun e w' => e = .returned (.int .i64 (idxI p l)) ∧ Below w.heap.size w w' := by
  obtain ⟨A, c, rfl, hform⟩ := id hl
  clear hform
  obtain ⟨_, hn1, hn2, hel⟩ := hl.at
  have Hel := Lib.hid hel
  have Hp := Lib.hid hp
  clear hl hel hp
  go_enter Tryd.func134, Tryd.ntmps134
  go_wp2
  go_loopw [8] (fun i wr => ∃ k : Nat, k ≤ l.length ∧ i = .int .i64 k ∧ Hid (∀ j (hj : j < l.length), j < k → p l[j] = false) ∧ Below w.heap.size w wr) (fun i _ => l.length - (intOf i).toNat)
  case atStart => exact ⟨0, Nat.zero_le _, rfl, fun j _ hj => by omega, Below.refl _ _⟩
  case round =>
    obtain ⟨k, hk, rfl, hno, hbl⟩ := hrel
    by_cases hlt : k < l.length
    · obtain ⟨b0, o0, vb, vp, vv, rfl, q0, q1, q2, q3, q4, hb, hp, hv⟩ := Hel.out k hlt
      have c0 := vle_below hbl _ _ q0
      have c1 := vle_below hbl _ _ q1
      have c2 := vle_below hbl _ _ q2
      have c3 := vle_below hbl _ _ q3
      have c4 := vle_below hbl _ _ q4
      have hR : Hid (RCrt wr.cell? [.int .i64 l[k].hdr.author, .int .i64 l[k].hdr.round, vb, vp, vv] l[k]) := ⟨vb, vp, vv, rfl, hb.mono RDig.mono (vle_below hbl), hp.mono RDig.mono (vle_below hbl), hv.mono (vle_below hbl)⟩
      clear q0 q1 q2 q3 q4
      go_wp2_with fail
      refine (Hp.out _ [.int .i64 l[k].hdr.author, .int .i64 l[k].hdr.round, vb, vp, vv] l[k] hbl hR.out).mono ?_
      rintro e w1 ⟨rfl, hb'⟩
      have hbl1 := hbl.trans (hb'.mono hbl.size)
      clear hR hb' c0 c1 c2 c3 c4
      cases e1 : p l[k]
      · have Hb := Lib.hid e1
        clear e1
        go_wp2
        go_roundw
        case rel => exact ⟨k + 1, by omega, by go_num, fun j hj hjk => by
          by_cases e : j = k
          · subst e; exact Hb.out
          · exact hno.out j hj (by omega), hbl1⟩
        case measure => simp [intOf]; omega
      · have Hb := Lib.hid e1
        clear e1
        go_wp2
        go_ret
        exact ⟨ret_int (idxI_found hlt hno.out Hb.out).symm, hbl1⟩
    · go_wp2
      go_ret
      exact ⟨ret_int (idxI_none fun j hj => hno.out j hj (by omega)).symm, hbl⟩
set_option maxHeartbeats 2000000 in
set_option maxRecDepth 100000 in
theorem hasCrts_any (g : Nat) (lb : Array Value) (p : Crt → Bool) (eg : ∀ args w, (callFunc g args).run Tryd.prog w = .ok (.enter g args) w) (vl : Value) (l : List (Crt)) (w : World) (hl : RCrts w.cell? vl l)
    (hp : ∀ (W : World) (cs : List Value) (x : Crt), Below w.heap.size w W → RCrt W.cell? cs x → Calls Tryd.prog g (#[.agg cs.toArray] ++ lb) W fun e w' => e = .returned (.bool (p x)) ∧ Below W.heap.size W w') :
    Calls Tryd.prog 114 #[vl, .func (.func g) #[] lb] w fun e w' => e = .returned (.bool (l.any p)) ∧ Below w.heap.size w w' := by
  have Hp := Lib.hid hp
  clear hp
  rw [← idxI_any p l]
  obtain ⟨i, hi⟩ : ∃ i, Hid (idxI p l = i) := ⟨_, rfl⟩
  rw [hi.out]
  go_enter Tryd.func114, Tryd.ntmps114
  go_wp2_with fail
  refine (idxCrts_any g lb p eg vl l _ hl Hp.out).mono ?_
  rintro e w1 ⟨rfl, hb⟩
  rw [hi.out]
  clear hi hl
  by_cases h0 : 0 ≤ i
  · have Hq : Hid (decide (0 ≤ i) = true) := decide_eq_true h0
    go_wp2
    go_ret
    exact ⟨ret_bool Hq.out.symm, hb⟩
  · have Hq : Hid (decide (0 ≤ i) = false) := decide_eq_false h0
    go_wp2
    go_ret
    exact ⟨ret_bool (by rw [Hq.out]), hb⟩
end Go.Proofs.YtedealljhmokoaaDoor

namespace Go.Proofs.YtedealljhmokoaaDoor
open Go.ChangeShapes Go.WideShapes Go.ChangeAt Go.RowKit
set_option linter.unusedVariables false
/-- a slice of no room, just made -/
theorem OwnVec.made {α : Type} (enc : α → Value) (e : TypeId) (w : World) (base : Nat) (h : base ≤ w.heap.size) : OwnVec enc e (w.alloc (.cells #[] e)) base (.slice (some ⟨w.heap.size, 0, none⟩) 0 0) [] :=
  ⟨World.ownsRow_made w #[] 0 h (Nat.zero_le _) rfl⟩
theorem RVec.isNil {α : Type} {enc : α → Value} {bs : Nat} {h : View} {n c : Nat} {xs : List α} (hr : RVec enc bs h (.slice none n c) xs) : xs = [] ∧ n = 0 ∧ c = 0 := by
  obtain ⟨A', c', e, h1, _, _, h4, _⟩ := hr
  injection e with e1 e2 e3
  have hc := h4 e1.symm
  have : xs.length = 0 := by omega
  exact ⟨List.eq_nil_of_length_eq_zero this, by omega, by omega⟩
set_option maxHeartbeats 1000000 in
set_option maxRecDepth 100000 in
theorem cloneB_any (v : Value) (xs : List UInt8) (w : World) (hr : RBytes w.cell? v xs) :
    Calls Tryd.prog 67 #[v] w fun e w' => ∃ v', e = .returned v' ∧ Below w.heap.size w w' ∧ OwnB w' w.heap.size v' xs := by
  have hb : xs.length ≤ 140737488355328 := by obtain ⟨A, c, _, _, _, h, _⟩ := hr; omega
  have hb1 := Lib.hid hb
  obtain ⟨A, c, rfl, _⟩ := id hr
  have e1 := @Lib.run_eql_slice_nil Tryd.prog
  clear hb
  cases A with
  | none =>
    obtain ⟨rfl, h1, rfl⟩ := hr.isNil
    go_enter Tryd.func67, Tryd.ntmps67
    go_wp2
    go_ret
    exact ⟨_, rfl, Below.refl _ _, OwnVec.nil _ _ _ _⟩
  | some a =>
    have hr' := hr.mono (vle_below ((Below.refl _ _).alloc (Nat.le_refl _) (.cells #[] 5)))
    clear hr
    go_enter Tryd.func67, Tryd.ntmps67
    go_wp2_with (at_builtin; refine wpList_append_vec (n := 140737488355328) elemByte encB_one _ _ rfl rfl rfl (OwnVec.made _ _ _ _ (Nat.le_refl _)) ((Below.refl _ _).alloc (Nat.le_refl _) _) (le_alloc _ (Nat.le_refl _)) rfl hr' (Nat.le_refl _) (by simpa using hb1.out) (by simpa using hb1.out) ?_)
    intro v' w1 ho hbl _
    go_wp2
    go_ret
    exact ⟨v', rfl, hbl, by simpa using ho⟩
end Go.Proofs.YtedealljhmokoaaDoor

namespace Go.Proofs.YtedealljhmokoaaDoor
open Go.ChangeShapes Go.WideShapes Go.ChangeAt Go.RowKit
set_option linter.unusedVariables false
def votAt (vs : List Int) (i : Nat) : Int := match vs[i]? with
  | some v => if inB v 0 3 then (match i with | 0 => 0 | j + 1 => match vs[j]? with | some u => if v ≤ u then 9 else 0 | none => 0) else 2
  | none => 0
def certF (a r : Int) (b p : List (List UInt8)) (vs : List Int) : Int :=
  if headF a r b p ≠ 0 then headF a r b p else if 4 < vs.length then 1 else if firstF (votAt vs) vs.length ≠ 0 then firstF (votAt vs) vs.length else if vs.length < 3 then 10 else 0
theorem votAt_range {vs : List Int} {k : Nat} (hk : k < vs.length) (h : inB vs[k] 0 3 = false) : votAt vs k = 2 := by unfold votAt; simp [hk, h]
theorem votAt_first {vs : List Int} (hk : 0 < vs.length) (h : inB vs[0] 0 3 = true) : votAt vs 0 = 0 := by unfold votAt; simp [hk, h]
theorem votAt_next {vs : List Int} {k : Nat} (hk : k + 1 < vs.length) (h : inB vs[k + 1] 0 3 = true) : votAt vs (k + 1) = if vs[k + 1] ≤ vs[k] then 9 else 0 := by
  unfold votAt
  have : k < vs.length := by omega
  simp [hk, h, this]
set_option maxHeartbeats 2000000 in
set_option maxRecDepth 100000 in
theorem certFault_any (a r : Int) (vb vp vv : Value) (b p : List (List UInt8)) (vs : List Int) (w : World) (hb : RDigs w.cell? vb b) (hp : RDigs w.cell? vp p) (hv : RIs w.cell? vv vs) :
    Calls Tryd.prog 77 #[.agg #[.int .i64 a, .int .i64 r, vb, vp, vv]] w fun e w' => e = .returned (.int .i64 (certF a r b p vs)) ∧ Below w.heap.size w w' := by
  obtain ⟨vA, vc, rfl, _⟩ := id hv
  obtain ⟨_, hvcap, hvlen, hvel⟩ := hv.at
  have Hvel := Lib.hid hvel
  clear hvel hv
  obtain ⟨E, hE⟩ : ∃ E, Hid (headF a r b p = E) := ⟨_, rfl⟩
  obtain ⟨Q, hQ⟩ : ∃ Q, Hid (certF a r b p vs = Q) := ⟨_, rfl⟩
  obtain ⟨V, hV⟩ : ∃ V, Hid (firstF (votAt vs) vs.length = V) := ⟨_, rfl⟩
  have hq : Hid (Q = if E ≠ 0 then E else if 4 < vs.length then 1 else if V ≠ 0 then V else if vs.length < 3 then 10 else 0) := by show _ = _; rw [← hQ.out, ← hE.out, ← hV.out]; rfl
  rw [hQ.out]
  go_enter Tryd.func77, Tryd.ntmps77
  go_wp2_with fail
  refine one_block _ _ _ (fun W => Calls Tryd.prog _ _ W _) (fun W hk1 hsz hbl => ?_)
  refine (headerFault_any a r vb vp b p _ (hb.mono RDig.mono (vle_below hbl)) (hp.mono RDig.mono (vle_below hbl))).mono ?_
  rintro e w1 ⟨rfl, hb1⟩
  rw [hE.out]
  have hbl1 := hbl.trans (hb1.mono hbl.size)
  have hk2 := hk1.kept hb1
  clear hbl hb1 hk1
  have c4 := hk2.cell 4
  simp at c4
  by_cases hE0 : E = 0
  · subst hE0
    by_cases h4 : 4 < vs.length
    · have HQ : Hid (Q = 1) := by show _ = _; rw [hq.out, if_neg (by omega), if_pos h4]
      clear hq
      go_wp2
      go_loopw [3, 4] (fun e i wr => e = .int .i64 1 ∧ i = .int .i64 0 ∧ Below w1.heap.size w1 wr) (fun _ _ _ => 0)
      case atStart => exact ⟨rfl, rfl, Below.refl _ _⟩
      case round =>
        obtain ⟨rfl, rfl, hbl⟩ := hrel
        have c4 := vle_below hbl _ _ c4
        go_wp2
        all_goals
          go_ret
          exact ⟨ret_int HQ.out.symm, hbl1.trans (hbl.mono hbl1.size)⟩
    · have HQ : Hid (Q = if V ≠ 0 then V else if vs.length < 3 then 10 else 0) := by show _ = _; rw [hq.out, if_neg (by omega), if_neg h4]
      clear hq
      go_wp2
      go_loopw [3, 4] (fun e i wr => ∃ (k : Nat) (E1 : Int), k ≤ vs.length ∧ e = .int .i64 E1 ∧ i = .int .i64 k ∧ Hid ((E1 = 0 ∧ ∀ j, j < k → votAt vs j = 0) ∨ (E1 ≠ 0 ∧ V = E1)) ∧ Below w1.heap.size w1 wr) (fun _ i _ => vs.length - (intOf i).toNat)
      case atStart => exact ⟨0, 0, Nat.zero_le _, rfl, rfl, .inl ⟨rfl, fun j hj => by omega⟩, Below.refl _ _⟩
      case round =>
        obtain ⟨k, E1, hk, rfl, rfl, hok, hbl⟩ := hrel
        have c4 := vle_below hbl _ _ c4
        by_cases hE1 : E1 = 0
        · subst hE1
          have hok' : Hid (∀ j, j < k → votAt vs j = 0) := by
            rcases hok.out with h | h
            · exact h.2
            · exact absurd rfl h.1
          clear hok
          by_cases hlt : k < vs.length
          · obtain ⟨b0, o0, rfl, hcell'⟩ := Hvel.out k hlt
            have hc1 := vle_below hbl _ _ (vle_below hbl1 _ _ hcell')
            clear hcell'
            cases hin : inB vs[k] 0 3
            · have Hat := Lib.hid (votAt_range hlt hin)
              go_wp2_with (first | (go_at_call 87; refine (in_any _ _ _ _).mono ?_; rintro e w' ⟨rfl, rfl⟩) | fail)
              go_roundw
              case rel => exact ⟨k + 1, 2, by omega, rfl, by go_num, .inr ⟨by decide, hV.out.symm.trans (firstF_found hlt hok'.out Hat.out (by decide))⟩, hbl⟩
              case measure => simp [intOf]; omega
            · cases k with
              | zero =>
                have Hat := Lib.hid (votAt_first hlt hin)
                rw [Nat.add_zero] at hc1
                generalize vs[0] = x at hc1 hin
                go_wp2_with (first | (go_at_call 87; refine (in_any _ _ _ _).mono ?_; rintro e w' ⟨rfl, rfl⟩) | fail)
                refine wp_region_pl (fun w' => Below wr.heap.size wr w') [] (.q 0 (.q 1 (.q 2 (.q 3 (.q 4 (.q 5 (.q 6 (.q 7 (.q 8 (.q 9 (.q 10 (.q 11 (.q 12 (.q 13 (.q 14 (.q 15 .nil)))))))))))))))) (by kernel_rfl) (by kernel_rfl) (fun _ _ d _ _ h => by cases d <;> exact h) rfl (by kernel_rfl) ?_ ?_
                · exact below_drew _
                intro W1 hS
                repeat (first
                  | (refine pl_q (by assumption) rfl rfl ?_; apply Exists.intro; refine ⟨fun w' hS => ?_, ?_⟩; (· (have h1 := vle_below hS _ _ c4; go_simp; exact rfl)); simp only [List.getElem_toArray, List.getElem_cons_zero, List.getElem_cons_succ, Act.put, List.setIfInBounds_toArray, List.set_cons_zero, List.set_cons_succ])
                  | (refine pl_qc rfl rfl ?_; apply Exists.intro; refine ⟨fun w' _ => ?_, ?_⟩; (· (go_simp; exact rfl)); simp only [List.getElem_toArray, List.getElem_cons_zero, List.getElem_cons_succ, Act.put, List.setIfInBounds_toArray, List.set_cons_zero, List.set_cons_succ])
                  | (refine pl_skip (by assumption) rfl rfl ?_; simp only [List.getElem_toArray, List.getElem_cons_zero, List.getElem_cons_succ, Act.put, List.setIfInBounds_toArray, List.set_cons_zero, List.set_cons_succ])
                  | (refine pl_skipl (by assumption) rfl rfl ?_; simp only [List.getElem_toArray, List.getElem_cons_zero, List.getElem_cons_succ, Act.put, List.setIfInBounds_toArray, List.set_cons_zero, List.set_cons_succ]))
                refine pl_nil ?_
                go_wp2
                go_roundw
                case rel => exact ⟨1, 0, by omega, rfl, rfl, .inl ⟨rfl, zero_succ hok'.out Hat.out⟩, hbl.trans (hS.mono hbl.size)⟩
                case measure => simp [intOf]; omega
              | succ k =>
                have Hat := Lib.hid (votAt_next hlt hin)
                obtain ⟨b1, o1, e1, hcell'⟩ := Hvel.out k (by omega)
                injection e1 with e1
                injection e1 with e1 e2 e3
                subst e1 e2
                have hc2 := vle_below hbl _ _ (vle_below hbl1 _ _ hcell')
                clear hcell'
                generalize vs[k + 1] = x at hc1 hin Hat
                generalize vs[k] = y at hc2 Hat
                have q1 : IntKind.i64.wrap (((k + 1 : Nat) : Int) - 1) = (k : Nat) := by rw [IntKind.wrap_i64]; omega
                have q2 : (0 : Int) < ((k + 1 : Nat) : Int) := by omega
                obtain ⟨k1, hk1⟩ : ∃ k1, Hid (k + 1 = k1) := ⟨_, rfl⟩
                have hk1' := hk1.out
                rw [hk1.out] at hc1 hlt hk q1 q2 ⊢
                have q3 : 0 < k1 := by omega
                have q4 : k < vs.length := by omega
                have q5 : (k : Int) < vs.length := by omega
                by_cases hxy : x ≤ y
                · have Hat' : Hid (votAt vs (k + 1) = 9) := Hat.out.trans (if_pos hxy)
                  clear Hat
                  go_wp2_with (first | (go_at_call 87; refine (in_any _ _ _ _).mono ?_; rintro e w' ⟨rfl, rfl⟩) | fail)
                  refine wp_region_pl (fun w' => Below wr.heap.size wr w') [] (.q 0 (.q 1 (.q 2 (.q 3 (.q 4 (.q 5 (.q 6 (.q 7 (.q 8 (.q 9 (.q 10 (.q 11 (.q 12 (.q 13 (.q 14 (.q 15 .nil)))))))))))))))) (by kernel_rfl) (by kernel_rfl) (fun _ _ d _ _ h => by cases d <;> exact h) rfl (by kernel_rfl) ?_ ?_
                  · exact below_drew _
                  intro W1 hS
                  repeat (first
                    | (refine pl_q (by assumption) rfl rfl ?_; apply Exists.intro; refine ⟨fun w' hS => ?_, ?_⟩; (· (have h1 := vle_below hS _ _ c4; have h2 := vle_below hS _ _ hc1; have h3 := vle_below hS _ _ hc2; go_simp; exact rfl)); simp only [List.getElem_toArray, List.getElem_cons_zero, List.getElem_cons_succ, Act.put, List.setIfInBounds_toArray, List.set_cons_zero, List.set_cons_succ])
                    | (refine pl_qc rfl rfl ?_; apply Exists.intro; refine ⟨fun w' _ => ?_, ?_⟩; (· (go_simp; exact rfl)); simp only [List.getElem_toArray, List.getElem_cons_zero, List.getElem_cons_succ, Act.put, List.setIfInBounds_toArray, List.set_cons_zero, List.set_cons_succ])
                    | (refine pl_skip (by assumption) rfl rfl ?_; simp only [List.getElem_toArray, List.getElem_cons_zero, List.getElem_cons_succ, Act.put, List.setIfInBounds_toArray, List.set_cons_zero, List.set_cons_succ])
                    | (refine pl_skipl (by assumption) rfl rfl ?_; simp only [List.getElem_toArray, List.getElem_cons_zero, List.getElem_cons_succ, Act.put, List.setIfInBounds_toArray, List.set_cons_zero, List.set_cons_succ]))
                  refine pl_nil ?_
                  go_wp2
                  go_roundw
                  case rel => exact ⟨k1 + 1, 9, by omega, rfl, by go_num, .inr ⟨by decide, hV.out.symm.trans (firstF_found hlt (hk1.out ▸ hok'.out) (hk1.out ▸ Hat'.out) (by decide))⟩, hbl.trans (hS.mono hbl.size)⟩
                  case measure => simp [intOf]; omega
                · have Hat' : Hid (votAt vs (k + 1) = 0) := Hat.out.trans (if_neg hxy)
                  clear Hat
                  go_wp2_with (first | (go_at_call 87; refine (in_any _ _ _ _).mono ?_; rintro e w' ⟨rfl, rfl⟩) | fail)
                  refine wp_region_pl (fun w' => Below wr.heap.size wr w') [] (.q 0 (.q 1 (.q 2 (.q 3 (.q 4 (.q 5 (.q 6 (.q 7 (.q 8 (.q 9 (.q 10 (.q 11 (.q 12 (.q 13 (.q 14 (.q 15 .nil)))))))))))))))) (by kernel_rfl) (by kernel_rfl) (fun _ _ d _ _ h => by cases d <;> exact h) rfl (by kernel_rfl) ?_ ?_
                  · exact below_drew _
                  intro W1 hS
                  repeat (first
                    | (refine pl_q (by assumption) rfl rfl ?_; apply Exists.intro; refine ⟨fun w' hS => ?_, ?_⟩; (· (have h1 := vle_below hS _ _ c4; have h2 := vle_below hS _ _ hc1; have h3 := vle_below hS _ _ hc2; go_simp; exact rfl)); simp only [List.getElem_toArray, List.getElem_cons_zero, List.getElem_cons_succ, Act.put, List.setIfInBounds_toArray, List.set_cons_zero, List.set_cons_succ])
                    | (refine pl_qc rfl rfl ?_; apply Exists.intro; refine ⟨fun w' _ => ?_, ?_⟩; (· (go_simp; exact rfl)); simp only [List.getElem_toArray, List.getElem_cons_zero, List.getElem_cons_succ, Act.put, List.setIfInBounds_toArray, List.set_cons_zero, List.set_cons_succ])
                    | (refine pl_skip (by assumption) rfl rfl ?_; simp only [List.getElem_toArray, List.getElem_cons_zero, List.getElem_cons_succ, Act.put, List.setIfInBounds_toArray, List.set_cons_zero, List.set_cons_succ])
                    | (refine pl_skipl (by assumption) rfl rfl ?_; simp only [List.getElem_toArray, List.getElem_cons_zero, List.getElem_cons_succ, Act.put, List.setIfInBounds_toArray, List.set_cons_zero, List.set_cons_succ]))
                  refine pl_nil ?_
                  go_wp2
                  go_roundw
                  case rel => exact ⟨k1 + 1, 0, by omega, rfl, by go_num, .inl ⟨rfl, hk1.out ▸ zero_succ (hk1.out ▸ hok'.out) Hat'.out⟩, hbl.trans (hS.mono hbl.size)⟩
                  case measure => simp [intOf]; omega
          · have HQ' : Hid (Q = if vs.length < 3 then 10 else 0) := by
              show _ = _
              rw [HQ.out, if_neg (by rw [← hV.out, firstF_none fun j hj => hok'.out j (by omega)]; decide)]
            clear HQ hok'
            by_cases h3 : vs.length < 3
            · have HQ : Hid (Q = 10) := HQ'.out.trans (if_pos h3)
              clear HQ'
              go_wp2
              go_ret
              exact ⟨ret_int HQ.out.symm, hbl1.trans (hbl.mono hbl1.size)⟩
            · have HQ : Hid (Q = 0) := HQ'.out.trans (if_neg h3)
              clear HQ'
              go_wp2
              go_ret
              exact ⟨ret_int HQ.out.symm, hbl1.trans (hbl.mono hbl1.size)⟩
        · have HQ' : Hid (Q = E1) := by
            show _ = _
            rcases hok.out with h | h
            · exact absurd h.1 hE1
            · rw [HQ.out, h.2, if_pos hE1]
          clear HQ hok
          go_wp2
          all_goals
            go_ret
            exact ⟨ret_int HQ'.out.symm, hbl1.trans (hbl.mono hbl1.size)⟩
  · have HQ : Hid (Q = E) := by show _ = _; rw [hq.out, if_pos hE0]
    clear hq
    go_wp2
    go_loopw [3, 4] (fun e i wr => e = .int .i64 E ∧ i = .int .i64 0 ∧ Below w1.heap.size w1 wr) (fun _ _ _ => 0)
    case atStart => exact ⟨rfl, rfl, Below.refl _ _⟩
    case round =>
      obtain ⟨rfl, rfl, hbl⟩ := hrel
      have c4 := vle_below hbl _ _ c4
      go_wp2
      all_goals
        go_ret
        exact ⟨ret_int HQ.out.symm, hbl1.trans (hbl.mono hbl1.size)⟩
set_option maxHeartbeats 2000000 in
set_option maxRecDepth 100000 in
theorem checkCert_any (a r : Int) (vb vp vv : Value) (b p : List (List UInt8)) (vs : List Int) (w : World) (hb : RDigs w.cell? vb b) (hp : RDigs w.cell? vp p) (hv : RIs w.cell? vv vs) :
    Calls Tryd.prog 73 #[.agg #[.int .i64 a, .int .i64 r, vb, vp, vv]] w fun e w' => e = .returned (.int .i64 (certF a r b p vs)) ∧ Below w.heap.size w w' := by
  obtain ⟨vA, vc, rfl, _⟩ := id hv
  obtain ⟨_, hvcap, hvlen, hvel⟩ := hv.at
  have Hvel := Lib.hid hvel
  clear hvel hv
  obtain ⟨E, hE⟩ : ∃ E, Hid (headF a r b p = E) := ⟨_, rfl⟩
  obtain ⟨Q, hQ⟩ : ∃ Q, Hid (certF a r b p vs = Q) := ⟨_, rfl⟩
  obtain ⟨V, hV⟩ : ∃ V, Hid (firstF (votAt vs) vs.length = V) := ⟨_, rfl⟩
  have hq : Hid (Q = if E ≠ 0 then E else if 4 < vs.length then 1 else if V ≠ 0 then V else if vs.length < 3 then 10 else 0) := by show _ = _; rw [← hQ.out, ← hE.out, ← hV.out]; rfl
  rw [hQ.out]
  go_enter Tryd.func73, Tryd.ntmps73
  go_wp2_with fail
  refine one_block _ _ _ (fun W => Calls Tryd.prog _ _ W _) (fun W hk1 hsz hbl => ?_)
  refine (checkHeader_any a r vb vp b p _ (hb.mono RDig.mono (vle_below hbl)) (hp.mono RDig.mono (vle_below hbl))).mono ?_
  rintro e w1 ⟨rfl, hb1⟩
  rw [hE.out]
  have hbl1 := hbl.trans (hb1.mono hbl.size)
  have hk2 := hk1.kept hb1
  clear hbl hb1 hk1
  have c4 := hk2.cell 4
  simp at c4
  by_cases hE0 : E = 0
  · subst hE0
    by_cases h4 : 4 < vs.length
    · have HQ : Hid (Q = 1) := by show _ = _; rw [hq.out, if_neg (by omega), if_pos h4]
      clear hq
      go_wp2
      go_ret
      exact ⟨ret_int HQ.out.symm, hbl1⟩
    · have HQ : Hid (Q = if V ≠ 0 then V else if vs.length < 3 then 10 else 0) := by show _ = _; rw [hq.out, if_neg (by omega), if_neg h4]
      clear hq
      go_wp2
      go_loopw [19] (fun i wr => ∃ k : Nat, k ≤ vs.length ∧ i = .int .i64 k ∧ Hid (∀ j, j < k → votAt vs j = 0) ∧ Below w1.heap.size w1 wr) (fun i _ => vs.length - (intOf i).toNat)
      case atStart => exact ⟨0, Nat.zero_le _, rfl, fun j hj => by omega, Below.refl _ _⟩
      case round =>
        obtain ⟨k, hk, rfl, hok, hbl⟩ := hrel
        have c4 := vle_below hbl _ _ c4
        by_cases hlt : k < vs.length
        · obtain ⟨b0, o0, rfl, hcell'⟩ := Hvel.out k hlt
          have hc1 := vle_below hbl _ _ (vle_below hbl1 _ _ hcell')
          clear hcell'
          cases hin : inB vs[k] 0 3
          · have HQ' : Hid (Q = 2) := by
              show _ = _
              have := hV.out.symm.trans (firstF_found hlt hok.out (votAt_range hlt hin) (by decide))
              rw [HQ.out, this]; rfl
            clear HQ
            go_wp2_with (first | (go_at_call 100; refine (node_any _ _).mono ?_; rintro e w' ⟨rfl, rfl⟩) | fail)
            go_ret
            exact ⟨ret_int HQ'.out.symm, hbl1.trans (hbl.mono hbl1.size)⟩
          · cases k with
            | zero =>
              have Hat := Lib.hid (votAt_first hlt hin)
              rw [Nat.add_zero] at hc1
              generalize vs[0] = x at hc1 hin
              go_wp2_with (first | (go_at_call 100; refine (node_any _ _).mono ?_; rintro e w' ⟨rfl, rfl⟩) | fail)
              go_roundw
              case rel => exact ⟨1, by omega, rfl, zero_succ hok.out Hat.out, hbl⟩
              case measure => simp [intOf]; omega
            | succ k =>
              have Hat := Lib.hid (votAt_next hlt hin)
              obtain ⟨b1, o1, e1, hcell'⟩ := Hvel.out k (by omega)
              injection e1 with e1
              injection e1 with e1 e2 e3
              subst e1 e2
              have hc2 := vle_below hbl _ _ (vle_below hbl1 _ _ hcell')
              clear hcell'
              generalize vs[k + 1] = x at hc1 hin Hat
              generalize vs[k] = y at hc2 Hat
              have q1 : IntKind.i64.wrap (((k + 1 : Nat) : Int) - 1) = (k : Nat) := by rw [IntKind.wrap_i64]; omega
              have q2 : (0 : Int) < ((k + 1 : Nat) : Int) := by omega
              obtain ⟨k1, hk1⟩ : ∃ k1, Hid (k + 1 = k1) := ⟨_, rfl⟩
              have hk1' := hk1.out
              rw [hk1.out] at hc1 hlt hk q1 q2 ⊢
              have q3 : 0 < k1 := by omega
              have q4 : k < vs.length := by omega
              have q5 : (k : Int) < vs.length := by omega
              by_cases hxy : x ≤ y
              · have HQ' : Hid (Q = 9) := by
                  show _ = _
                  have := hV.out.symm.trans (firstF_found hlt (hk1.out ▸ hok.out) (hk1.out ▸ Hat.out.trans (if_pos hxy)) (by decide))
                  rw [HQ.out, this]; rfl
                clear HQ Hat
                go_wp2_with (first | (go_at_call 100; refine (node_any _ _).mono ?_; rintro e w' ⟨rfl, rfl⟩) | fail)
                go_ret
                exact ⟨ret_int HQ'.out.symm, hbl1.trans (hbl.mono hbl1.size)⟩
              · have Hat' : Hid (votAt vs (k + 1) = 0) := Hat.out.trans (if_neg hxy)
                clear Hat
                go_wp2_with (first | (go_at_call 100; refine (node_any _ _).mono ?_; rintro e w' ⟨rfl, rfl⟩) | fail)
                go_roundw
                case rel => exact ⟨k1 + 1, by omega, by go_num, hk1.out ▸ zero_succ (hk1.out ▸ hok.out) Hat'.out, hbl⟩
                case measure => simp [intOf]; omega
        · have HQ' : Hid (Q = if vs.length < 3 then 10 else 0) := by
            show _ = _
            rw [HQ.out, if_neg (by rw [← hV.out, firstF_none fun j hj => hok.out j (by omega)]; decide)]
          clear HQ
          by_cases h3 : vs.length < 3
          · have HQ : Hid (Q = 10) := HQ'.out.trans (if_pos h3)
            clear HQ'
            go_wp2
            go_ret
            exact ⟨ret_int HQ.out.symm, hbl1.trans (hbl.mono hbl1.size)⟩
          · have HQ : Hid (Q = 0) := HQ'.out.trans (if_neg h3)
            clear HQ'
            go_wp2
            go_ret
            exact ⟨ret_int HQ.out.symm, hbl1.trans (hbl.mono hbl1.size)⟩
  · have HQ : Hid (Q = E) := by show _ = _; rw [hq.out, if_pos hE0]
    clear hq
    go_wp2
    go_ret
    exact ⟨ret_int HQ.out.symm, hbl1⟩
end Go.Proofs.YtedealljhmokoaaDoor

namespace Go.Proofs.YtedealljhmokoaaDoor
open Go.ChangeShapes Go.WideShapes Go.ChangeAt Go.RowKit
set_option linter.unusedVariables false
set_option linter.unusedSimpArgs false
def hD (h : Hdr) : List UInt8 := hdrD h.author h.round h.batches h.parents
def hF (h : Hdr) : Int := headF h.author h.round h.batches h.parents
def cF (c : Crt) : Int := certF c.hdr.author c.hdr.round c.hdr.batches c.hdr.parents c.voters
theorem cF_hF {c : Crt} (h : cF c = 0) : hF c.hdr = 0 := by
  unfold cF certF at h
  unfold hF
  split at h
  · rename_i h1; exact absurd h h1
  · rename_i h1; exact Classical.not_not.1 h1
theorem enters_of_func {P : Program} {f : FuncId} {fn : Func} (hf : P.funcs[f]? = some fn) (hn : (fn.name == "runtime.NumGoroutine") = false) {c : Code} (hb : fn.body = some c) : ∀ args w, (callFunc f args).run P w = .ok (.enter f args) w := enters_of hf hn hb
set_option maxHeartbeats 1000000 in
set_option maxRecDepth 100000 in
theorem placeOf_any (vl : Value) (l : List (List UInt8)) (vd : Value) (d : List UInt8) (w : World) (hl : RDigs w.cell? vl l) (hd : RBytes w.cell? vd d) :
    Calls Tryd.prog 59 #[vl, vd] w fun e w' => e = .returned (.int .i64 (placeI l d)) ∧ Below w.heap.size w w' := by
  obtain ⟨A, c, rfl, hform⟩ := id hl
  clear hform
  obtain ⟨_, hn1, hn2, hel⟩ := hl.at
  have Hel := Lib.hid hel
  have Hd := Lib.hid hd
  clear hl hel hd
  go_enter Tryd.func59, Tryd.ntmps59
  go_wp2
  go_loopw [5] (fun i wr => ∃ k : Nat, k ≤ l.length ∧ i = .int .i64 k ∧ Hid (∀ j (hj : j < l.length), j < k → (l[j] == d) = false) ∧ Below w.heap.size w wr) (fun i _ => l.length - (intOf i).toNat)
  case atStart => exact ⟨0, Nat.zero_le _, rfl, fun j _ hj => by omega, Below.refl _ _⟩
  case round =>
    obtain ⟨k, hk, rfl, hno, hbl⟩ := hrel
    by_cases hlt : k < l.length
    · obtain ⟨b0, o0, y, rfl, q0, hy⟩ := Hel.out k hlt
      have c0 := vle_below hbl _ _ q0
      have hy' := Lib.hid (hy.mono (vle_below hbl))
      clear q0 hy
      go_wp2_with fail
      refine (sameBytes_any _ _ l[k] d _ hy'.out (Hd.out.mono (vle_below hbl))).mono ?_
      rintro e w1 ⟨rfl, rfl⟩
      clear hy' c0
      cases e1 : (l[k] == d)
      · have Hb := Lib.hid e1
        clear e1
        go_wp2
        go_roundw
        case rel => exact ⟨k + 1, by omega, by go_num, fun j hj hjk => by
          by_cases e : j = k
          · subst e; exact Hb.out
          · exact hno.out j hj (by omega), hbl⟩
        case measure => simp [intOf]; omega
      · have Hb := Lib.hid e1
        clear e1
        go_wp2
        go_ret
        exact ⟨ret_int (idxI_found hlt hno.out Hb.out).symm, hbl⟩
    · go_wp2
      go_ret
      exact ⟨ret_int (idxI_none fun j hj => hno.out j hj (by omega)).symm, hbl⟩
set_option maxHeartbeats 1000000 in
set_option maxRecDepth 100000 in
theorem atFn_any (d x : Value) (y ds : List UInt8) (g : Nat) (w : World) (hc : w.cell? ⟨g, 0, none⟩ = some x) (hd : RBytes w.cell? d y) (hx : RBytes w.cell? x ds) :
    Calls Tryd.prog 121 (#[d] ++ #[.pointer (some ⟨g, 0, none⟩)]) w fun e w' => e = .returned (.bool (y == ds)) ∧ Below w.heap.size w w' := by
  show Calls Tryd.prog 121 #[d, .pointer (some ⟨g, 0, none⟩)] w _
  go_enter Tryd.func121, Tryd.ntmps121
  go_wp2_with fail
  refine (bytesEqual_any _ _ y ds _ hd hx).mono ?_
  rintro e w' ⟨rfl, rfl⟩
  go_wp2
  go_ret
  exact ⟨rfl, Below.refl _ _⟩
set_option maxHeartbeats 1000000 in
set_option maxRecDepth 100000 in
theorem at_any (vl : Value) (l : List (List UInt8)) (vd : Value) (d : List UInt8) (w : World) (hl : RDigs w.cell? vl l) (hd : RBytes w.cell? vd d) :
    Calls Tryd.prog 90 #[vl, vd] w fun e w' => e = .returned (.int .i64 (placeI l d)) ∧ Below w.heap.size w w' := by
  obtain ⟨A, c, rfl, hform⟩ := id hl
  obtain ⟨B, c', rfl, hform'⟩ := id hd
  clear hform hform'
  have hbb := below_one w (.cells #[.slice B d.length c'] 25)
  have hdb := hd.mono (vle_below hbb)
  have hlb := hl.mono RDig.mono (vle_below hbb)
  have hcb := (Blk.new w 25 #[.slice B d.length c']).cell 0
  go_enter Tryd.func90, Tryd.ntmps90
  go_wp2_with fail
  refine (idxDigs_any 121 #[.pointer (some ⟨w.heap.size, 0, none⟩)] (· == d) (enters_of_func Tryd.func121 (by kernel_rfl) rfl) _ l _ hlb (fun W x y hW hx => atFn_any x _ y d _ W (vle_below hW _ _ hcb) hx (hdb.mono (vle_below hW)))).mono ?_
  rintro e w1 ⟨rfl, hb1⟩
  have hbl := hbb.trans (hb1.mono hbb.size)
  have e1 : idxI (· == d) l = placeI l d := rfl
  rw [e1]
  obtain ⟨i, hi⟩ : ∃ i, Hid (placeI l d = i) := ⟨_, rfl⟩
  clear hdb hlb hcb hd hl
  go_wp2
  go_ret
  exact ⟨rfl, hbl⟩
end Go.Proofs.YtedealljhmokoaaDoor

namespace Go.Proofs.YtedealljhmokoaaDoor
open Go.ChangeShapes Go.WideShapes Go.ChangeAt Go.RowKit
set_option linter.unusedVariables false
set_option linter.unusedSimpArgs false
set_option maxHeartbeats 2000000 in
set_option maxRecDepth 100000 in
theorem certOf_any (vl : Value) (l : List Crt) (a r : Int) (w : World) (hl : RCrts w.cell? vl l) :
    Calls Tryd.prog 79 #[vl, .int .i64 a, .int .i64 r] w fun e w' => e = .returned (.int .i64 (certI l a r)) ∧ Below w.heap.size w w' := by
  obtain ⟨A, c, rfl, hform⟩ := id hl
  clear hform
  obtain ⟨_, hn1, hn2, hel⟩ := hl.at
  have Hel := Lib.hid hel
  clear hl hel
  go_enter Tryd.func79, Tryd.ntmps79
  go_wp2
  go_loopw [7] (fun i wr => ∃ k : Nat, k ≤ l.length ∧ i = .int .i64 k ∧ Hid (∀ j (hj : j < l.length), j < k → isCert a r l[j] = false) ∧ Below w.heap.size w wr) (fun i _ => l.length - (intOf i).toNat)
  case atStart => exact ⟨0, Nat.zero_le _, rfl, fun j _ hj => by omega, Below.refl _ _⟩
  case round =>
    obtain ⟨k, hk, rfl, hno, hbl⟩ := hrel
    by_cases hlt : k < l.length
    · obtain ⟨b0, o0, vb, vp, vv, rfl, q0, q1, _, _, _, _⟩ := Hel.out k hlt
      have c0 := vle_below hbl _ _ q0
      have c1 := vle_below hbl _ _ q1
      have He : ∀ q, (l[k].hdr.author == a && l[k].hdr.round == r) = q → Hid (isCert a r l[k] = q) := fun q h => h
      generalize l[k].hdr.author = x at c0 He
      generalize l[k].hdr.round = y at c1 He
      clear q0 q1
      have miss : ∀ (hq : Hid (isCert a r l[k] = false)), Hid (∀ j (hj : j < l.length), j < k + 1 → isCert a r l[j] = false) := fun hq j hj hjk => by
        by_cases e : j = k
        · subst e; exact hq.out
        · exact hno.out j hj (by omega)
      by_cases h1 : x = a
      · by_cases h2 : y = r
        · have Hb := He true (by simp [h1, h2])
          clear He miss
          subst h1 h2
          go_wp2
          go_ret
          exact ⟨ret_int (idxI_found hlt hno.out Hb.out).symm, hbl⟩
        · have Hb := miss (He false (by simp [h2]))
          clear He miss
          subst h1
          go_wp2
          go_roundw
          case rel => exact ⟨k + 1, by omega, by go_num, Hb, hbl⟩
          case measure => simp [intOf]; omega
      · have Hb := miss (He false (by simp [h1]))
        clear He miss
        go_wp2
        go_roundw
        case rel => exact ⟨k + 1, by omega, by go_num, Hb, hbl⟩
        case measure => simp [intOf]; omega
    · go_wp2
      go_ret
      exact ⟨ret_int (idxI_none fun j hj => hno.out j hj (by omega)).symm, hbl⟩
set_option maxHeartbeats 2000000 in
set_option maxRecDepth 100000 in
theorem takenFn_any (cs : List Value) (x : Crt) (a r : Int) (vb vp : Value) (g : Nat) (w : World) (hblk : Blk w g 37 #[.int .i64 a, .int .i64 r, vb, vp]) (hx : RCrt w.cell? cs x) :
    Calls Tryd.prog 115 (#[.agg cs.toArray] ++ #[.pointer (some ⟨g, 0, none⟩)]) w fun e w' => e = .returned (.bool (isCert a r x)) ∧ Below w.heap.size w w' := by
  obtain ⟨ub, up, uv, rfl, _, _, _⟩ := hx
  show Calls Tryd.prog 115 #[.agg #[.int .i64 x.hdr.author, .int .i64 x.hdr.round, ub, up, uv], .pointer (some ⟨g, 0, none⟩)] w _
  have hbb := below_one w (.cells #[.int .i64 x.hdr.author, .int .i64 x.hdr.round, ub, up, uv] 60)
  have hB := hblk.kept hbb
  have g0 := hB.cell 0; have g1 := hB.cell 1
  simp at g0 g1
  clear hB hblk
  have He : ∀ q, (x.hdr.author == a && x.hdr.round == r) = q → Hid (isCert a r x = q) := fun q h => h
  generalize x.hdr.author = x0 at g0 He hbb g1 ⊢
  generalize x.hdr.round = y0 at g0 He hbb g1 ⊢
  by_cases h1 : x0 = a
  · by_cases h2 : y0 = r
    · have Hb := He true (by simp [h1, h2])
      clear He
      subst h1 h2
      go_enter Tryd.func115, Tryd.ntmps115
      go_wp2
      go_ret
      exact ⟨ret_bool Hb.out.symm, hbb⟩
    · have Hb := He false (by simp [h2])
      clear He
      subst h1
      go_enter Tryd.func115, Tryd.ntmps115
      go_wp2
      go_ret
      exact ⟨ret_bool (by rw [Hb.out]; simp [h2]), hbb⟩
  · have Hb := He false (by simp [h1])
    clear He
    go_enter Tryd.func115, Tryd.ntmps115
    go_wp2
    go_ret
    exact ⟨ret_bool Hb.out.symm, hbb⟩
set_option maxHeartbeats 2000000 in
set_option maxRecDepth 100000 in
theorem certTaken_any (vl : Value) (l : List Crt) (h : Hdr) (vb vp : Value) (w : World) (hl : RCrts w.cell? vl l) :
    Calls Tryd.prog 76 #[vl, .agg #[.int .i64 h.author, .int .i64 h.round, vb, vp]] w fun e w' => e = .returned (.bool (taken l h)) ∧ Below w.heap.size w w' := by
  obtain ⟨A, c, rfl, hform⟩ := id hl
  clear hform
  have hbb := below_one w (.cells #[.int .i64 h.author, .int .i64 h.round, vb, vp] 37)
  have hlb := hl.mono RCrt.mono (vle_below hbb)
  have hk := Blk.new w 37 #[.int .i64 h.author, .int .i64 h.round, vb, vp]
  obtain ⟨Z, hZ⟩ : ∃ Z, Hid (taken l h = Z) := ⟨_, rfl⟩
  rw [hZ.out]
  go_enter Tryd.func76, Tryd.ntmps76
  go_wp2_with fail
  refine (hasCrts_any 115 #[.pointer (some ⟨w.heap.size, 0, none⟩)] (isCert h.author h.round) (enters_of_func Tryd.func115 (by kernel_rfl) rfl) _ l _ hlb (fun W cs x hW hx => takenFn_any cs x _ _ _ _ _ W (hk.kept hW) hx)).mono ?_
  rintro e w1 ⟨rfl, hb1⟩
  have hbl := hbb.trans (hb1.mono hbb.size)
  rw [show l.any (isCert h.author h.round) = Z from hZ.out]
  clear hlb hk hl hZ
  go_wp2
  go_ret
  exact ⟨rfl, hbl⟩
set_option maxHeartbeats 2000000 in
set_option maxRecDepth 100000 in
theorem digest_any (c : Crt) (vb vp vv : Value) (w : World) (hb : RDigs w.cell? vb c.hdr.batches) (hp : RDigs w.cell? vp c.hdr.parents) (hT : Tabs w.cell?) :
    Calls Tryd.prog 95 #[.agg #[.int .i64 c.hdr.author, .int .i64 c.hdr.round, vb, vp, vv]] w fun e w' => ∃ d, e = .returned d ∧ Below w.heap.size w w' ∧ RBytes (View.from w'.cell? w.heap.size) d (hdrDR c.hdr.author c.hdr.round c.hdr.batches c.hdr.parents) := by
  obtain ⟨bA, bc, rfl, _⟩ := id hb
  obtain ⟨pA, pc, rfl, _⟩ := id hp
  obtain ⟨R, hR⟩ : ∃ R, Hid (hdrDR c.hdr.author c.hdr.round c.hdr.batches c.hdr.parents = R) := ⟨_, rfl⟩
  rw [hR.out]
  go_enter Tryd.func95, Tryd.ntmps95
  go_wp2_with fail
  refine one_block _ _ _ (fun W => Calls Tryd.prog _ _ W _) (fun W hk hszW hbW => ?_)
  have q := vle_below hbW
  refine (headerDigestW_any _ _ _ _ c.hdr.batches c.hdr.parents _ (hb.mono RDig.mono q) (hp.mono RDig.mono q) (hT.mono q)).mono ?_
  rintro e w1 ⟨d, rfl, hb1, hr⟩
  rw [hR.out] at hr
  generalize headF c.hdr.author c.hdr.round c.hdr.batches c.hdr.parents = E
  clear hk hT
  go_wp2
  go_ret
  exact ⟨_, rfl, hbW.trans (hb1.mono hbW.size), hr.mono (from_from hbW.size)⟩
theorem hdrDR_valid {h : Hdr} (hv : hF h = 0) : hdrDR h.author h.round h.batches h.parents = hD h := if_pos hv
theorem from_from_but {h : View} {b b' : Nat} {g : Option Nat} (hb : b' ≤ b) (hg : ∀ k, g = some k → k < b) : VLe (View.from h b) (View.from (View.but h g) b') := fun a v e => by
  unfold View.from at e ⊢
  split at e
  · cases e
  · rename_i hne
    rw [if_neg (by omega)]
    unfold View.but
    rw [if_neg (by intro h; have := hg _ h.symm; omega)]
    exact e
set_option maxHeartbeats 2000000 in
set_option maxRecDepth 100000 in
theorem all_any (vl : Value) (l : List Crt) (w : World) (hl : RCrts w.cell? vl l) (hv : ∀ c ∈ l, hF c.hdr = 0) (hT : Tabs w.cell?) :
    Calls Tryd.prog 74 #[vl] w fun e w' => ∃ v', e = .returned v' ∧ Below w.heap.size w w' ∧ OwnSl 1 (RFrom w.heap.size RDig) 25 w' w.heap.size v' (dsOf hD l) := by
  obtain ⟨A, c, rfl, hform⟩ := id hl
  clear hform
  obtain ⟨_, hcap, hlen, hel⟩ := hl.at
  have Hel := Lib.hid hel
  have Hv := Lib.hid hv
  clear hel hl hv
  go_enter Tryd.func74, Tryd.ntmps74
  go_wp2
  go_loopw [3, 5, 8] (fun v _ i wr => ∃ k : Nat, k ≤ l.length ∧ i = .int .i64 k ∧ OwnSl 1 (RFrom w.heap.size RDig) 25 wr w.heap.size v (dsOf hD (l.take k)) ∧ Below w.heap.size w wr) (fun _ _ i _ => l.length - (intOf i).toNat)
  case atStart => exact ⟨0, Nat.zero_le _, rfl, OwnSl.nil _ _ _ _ _, Below.refl _ _⟩
  case round =>
    obtain ⟨k, hk, rfl, hown, hbl⟩ := hrel
    have hbs := hbl.size
    by_cases hlt : k < l.length
    · obtain ⟨b0, o0, vb, vp, vv, rfl, q0, q1, q2, q3, q4, hb, hp, hvv⟩ := Hel.out k hlt
      obtain ⟨bA, bc, rfl, hf1⟩ := id hb
      obtain ⟨pA, pc, rfl, hf2⟩ := id hp
      obtain ⟨vA, vc, rfl, hf3⟩ := id hvv
      clear hf1 hf2 hf3 hvv
      have c0 := vle_below hbl _ _ q0
      have c1 := vle_below hbl _ _ q1
      have c2 := vle_below hbl _ _ q2
      have c3 := vle_below hbl _ _ q3
      have c4 := vle_below hbl _ _ q4
      have hb' := hb.mono RDig.mono (vle_below hbl)
      have hp' := hp.mono RDig.mono (vle_below hbl)
      have hval := Lib.hid (Hv.out l[k] (List.getElem_mem hlt))
      have Hn := Lib.hid (show dsOf hD (l.take (k + 1)) = dsOf hD (l.take k) ++ [hD l[k].hdr] by unfold dsOf; rw [List.take_succ_eq_append_getElem hlt, List.map_append, List.map_singleton])
      have Hlk := Lib.hid (show (dsOf hD (l.take k)).length = k by unfold dsOf; simp; omega)
      clear q0 q1 q2 q3 q4 hb hp
      generalize dsOf hD (l.take k) = L at hown Hn Hlk
      generalize l[k] = x at c0 c1 c2 c3 c4 hb' hp' hval Hn
      go_wp2_with fail
      refine one_block _ _ _ (fun W => Calls Tryd.prog _ _ W _) (fun W hk' hszW hbW => ?_)
      have qW := vle_below hbW
      have hblW := hbl.trans (hbW.mono hbs)
      refine (digest_any x _ _ _ _ (hb'.mono RDig.mono qW) (hp'.mono RDig.mono qW) (hT.mono (vle_below hblW))).mono ?_
      rintro e w1 ⟨d, rfl, hbx, hr⟩
      rw [hdrDR_valid hval.out] at hr
      have hb1 := hbW.trans (hbx.mono hbW.size)
      have hr := hr.mono (from_from hbW.size)
      have hown1 := hown.kept (RFrom.mono RDig.mono) hb1
      have hbl1 : Below w.heap.size w w1 := hbl.trans (hb1.mono hbs)
      have hR : RFrom w.heap.size RDig (View.but w1.cell? u3.ownBlock) [d] (hD x.hdr) :=
        ⟨d, rfl, hr.mono (from_from_but hbs (fun g hg => (hown.lt g hg).2))⟩
      have hs1 := hb1.size
      obtain ⟨A', c', rfl, hform⟩ := id hr
      clear hform c0 c1 c2 c3 c4 hb' hp' hr
      go_wp2_with (at_builtin; go_loud (refine wpList_append_sl1 (n := 140737488355328) (RFrom.mono RDig.mono) (hD x.hdr) [.slice A' (hD x.hdr).length c'] elemDig _ _ rfl rfl rfl hown1 hbl1 (Nat.le_trans hbs hs1) rfl rfl rfl rfl hR (Nat.le_refl _) (by rw [Hlk.out]; omega) (by rw [Hlk.out]; omega) ?_))
      intro v' w2 ho hbl2 _
      clear hown hown1 hR
      go_wp2
      go_roundw
      case rel => exact ⟨k + 1, by omega, by go_num, by rw [Hn.out]; exact ho, hbl2⟩
      case measure => simp [intOf]; omega
    · have : k = l.length := by omega
      subst this
      go_wp2
      go_ret
      exact ⟨_, rfl, hbl, by simpa using hown⟩
set_option maxHeartbeats 2000000 in
set_option maxRecDepth 100000 in
theorem digestsOf_any (vl : Value) (l : List Crt) (w : World) (hl : RCrts w.cell? vl l) (hv : ∀ c ∈ l, hF c.hdr = 0) :
    Calls Tryd.prog 78 #[vl] w fun e w' => ∃ v', e = .returned v' ∧ Below w.heap.size w w' ∧ OwnSl 1 (RFrom w.heap.size RDig) 25 w' w.heap.size v' (dsOf hD l) := by
  obtain ⟨A, c, rfl, hform⟩ := id hl
  clear hform
  obtain ⟨_, hcap, hlen, hel⟩ := hl.at
  have Hel := Lib.hid hel
  have Hv := Lib.hid hv
  clear hel hl hv
  go_enter Tryd.func78, Tryd.ntmps78
  go_wp2
  go_loopw [3, 4, 5] (fun v i _ wr => ∃ k : Nat, k ≤ l.length ∧ i = .int .i64 k ∧ OwnSl 1 (RFrom w.heap.size RDig) 25 wr w.heap.size v (dsOf hD (l.take k)) ∧ Below w.heap.size w wr) (fun _ i _ _ => l.length - (intOf i).toNat)
  case atStart => exact ⟨0, Nat.zero_le _, rfl, OwnSl.nil _ _ _ _ _, Below.refl _ _⟩
  case round =>
    obtain ⟨k, hk, rfl, hown, hbl⟩ := hrel
    have hbs := hbl.size
    by_cases hlt : k < l.length
    · obtain ⟨b0, o0, vb, vp, vv, rfl, q0, q1, q2, q3, q4, hb, hp, hvv⟩ := Hel.out k hlt
      obtain ⟨bA, bc, rfl, hf1⟩ := id hb
      obtain ⟨pA, pc, rfl, hf2⟩ := id hp
      obtain ⟨vA, vc, rfl, hf3⟩ := id hvv
      clear hf1 hf2 hf3 hvv
      have c0 := vle_below hbl _ _ q0
      have c1 := vle_below hbl _ _ q1
      have c2 := vle_below hbl _ _ q2
      have c3 := vle_below hbl _ _ q3
      have c4 := vle_below hbl _ _ q4
      have hb' := hb.mono RDig.mono (vle_below hbl)
      have hp' := hp.mono RDig.mono (vle_below hbl)
      have hval := Lib.hid (Hv.out l[k] (List.getElem_mem hlt))
      have Hn := Lib.hid (show dsOf hD (l.take (k + 1)) = dsOf hD (l.take k) ++ [hD l[k].hdr] by unfold dsOf; rw [List.take_succ_eq_append_getElem hlt, List.map_append, List.map_singleton])
      have Hlk := Lib.hid (show (dsOf hD (l.take k)).length = k by unfold dsOf; simp; omega)
      clear q0 q1 q2 q3 q4 hb hp
      generalize dsOf hD (l.take k) = L at hown Hn Hlk
      generalize l[k] = x at c0 c1 c2 c3 c4 hb' hp' hval Hn
      obtain ⟨z0, z1, z2⟩ := headF_zero4 hval.out
      go_wp2_with fail
      refine (headerDigestR_any _ _ _ _ x.hdr.batches x.hdr.parents _ (by omega) (by omega) hb' hp' (by omega)).mono ?_
      rintro e w1 ⟨d, rfl, hb1, hr⟩
      have hr : RBytes (View.from w1.cell? wr.heap.size) d (hD x.hdr) := hr
      have hown1 := hown.kept (RFrom.mono RDig.mono) hb1
      have hbl1 : Below w.heap.size w w1 := hbl.trans (hb1.mono hbs)
      have hR : RFrom w.heap.size RDig (View.but w1.cell? u3.ownBlock) [d] (hD x.hdr) :=
        ⟨d, rfl, hr.mono (from_from_but hbs (fun g hg => (hown.lt g hg).2))⟩
      have hs1 := hb1.size
      obtain ⟨A', c', rfl, hform⟩ := id hr
      clear hform c0 c1 c2 c3 c4 hb' hp' hr
      go_wp2_with (at_builtin; go_loud (refine wpList_append_sl1 (n := 140737488355328) (RFrom.mono RDig.mono) (hD x.hdr) [.slice A' (hD x.hdr).length c'] elemDig _ _ rfl rfl rfl hown1 hbl1 (Nat.le_trans hbs hs1) rfl rfl rfl rfl hR (Nat.le_refl _) (by rw [Hlk.out]; omega) (by rw [Hlk.out]; omega) ?_))
      intro v' w2 ho hbl2 _
      clear hown hown1 hR
      go_wp2
      go_roundw
      case rel => exact ⟨k + 1, by omega, by go_num, by rw [Hn.out]; exact ho, hbl2⟩
      case measure => simp [intOf]; omega
    · have : k = l.length := by omega
      subst this
      go_wp2
      go_ret
      exact ⟨_, rfl, hbl, by simpa using hown⟩
end Go.Proofs.YtedealljhmokoaaDoor

namespace Go.Proofs.YtedealljhmokoaaDoor
open Go.ChangeShapes Go.WideShapes Go.ChangeAt Go.RowKit
set_option linter.unusedVariables false
set_option linter.unusedSimpArgs false
theorem placeI_cases (ds : List (List UInt8)) (d : List UInt8) : (placeI ds d = -1) ∨ ∃ k : Nat, k < ds.length ∧ placeI ds d = k := by
  rcases idxI_cases (· == d) ds with ⟨h, _⟩ | ⟨k, hk, h, _⟩
  · exact .inl h
  · exact .inr ⟨k, hk, h⟩
theorem wrongP_neg {l : List Crt} {ds : List (List UInt8)} {r : Int} {p : List UInt8} (h : placeI ds p = -1) : wrongP l ds r p = false := by
  unfold wrongP
  rw [h]
  split <;> simp
theorem wrongP_pos {l : List Crt} {ds : List (List UInt8)} {r : Int} {p : List UInt8} {k : Nat} (hk : k < l.length) (h : placeI ds p = k) : wrongP l ds r p = (l[k].hdr.round != r - 1) := by
  unfold wrongP
  rw [h]
  simp [List.getElem?_eq_getElem hk]
def lost (ds : List (List UInt8)) (ps : List (List UInt8)) : Bool := ps.any fun p => decide (placeI ds p < 0)
theorem missN_zero (ds : List (List UInt8)) (h : Hdr) : (missN ds h).length = 0 ↔ lost ds h.parents = false := by
  unfold missN lost
  rw [List.length_eq_zero_iff, List.filter_eq_nil_iff, List.any_eq_false]
theorem missW_of {l : List Crt} {ds : List (List UInt8)} {h : Hdr} (hn : ∀ j (hj : j < h.parents.length), wrongP l ds h.round h.parents[j] = false) : missW l ds h = false := any_false_get hn
theorem missW_at {l : List Crt} {ds : List (List UInt8)} {h : Hdr} {k : Nat} (hk : k < h.parents.length) (hw : wrongP l ds h.round h.parents[k] = true) : missW l ds h = true := any_true_get hk hw
theorem lost_succ (ds ps : List (List UInt8)) {k : Nat} (hk : k < ps.length) : lost ds (ps.take (k + 1)) = (lost ds (ps.take k) || decide (placeI ds ps[k] < 0)) := by
  unfold lost
  rw [List.take_succ_eq_append_getElem hk, List.any_append]
  simp
set_option maxHeartbeats 4000000 in
set_option maxRecDepth 100000 in
theorem parentsFault_any (vl vs : Value) (l : List Crt) (ds : List (List UInt8)) (h : Hdr) (vb vp : Value) (w : World) (hl : RCrts w.cell? vl l) (hs : RDigs w.cell? vs ds) (hp : RDigs w.cell? vp h.parents) (hlen : ds.length ≤ l.length) (hr0 : 1 ≤ h.round) (hr1 : h.round ≤ 1048576) :
    Calls Tryd.prog 80 #[vl, vs, .agg #[.int .i64 h.author, .int .i64 h.round, vb, vp]] w fun e w' => e = .returned (.int .i64 (parF l ds h)) ∧ Below w.heap.size w w' := by
  obtain ⟨A, c, rfl, hf⟩ := id hl
  obtain ⟨pA, pc, rfl, hf2⟩ := id hp
  obtain ⟨_, hn1, hn2, hel⟩ := hl.at
  obtain ⟨_, hm1, hm2, hpel⟩ := hp.at
  have Hel := Lib.hid hel
  have Hpel := Lib.hid hpel
  have Hs := Lib.hid hs
  have Hlen := Lib.hid hlen
  clear hl hel hf hf2 hpel hp hs hlen
  obtain ⟨P, hP⟩ : ∃ P, Hid (h.parents = P) := ⟨_, rfl⟩
  have HQ : Hid (parF l ds h = if missW l ds h then 9 else if lost ds P then 8 else 0) := by
    show _ = _
    unfold parF
    rw [← hP.out]
    cases missW l ds h
    · simp only [Bool.false_eq_true, if_false]
      cases hz : lost ds h.parents
      · rw [if_pos ((missN_zero ds h).2 hz)]; simp
      · rw [if_neg (fun h0 => by rw [(missN_zero ds h).1 h0] at hz; cases hz)]; simp
    · rfl
  have HW0 : Hid ((∀ j (hj : j < P.length), wrongP l ds h.round P[j] = false) → missW l ds h = false) := fun hn => missW_of fun j hj => by
    have := hP.out; subst this; exact hn j hj
  have HW1 : Hid (∀ k (hk : k < P.length), wrongP l ds h.round P[k] = true → missW l ds h = true) := fun k hk hw => by
    have := hP.out; subst this; exact missW_at hk hw
  obtain ⟨Q, hQ⟩ : ∃ Q, Hid (parF l ds h = Q) := ⟨_, rfl⟩
  rw [hQ.out] at HQ ⊢
  generalize missW l ds h = MW at HQ HW0 HW1
  rw [hP.out] at hm1 hm2 Hpel ⊢
  generalize h.round = r at *
  generalize h.author = au at *
  have er : IntKind.i64.wrap (r - 1) = r - 1 := by rw [IntKind.wrap_i64]; omega
  clear hQ hP
  go_enter Tryd.func80, Tryd.ntmps80
  go_upto_region 1 with fail
  refine one_block _ _ _ (fun W => Code.wp _ _ _ _ W) (fun W hbk hsz hbW => ?_)
  have hzW := hbW.size
  clear hsz
  go_wp2
  go_loopw [7, 8, 9] (fun e i _ wr => ∃ k : Nat, k ≤ P.length ∧ i = .int .i64 k ∧ e = .int .i64 (if lost ds (P.take k) then 8 else 0) ∧ Hid (∀ j (hj : j < P.length), j < k → wrongP l ds r P[j] = false) ∧ Below W.heap.size W wr) (fun _ i _ _ => P.length - (intOf i).toNat)
  case atStart => exact ⟨0, Nat.zero_le _, rfl, rfl, fun j _ hj => by omega, Below.refl _ _⟩
  case round =>
    obtain ⟨k, hk, rfl, rfl, hno, hbl⟩ := hrel
    have hbk' := hbk.kept hbl
    have g1 := hbk'.cell 1; have g3 := hbk'.cell 3
    simp at g1 g3
    have hblw := hbW.trans (hbl.mono hzW)
    obtain ⟨e0, he0⟩ : ∃ e0 : Int, Hid ((if lost ds (P.take k) then 8 else 0 : Int) = e0) := ⟨_, rfl⟩
    rw [he0.out]
    by_cases hlt : k < P.length
    · obtain ⟨b0, o0, d, rfl, q0, hd⟩ := Hpel.out k hlt
      have c0 := vle_below hblw _ _ q0
      have hd' := hd.mono (vle_below hblw)
      have hstep := Lib.hid (lost_succ ds P hlt)
      have hcs := placeI_cases ds P[k]
      have hneg : Hid (placeI ds P[k] = -1 → wrongP l ds r P[k] = false) := fun h => wrongP_neg h
      have hpos : Hid (∀ j (hj : j < l.length), placeI ds P[k] = j → wrongP l ds r P[k] = (l[j].hdr.round != r - 1)) := fun j hj h => wrongP_pos hj h
      have hnext : Hid (wrongP l ds r P[k] = false → ∀ j (hj : j < P.length), j < k + 1 → wrongP l ds r P[j] = false) := fun hq j hj hjk => by
        by_cases e : j = k
        · subst e; exact hq
        · exact hno.out j hj (by omega)
      have hW1 := Lib.hid (HW1.out k hlt)
      clear q0 hd
      go_wp2_with fail
      refine (placeOf_any _ ds _ P[k] _ (Hs.out.mono RDig.mono (vle_below hblw)) hd').mono ?_
      rintro e w1 ⟨rfl, hb1⟩
      have hbl1 := hbl.trans (hb1.mono hbl.size)
      have hbk1 := hbk'.kept hb1
      have hblw1 := hbW.trans (hbl1.mono hzW)
      clear g1 g3 c0 hd' hbk'
      rcases hcs with hneg' | ⟨j, hj, hpos'⟩
      · rw [hneg']
        have hq := Lib.hid (hnext.out (hneg.out hneg'))
        have he1 : Hid ((if lost ds (P.take (k + 1)) then 8 else 0 : Int) = 8) := by show _ = _; rw [hstep.out, hneg']; simp
        clear hneg hpos hnext hstep he0 hneg'
        go_wp2_with fail
        refine wp_region_pl (fun w' => Below w1.heap.size w1 w') [] (.q 0 (.q 1 (.q 2 (.q 3 (.q 4 (.q 5 (.q 6 (.q 7 (.q 8 (.q 9 (.q 10 (.q 11 (.q 12 (.q 13 .nil)))))))))))))) (by kernel_rfl) (by kernel_rfl) (fun _ _ d _ _ h => by cases d <;> exact h) rfl (by kernel_rfl) ?_ ?_
        · exact below_drew _
        intro W2 hS
        repeat (first
          | (refine pl_q (by assumption) rfl rfl ?_; apply Exists.intro; refine ⟨fun w' hS => ?_, ?_⟩; (· (skip; go_simp; exact rfl)); simp only [List.getElem_toArray, List.getElem_cons_zero, List.getElem_cons_succ, Act.put, List.setIfInBounds_toArray, List.set_cons_zero, List.set_cons_succ])
          | (refine pl_qc rfl rfl ?_; apply Exists.intro; refine ⟨fun w' _ => ?_, ?_⟩; (· (go_simp; exact rfl)); simp only [List.getElem_toArray, List.getElem_cons_zero, List.getElem_cons_succ, Act.put, List.setIfInBounds_toArray, List.set_cons_zero, List.set_cons_succ])
          | (refine pl_skip (by assumption) rfl rfl ?_; simp only [List.getElem_toArray, List.getElem_cons_zero, List.getElem_cons_succ, Act.put, List.setIfInBounds_toArray, List.set_cons_zero, List.set_cons_succ])
          | (refine pl_skipl (by assumption) rfl rfl ?_; simp only [List.getElem_toArray, List.getElem_cons_zero, List.getElem_cons_succ, Act.put, List.setIfInBounds_toArray, List.set_cons_zero, List.set_cons_succ]))
        refine pl_nil ?_
        go_wp2
        go_roundw
        case rel => exact ⟨k + 1, by omega, by go_num, by rw [he1.out], hq.out, hbl1.trans (hS.mono hbl1.size)⟩
        case measure => simp [intOf]; omega
      · have hjl : j < l.length := by have := Hlen.out; omega
        rw [hpos']
        have hw := hpos.out j hjl hpos'
        have he1 : Hid ((if lost ds (P.take (k + 1)) then 8 else 0 : Int) = e0) := by show _ = _; rw [hstep.out, hpos', ← he0.out]; simp [show ¬ ((j : Int) < 0) by omega]
        obtain ⟨lb, lo, ub, up, uv, rfl, s0, s1, _⟩ := Hel.out j hjl
        have d1 := vle_below hblw1 _ _ s1
        clear hneg hpos hstep he0 hpos' s0 s1
        generalize l[j].hdr.round = y at hw d1
        by_cases hy : y = r - 1
        · have hq := Lib.hid (hnext.out (by rw [hw]; simp [hy]))
          clear hnext hw hW1
          subst hy
          go_wp2_with fail
          refine wp_region_pl (fun w' => Below w1.heap.size w1 w') [] (.q 0 (.q 1 (.q 2 (.q 3 (.q 4 (.q 5 (.q 6 (.q 7 (.q 8 (.q 9 (.q 10 (.q 11 (.q 12 (.q 13 .nil)))))))))))))) (by kernel_rfl) (by kernel_rfl) (fun _ _ d _ _ h => by cases d <;> exact h) rfl (by kernel_rfl) ?_ ?_
          · exact below_drew _
          intro W2 hS
          repeat (first
            | (refine pl_q (by assumption) rfl rfl ?_; apply Exists.intro; refine ⟨fun w' hS => ?_, ?_⟩; (· (have h1 := vle_below hS _ _ d1; have hq := hbk1.kept hS; have h2 := hq.cell 1; simp at h2; go_simp; exact rfl)); simp only [List.getElem_toArray, List.getElem_cons_zero, List.getElem_cons_succ, Act.put, List.setIfInBounds_toArray, List.set_cons_zero, List.set_cons_succ])
            | (refine pl_qc rfl rfl ?_; apply Exists.intro; refine ⟨fun w' _ => ?_, ?_⟩; (· (go_simp; exact rfl)); simp only [List.getElem_toArray, List.getElem_cons_zero, List.getElem_cons_succ, Act.put, List.setIfInBounds_toArray, List.set_cons_zero, List.set_cons_succ])
            | (refine pl_skip (by assumption) rfl rfl ?_; simp only [List.getElem_toArray, List.getElem_cons_zero, List.getElem_cons_succ, Act.put, List.setIfInBounds_toArray, List.set_cons_zero, List.set_cons_succ])
            | (refine pl_skipl (by assumption) rfl rfl ?_; simp only [List.getElem_toArray, List.getElem_cons_zero, List.getElem_cons_succ, Act.put, List.setIfInBounds_toArray, List.set_cons_zero, List.set_cons_succ]))
          refine pl_nil ?_
          go_wp2
          go_roundw
          case rel => exact ⟨k + 1, by omega, by go_num, by rw [he1.out], hq.out, hbl1.trans (hS.mono hbl1.size)⟩
          case measure => simp [intOf]; omega
        · have hmw := hW1.out (by rw [hw]; simp [hy])
          have HQ' : Hid (Q = 9) := by show _ = _; rw [HQ.out, hmw]; rfl
          clear hnext hw hW1 hmw he1 HQ HW0 HW1
          go_wp2_with fail
          refine wp_region_pl (fun w' => Below w1.heap.size w1 w') [] (.q 0 (.q 1 (.q 2 (.q 3 (.q 4 (.q 5 (.q 6 (.q 7 (.q 8 (.q 9 (.q 10 (.q 11 (.q 12 (.q 13 .nil)))))))))))))) (by kernel_rfl) (by kernel_rfl) (fun _ _ d _ _ h => by cases d <;> exact h) rfl (by kernel_rfl) ?_ ?_
          · exact below_drew _
          intro W2 hS
          repeat (first
            | (refine pl_q (by assumption) rfl rfl ?_; apply Exists.intro; refine ⟨fun w' hS => ?_, ?_⟩; (· (have h1 := vle_below hS _ _ d1; have hq := hbk1.kept hS; have h2 := hq.cell 1; simp at h2; go_simp; exact rfl)); simp only [List.getElem_toArray, List.getElem_cons_zero, List.getElem_cons_succ, Act.put, List.setIfInBounds_toArray, List.set_cons_zero, List.set_cons_succ])
            | (refine pl_qc rfl rfl ?_; apply Exists.intro; refine ⟨fun w' _ => ?_, ?_⟩; (· (go_simp; exact rfl)); simp only [List.getElem_toArray, List.getElem_cons_zero, List.getElem_cons_succ, Act.put, List.setIfInBounds_toArray, List.set_cons_zero, List.set_cons_succ])
            | (refine pl_skip (by assumption) rfl rfl ?_; simp only [List.getElem_toArray, List.getElem_cons_zero, List.getElem_cons_succ, Act.put, List.setIfInBounds_toArray, List.set_cons_zero, List.set_cons_succ])
            | (refine pl_skipl (by assumption) rfl rfl ?_; simp only [List.getElem_toArray, List.getElem_cons_zero, List.getElem_cons_succ, Act.put, List.setIfInBounds_toArray, List.set_cons_zero, List.set_cons_succ]))
          refine pl_nil ?_
          go_wp2
          go_ret
          exact ⟨ret_int HQ'.out.symm, hblw1.trans (hS.mono hblw1.size)⟩
    · have hkl : k = P.length := by omega
      have hmw := HW0.out (fun j hj => hno.out j hj (by omega))
      have HQ' : Hid (Q = e0) := by show _ = _; rw [HQ.out, hmw, ← he0.out, hkl, List.take_length]; rfl
      clear HQ HW0 HW1 hmw
      go_wp2
      go_ret
      exact ⟨ret_int HQ'.out.symm, hblw⟩
def lostN (ds ps : List (List UInt8)) : List (List UInt8) := ps.filter fun p => decide (placeI ds p < 0)
theorem lostN_succ (ds ps : List (List UInt8)) {k : Nat} (hk : k < ps.length) : lostN ds (ps.take (k + 1)) = lostN ds (ps.take k) ++ (if placeI ds ps[k] < 0 then [ps[k]] else []) := by
  unfold lostN
  rw [List.take_succ_eq_append_getElem hk, List.filter_append]
  congr 1
  by_cases h : placeI ds ps[k] < 0 <;> simp [h]
theorem lostN_len (ds ps : List (List UInt8)) : (lostN ds ps).length ≤ ps.length := List.length_filter_le _ _
theorem anyW_succ (l : List Crt) (ds ps : List (List UInt8)) (r : Int) {k : Nat} (hk : k < ps.length) : (ps.take (k + 1)).any (wrongP l ds r) = ((ps.take k).any (wrongP l ds r) || wrongP l ds r ps[k]) := by
  rw [List.take_succ_eq_append_getElem hk, List.any_append]
  simp
set_option maxHeartbeats 4000000 in
set_option maxRecDepth 100000 in
theorem missing_any (vl vs : Value) (l : List Crt) (ds : List (List UInt8)) (h : Hdr) (vb vp : Value) (w : World) (hl : RCrts w.cell? vl l) (hs : RDigs w.cell? vs ds) (hp : RDigs w.cell? vp h.parents) (hlen : ds.length ≤ l.length) (hr0 : 1 ≤ h.round) (hr1 : h.round ≤ 1048576) :
    Calls Tryd.prog 75 #[vl, vs, .agg #[.int .i64 h.author, .int .i64 h.round, vb, vp]] w fun e w' => ∃ v, e = .returned (.tuple #[v, .bool (missW l ds h)]) ∧ Below w.heap.size w w' ∧ OwnSl 1 (RFrom w.heap.size RDig) 25 w' w.heap.size v (missN ds h) := by
  obtain ⟨A, c, rfl, hf⟩ := id hl
  obtain ⟨pA, pc, rfl, hf2⟩ := id hp
  obtain ⟨_, hn1, hn2, hel⟩ := hl.at
  obtain ⟨_, hm1, hm2, hpel⟩ := hp.at
  have Hel := Lib.hid hel
  have Hpel := Lib.hid hpel
  have Hs := Lib.hid hs
  have Hlen := Lib.hid hlen
  clear hl hel hf hf2 hpel hp hs hlen
  rw [show missW l ds h = h.parents.any (wrongP l ds h.round) from rfl, show missN ds h = lostN ds h.parents from rfl]
  generalize h.parents = P at *
  generalize h.round = r at *
  generalize h.author = au at *
  have er : IntKind.i64.wrap (r - 1) = r - 1 := by rw [IntKind.wrap_i64]; omega
  obtain ⟨QW, hQW⟩ : ∃ q, Hid (P.any (wrongP l ds r) = q) := ⟨_, rfl⟩
  obtain ⟨QN, hQN⟩ : ∃ q, Hid (lostN ds P = q) := ⟨_, rfl⟩
  rw [hQW.out, hQN.out]
  go_enter Tryd.func75, Tryd.ntmps75
  go_upto_region 1 with fail
  refine one_block _ _ _ (fun W => Code.wp _ _ _ _ W) (fun W hbk hsz hbW => ?_)
  have hzW := hbW.size
  clear hsz
  have g3 := hbk.cell 3
  simp at g3
  go_wp2
  go_loopw [6, 7, 14] (fun v q i wr => ∃ k : Nat, k ≤ P.length ∧ i = .int .i64 k ∧ q = .bool ((P.take k).any (wrongP l ds r)) ∧ OwnSl 1 (RFrom w.heap.size RDig) 25 wr W.heap.size v (lostN ds (P.take k)) ∧ Below W.heap.size W wr) (fun _ _ i _ => P.length - (intOf i).toNat)
  case atStart => exact ⟨0, Nat.zero_le _, rfl, rfl, OwnSl.nil _ _ _ _ _, Below.refl _ _⟩
  case round =>
    clear g3
    obtain ⟨k, hk, rfl, rfl, hown, hbl⟩ := hrel
    have hbk' := hbk.kept hbl
    have hz := hbl.size
    have hblw := hbW.trans (hbl.mono hzW)
    obtain ⟨q0, hq0⟩ : ∃ q, Hid ((P.take k).any (wrongP l ds r) = q) := ⟨_, rfl⟩
    rw [hq0.out]
    by_cases hlt : k < P.length
    · obtain ⟨b0, o0, d, rfl, s0, hd⟩ := Hpel.out k hlt
      have c0 := vle_below hblw _ _ s0
      have hdB := hd
      have hd' := hd.mono (vle_below hblw)
      have hNs := Lib.hid (lostN_succ ds P hlt)
      have hWs := Lib.hid (anyW_succ l ds P r hlt)
      rw [hq0.out] at hWs
      have hcs := placeI_cases ds P[k]
      have hneg : Hid (placeI ds P[k] = -1 → wrongP l ds r P[k] = false) := fun h => wrongP_neg h
      have hpos : Hid (∀ j (hj : j < l.length), placeI ds P[k] = j → wrongP l ds r P[k] = (l[j].hdr.round != r - 1)) := fun j hj h => wrongP_pos hj h
      have Hlk := Lib.hid (show (lostN ds (P.take k)).length ≤ k from Nat.le_trans (lostN_len _ _) (by simp; omega))
      have hdl : P[k].length * 1 ≤ 140737488355328 := hd.len
      clear s0 hd
      generalize lostN ds (P.take k) = L at hown hNs Hlk
      generalize wrongP l ds r P[k] = WP at hneg hpos hWs
      generalize hX : P[k] = x at hd' hcs hneg hpos hNs hdl hdB
      clear hX
      go_wp2_with fail
      refine (at_any _ ds _ x _ (Hs.out.mono RDig.mono (vle_below hblw)) hd').mono ?_
      rintro e w1 ⟨rfl, hb1⟩
      have hbl1 := hbl.trans (hb1.mono hz)
      have hbk1 := hbk'.kept hb1
      have hblw1 := hbW.trans (hbl1.mono hzW)
      have hown1 := hown.kept (RFrom.mono RDig.mono) hb1
      have hz1 := hbl1.size
      clear c0 hd' hbk' hown
      rcases hcs with hneg' | ⟨j, hj, hpos'⟩
      · rw [hneg']
        have hq1 : Hid ((P.take (k + 1)).any (wrongP l ds r) = q0) := by show _ = _; rw [hWs.out, hneg.out hneg']; simp
        have hn1 : Hid (lostN ds (P.take (k + 1)) = L ++ [x]) := by show _ = _; rw [hNs.out, hneg']; simp
        have hd1 := hdB.mono (vle_below hblw1)
        clear hneg hpos hNs hWs hneg' hdB
        obtain ⟨dA, dc, rfl, hf⟩ := id hd1
        clear hf
        go_wp2_with fail
        refine (cloneB_any _ x _ hd1).mono ?_
        rintro e w2 ⟨d2, rfl, hb2, o2⟩
        have hown2 := hown1.kept (RFrom.mono RDig.mono) hb2
        have hbl2 : Below W.heap.size W w2 := hbl1.trans (hb2.mono hz1)
        have hR : RFrom w.heap.size RDig (View.but w2.cell? u6.ownBlock) [d2] x :=
          ⟨d2, rfl, o2.reads_from hdl (Nat.le_trans hzW hz1) (fun g hg => (hown1.lt g hg).2)⟩
        have hz2 := hbl2.size
        obtain ⟨A', c', rfl⟩ := o2.form
        clear hd1 o2 hown1
        go_wp2_with (at_builtin; go_loud (refine wpList_append_sl1 (n := 140737488355328) (RFrom.mono RDig.mono) x [.slice A' x.length c'] elemDig _ _ rfl rfl rfl hown2 hbl2 hz2 rfl rfl rfl rfl hR (Nat.le_refl _) (by have := Hlk.out; omega) (by have := Hlk.out; omega) ?_))
        intro v' w3 ho hbl3 _
        clear hown2 hR
        go_wp2
        go_roundw
        case rel => exact ⟨k + 1, by omega, by go_num, by rw [hq1.out], by rw [hn1.out]; exact ho, hbl3⟩
        case measure => simp [intOf]; omega
      · have hjl : j < l.length := by have := Hlen.out; omega
        rw [hpos']
        have hw := hpos.out j hjl hpos'
        have hn1 : Hid (lostN ds (P.take (k + 1)) = L) := by show _ = _; rw [hNs.out, hpos', if_neg (by omega), List.append_nil]
        obtain ⟨lb, lo, ub, up, uv, rfl, s0, s1, _⟩ := Hel.out j hjl
        have d1 := vle_below hblw1 _ _ s1
        clear hneg hpos hpos' s0 s1 hNs hdB
        generalize l[j].hdr.round = y at hw d1
        by_cases hy : y = r - 1
        · have hq1 : Hid ((P.take (k + 1)).any (wrongP l ds r) = q0) := by show _ = _; rw [hWs.out, hw]; simp [hy]
          clear hw hWs
          subst hy
          go_wp2_with fail
          refine wp_region_pl (fun w' => Below w1.heap.size w1 w') [] (.q 0 (.q 1 (.q 2 (.q 3 (.q 4 (.q 5 (.q 6 (.q 7 (.q 8 (.q 9 (.q 10 .nil))))))))))) (by kernel_rfl) (by kernel_rfl) (fun _ _ d _ _ h => by cases d <;> exact h) rfl (by kernel_rfl) ?_ ?_
          · exact below_drew _
          intro W2 hS
          have hown2 := hown1.kept (RFrom.mono RDig.mono) hS
          repeat (first
            | (refine pl_q (by assumption) rfl rfl ?_; apply Exists.intro; refine ⟨fun w' hS => ?_, ?_⟩; (· (have h1 := vle_below hS _ _ d1; have hq := hbk1.kept hS; have h2 := hq.cell 1; simp at h2; go_simp; exact rfl)); simp only [List.getElem_toArray, List.getElem_cons_zero, List.getElem_cons_succ, Act.put, List.setIfInBounds_toArray, List.set_cons_zero, List.set_cons_succ])
            | (refine pl_qc rfl rfl ?_; apply Exists.intro; refine ⟨fun w' _ => ?_, ?_⟩; (· (go_simp; exact rfl)); simp only [List.getElem_toArray, List.getElem_cons_zero, List.getElem_cons_succ, Act.put, List.setIfInBounds_toArray, List.set_cons_zero, List.set_cons_succ])
            | (refine pl_skip (by assumption) rfl rfl ?_; simp only [List.getElem_toArray, List.getElem_cons_zero, List.getElem_cons_succ, Act.put, List.setIfInBounds_toArray, List.set_cons_zero, List.set_cons_succ])
            | (refine pl_skipl (by assumption) rfl rfl ?_; simp only [List.getElem_toArray, List.getElem_cons_zero, List.getElem_cons_succ, Act.put, List.setIfInBounds_toArray, List.set_cons_zero, List.set_cons_succ]))
          refine pl_nil ?_
          go_wp2
          go_roundw
          case rel => exact ⟨k + 1, by omega, by go_num, by rw [hq1.out], by rw [hn1.out]; exact hown2, hbl1.trans (hS.mono hz1)⟩
          case measure => simp [intOf]; omega
        · have hq1 : Hid ((P.take (k + 1)).any (wrongP l ds r) = true) := by show _ = _; rw [hWs.out, hw]; simp [hy]
          clear hw hWs
          go_wp2_with fail
          refine wp_region_pl (fun w' => Below w1.heap.size w1 w') [] (.q 0 (.q 1 (.q 2 (.q 3 (.q 4 (.q 5 (.q 6 (.q 7 (.q 8 (.q 9 (.q 10 .nil))))))))))) (by kernel_rfl) (by kernel_rfl) (fun _ _ d _ _ h => by cases d <;> exact h) rfl (by kernel_rfl) ?_ ?_
          · exact below_drew _
          intro W2 hS
          have hown2 := hown1.kept (RFrom.mono RDig.mono) hS
          repeat (first
            | (refine pl_q (by assumption) rfl rfl ?_; apply Exists.intro; refine ⟨fun w' hS => ?_, ?_⟩; (· (have h1 := vle_below hS _ _ d1; have hq := hbk1.kept hS; have h2 := hq.cell 1; simp at h2; go_simp; exact rfl)); simp only [List.getElem_toArray, List.getElem_cons_zero, List.getElem_cons_succ, Act.put, List.setIfInBounds_toArray, List.set_cons_zero, List.set_cons_succ])
            | (refine pl_qc rfl rfl ?_; apply Exists.intro; refine ⟨fun w' _ => ?_, ?_⟩; (· (go_simp; exact rfl)); simp only [List.getElem_toArray, List.getElem_cons_zero, List.getElem_cons_succ, Act.put, List.setIfInBounds_toArray, List.set_cons_zero, List.set_cons_succ])
            | (refine pl_skip (by assumption) rfl rfl ?_; simp only [List.getElem_toArray, List.getElem_cons_zero, List.getElem_cons_succ, Act.put, List.setIfInBounds_toArray, List.set_cons_zero, List.set_cons_succ])
            | (refine pl_skipl (by assumption) rfl rfl ?_; simp only [List.getElem_toArray, List.getElem_cons_zero, List.getElem_cons_succ, Act.put, List.setIfInBounds_toArray, List.set_cons_zero, List.set_cons_succ]))
          refine pl_nil ?_
          go_wp2
          go_roundw
          case rel => exact ⟨k + 1, by omega, by go_num, by rw [hq1.out], by rw [hn1.out]; exact hown2, hbl1.trans (hS.mono hz1)⟩
          case measure => simp [intOf]; omega
    · have hkl : k = P.length := by omega
      have e1 : q0 = QW := by rw [← hq0.out, hkl, List.take_length, hQW.out]
      have e2 : lostN ds (P.take k) = QN := by rw [hkl, List.take_length, hQN.out]
      rw [e2] at hown
      have hown := hown.base hzW
      clear e2 hq0
      subst e1
      go_wp2
      go_ret2
      exact ⟨_, rfl, hblw, hown⟩
end Go.Proofs.YtedealljhmokoaaDoor

namespace Go.Proofs.YtedealljhmokoaaDoor
open Go.ChangeShapes Go.WideShapes Go.ChangeAt Go.RowKit
set_option linter.unusedVariables false
set_option linter.unusedSimpArgs false
theorem badC_at {l : List Crt} {k : Nat} (hk : k < l.length) : badC hD l k = (taken (l.take k) l[k].hdr || decide (parF (l.take k) ((dsOf hD l).take k) l[k].hdr ≠ 0)) := by
  unfold badC; rw [List.getElem?_eq_getElem hk]
theorem parF_ne (l : List Crt) (ds : List (List UInt8)) (h : Hdr) : decide (parF l ds h ≠ 0) = (missW l ds h || decide (0 < (missN ds h).length)) := by
  unfold parF
  cases missW l ds h
  · simp only [Bool.false_eq_true, if_false, Bool.false_or]
    by_cases hz : (missN ds h).length = 0
    · rw [if_pos hz, hz]; decide
    · rw [if_neg hz]
      have : 0 < (missN ds h).length := by omega
      simp [this]
  · simp
theorem RSl.weak {α : Type} {sz bs : Nat} {R R' : View → List Value → α → Prop} (hR : ∀ h cs x, R h cs x → R' h cs x) {h : View} {v : Value} {xs : List α} (hr : RSl sz R bs h v xs) : RSl sz R' bs h v xs := by
  obtain ⟨A, c, e, h1, h2, h3, h4, h5⟩ := hr
  refine ⟨A, c, e, h1, h2, h3, h4, fun hp => ?_⟩
  obtain ⟨b, o, ea, hc⟩ := h5 hp
  exact ⟨b, o, ea, fun i hi => by obtain ⟨cs, k1, k2, k3⟩ := hc i hi; exact ⟨cs, k1, k2, hR _ _ _ k3⟩⟩
theorem certI_cases (l : List Crt) (a r : Int) : (certI l a r = -1 ∧ l.any (isCert a r) = false) ∨ ∃ k : Nat, certI l a r = k ∧ l.any (isCert a r) = true := by
  rcases idxI_cases (isCert a r) l with ⟨h1, h2⟩ | ⟨k, hk, h1, h2, _⟩
  · exact .inl ⟨h1, h2⟩
  · exact .inr ⟨k, h1, List.any_eq_true.2 ⟨_, List.getElem_mem hk, h2⟩⟩
theorem dsOf_len (l : List Crt) : (dsOf hD l).length = l.length := by unfold dsOf; simp
theorem dagF_big {l : List Crt} (h : 400 < l.length) : dagF hD cF l = 12 := by unfold dagF; rw [if_pos h]
theorem dagF_cert {l : List Crt} (h : ¬ 400 < l.length) {k : Nat} (hk : k < l.length) (hc : cF l[k] ≠ 0) : dagF hD cF l = 12 := by
  unfold dagF
  rw [if_neg h, if_pos (List.any_eq_true.2 ⟨l[k], List.getElem_mem hk, by simp [hc]⟩)]
theorem all_valid {l : List Crt} (h : ∀ j (hj : j < l.length), cF l[j] = 0) : ∀ c ∈ l, cF c = 0 := fun c hc => by
  obtain ⟨i, hi, rfl⟩ := List.getElem_of_mem hc
  exact h i hi
theorem dagF_rest {l : List Crt} (h : ¬ 400 < l.length) (hv : ∀ c ∈ l, cF c = 0) : dagF hD cF l = if (List.range l.length).any (badC hD l) then 12 else 0 := by
  unfold dagF
  rw [if_neg h, if_neg]
  rw [Bool.not_eq_true, List.any_eq_false]
  intro c hc
  simp [hv c hc]
set_option maxHeartbeats 4000000 in
set_option maxRecDepth 100000 in
theorem dagFault_any (vl : Value) (l : List Crt) (w : World) (hl : RCrts w.cell? vl l) :
    Calls Tryd.prog 32 #[.agg #[vl]] w fun e w' => e = .returned (.int .i64 (dagF hD cF l)) ∧ Below w.heap.size w w' := by
  obtain ⟨A, c, rfl, hform⟩ := id hl
  obtain ⟨_, hn1, hn2, hel⟩ := hl.at
  have Hel := Lib.hid hel
  have Hl := Lib.hid hl
  clear hel hl hform
  obtain ⟨Q, hQ⟩ : ∃ Q, Hid (dagF hD cF l = Q) := ⟨_, rfl⟩
  rw [hQ.out]
  by_cases hbig : 400 < l.length
  · have HQ : Hid (Q = 12) := by show _ = _; rw [← hQ.out, dagF_big hbig]
    clear hQ
    go_enter Tryd.func32, Tryd.ntmps32
    go_wp2
    go_ret
    exact ⟨ret_int HQ.out.symm, below_one _ _⟩
  have Hbig := Lib.hid hbig
  have hn4 : l.length ≤ 400 := by omega
  clear hbig
  go_enter Tryd.func32, Tryd.ntmps32
  go_upto_region 1 with fail
  refine one_block _ _ _ (fun W => Code.wp _ _ _ _ W) (fun W hbk hsz hbW => ?_)
  have hzW := hbW.size
  clear hsz
  have g0 := hbk.cell 0
  simp at g0
  go_wp2
  go_loopw [3] (fun i wr => ∃ k : Nat, k ≤ l.length ∧ i = .int .i64 k ∧ Hid (∀ j (hj : j < l.length), j < k → cF l[j] = 0) ∧ Below W.heap.size W wr) (fun i _ => l.length - (intOf i).toNat)
  case atStart => exact ⟨0, Nat.zero_le _, rfl, fun j _ hj => by omega, Below.refl _ _⟩
  case round =>
    clear g0
    obtain ⟨k, hk, rfl, hok, hbl⟩ := hrel
    have hbk' := hbk.kept hbl
    have g0 := hbk'.cell 0
    simp at g0
    have hblw := hbW.trans (hbl.mono hzW)
    by_cases hlt : k < l.length
    · obtain ⟨b0, o0, vb, vp, vv, rfl, q0, q1, q2, q3, q4, hb, hp, hv⟩ := Hel.out k hlt
      have c0 := vle_below hblw _ _ q0; have c1 := vle_below hblw _ _ q1; have c2 := vle_below hblw _ _ q2; have c3 := vle_below hblw _ _ q3; have c4 := vle_below hblw _ _ q4
      have hb' := Lib.hid (hb.mono RDig.mono (vle_below hblw))
      have hp' := Lib.hid (hp.mono RDig.mono (vle_below hblw))
      have hv' := Lib.hid (hv.mono (vle_below hblw))
      have hx : Hid (∀ e, cF l[k] = e → certF l[k].hdr.author l[k].hdr.round l[k].hdr.batches l[k].hdr.parents l[k].voters = e) := fun e h => h
      have hbadQ : Hid (cF l[k] ≠ 0 → Q = 12) := fun h => by rw [← hQ.out]; exact dagF_cert Hbig.out hlt h
      have hnext : Hid (cF l[k] = 0 → ∀ j (hj : j < l.length), j < k + 1 → cF l[j] = 0) := fun hq j hj hjk => by
        by_cases e : j = k
        · subst e; exact hq
        · exact hok.out j hj (by omega)
      clear q0 q1 q2 q3 q4 hb hp hv
      generalize l[k] = x at *
      obtain ⟨E, hE⟩ : ∃ E, Hid (cF x = E) := ⟨_, rfl⟩
      rw [hE.out] at hnext hbadQ
      go_wp2_with fail
      refine (certFault_any _ _ _ _ _ x.hdr.batches x.hdr.parents x.voters _ hb'.out hp'.out hv'.out).mono ?_
      rintro e w1 ⟨rfl, hb1⟩
      rw [hx.out _ hE.out]
      have hbl1 := hbl.trans (hb1.mono hbl.size)
      clear hb' hp' hv' c0 c1 c2 c3 c4 g0 hx
      by_cases h0 : E = 0
      · have hq := Lib.hid (hnext.out h0)
        clear hnext hbadQ
        subst h0
        go_wp2
        go_roundw
        case rel => exact ⟨k + 1, by omega, by go_num, hq.out, hbl1⟩
        case measure => simp [intOf]; omega
      · have HQ := Lib.hid (hbadQ.out h0)
        clear hnext hbadQ
        go_wp2
        go_ret
        exact ⟨ret_int HQ.out.symm, hbW.trans (hbl1.mono hzW)⟩
    · have hkl : k = l.length := by omega
      have hval := all_valid (fun j hj => hok.out j hj (by omega))
      have HQ1 : Hid (Q = if (List.range l.length).any (badC hD l) then 12 else 0) := by show _ = _; rw [← hQ.out, dagF_rest Hbig.out hval]
      have Hval := Lib.hid hval
      clear hval hQ hok
      go_wp2_with fail
      refine (digestsOf_any _ l _ (Hl.out.mono RCrt.mono (vle_below hblw)) (fun c hc => cF_hF (Hval.out c hc))).mono ?_
      rintro e w1 ⟨vd, rfl, hb1, od⟩
      have hbl1 := hbl.trans (hb1.mono hbl.size)
      have hblw1 := hbW.trans (hbl1.mono hzW)
      have hDl := dsOf_len l
      have rD := od.reads (RFrom.mono RDig.mono) (bs := 24) (by omega)
      have rD : RDigs w1.cell? vd (dsOf hD l) := RSl.weak (fun h cs x hr => RDig.mono _ _ _ _ hr (View.from_le _ _)) rD
      obtain ⟨dA, dc, rfl, hdc, hform⟩ := id rD
      clear hform
      rw [hDl] at hdc
      have HDl := Lib.hid hDl
      have RD := Lib.hid rD
      have hbk1 := hbk'.kept hb1
      have hz1 := hbl1.size
      clear g0
      have g0 := hbk1.cell 0
      simp at g0
      clear hbk' rD od hDl hkl hlt hk
      obtain ⟨DN, hDN⟩ : ∃ DN, Hid ((dsOf hD l).length = DN) := ⟨_, rfl⟩
      rw [hDN.out]
      have hDN' : DN = l.length := by rw [← hDN.out, HDl.out]
      go_wp2
      go_loopw [5, 6] (fun i _ wr => ∃ k : Nat, k ≤ l.length ∧ i = .int .i64 k ∧ Hid (∀ j, j < k → badC hD l j = false) ∧ Below W.heap.size W wr ∧ Below w1.heap.size w1 wr) (fun i _ _ => l.length - (intOf i).toNat)
      case atStart => exact ⟨0, Nat.zero_le _, rfl, fun j hj => by omega, hbl1, Below.refl _ _⟩
      case round =>
        clear g0
        obtain ⟨k, hk, rfl, hok, hbl2, hbl12⟩ := hrel
        have hbk2 := hbk.kept hbl2
        have g0 := hbk2.cell 0
        simp at g0
        have hz2 := hbl2.size
        have hblw2 := hbW.trans (hbl2.mono hzW)
        by_cases hlt : k < l.length
        · obtain ⟨b0, o0, vb, vp, vv, rfl, q0, q1, q2, q3, q4, hb, hp, hv⟩ := Hel.out k hlt
          have c0 := vle_below hblw2 _ _ q0; have c1 := vle_below hblw2 _ _ q1; have c2 := vle_below hblw2 _ _ q2; have c3 := vle_below hblw2 _ _ q3
          have hpw := hp
          have Hb := Lib.hid (badC_at hlt)
          have Hr := Lib.hid (headF_zero (cF_hF (Hval.out l[k] (List.getElem_mem hlt))))
          have hsub := (Hl.out.take (k := k) (by omega)).mono RCrt.mono (vle_below hblw2)
          have hsubD := (RD.out.take (k := k) (by rw [HDl.out]; omega)).mono RDig.mono (vle_below hbl12)
          have hlsub : ((dsOf hD l).take k).length ≤ (l.take k).length := by rw [List.length_take, List.length_take, HDl.out]; omega
          have hkc : k ≤ c := by omega
          have hkc' : (k : Int) ≤ (c : Int) := by omega
          have hkd : k ≤ dc := by omega
          have hkd' : (k : Int) ≤ (dc : Int) := by omega
          have hnext : Hid (badC hD l k = false → ∀ j, j < k + 1 → badC hD l j = false) := fun hq j hj => by
            by_cases e : j = k
            · subst e; exact hq
            · exact hok.out j (by omega)
          have hbadQ : Hid (badC hD l k = true → Q = 12) := fun h => by rw [HQ1.out, if_pos (any_range_true hlt h)]
          obtain ⟨bA, bc, rfl, hf1⟩ := id hb
          obtain ⟨pA, pc, rfl, hf2⟩ := id hp
          clear q0 q1 q2 q3 q4 hb hp hv hf1 hf2
          generalize l[k] = x at *
          generalize l.take k = L at hsub Hb hlsub
          generalize (dsOf hD l).take k = Ds at hsubD Hb hlsub
          generalize badC hD l k = BK at Hb hnext hbadQ
          have hx1 : Hid (taken L x.hdr = L.any (isCert x.hdr.author x.hdr.round)) := rfl
          go_wp2_with fail
          refine one_block _ _ _ (fun W => (Code.region _ _ _).wp _ _ _ W) (fun W2 hk2 hsz2 hbW2 => ?_)
          clear hsz2 c0 c1 c2 c3 g0
          have hblw3 := hblw2.trans (hbW2.mono hblw2.size)
          have hbl3 := hbl2.trans (hbW2.mono hz2)
          have hbk3 := hbk2.kept hbW2
          have hsub := hsub.mono RCrt.mono (vle_below hbW2)
          have hsubD := hsubD.mono RDig.mono (vle_below hbW2)
          have hp3 := hpw.mono RDig.mono (vle_below hblw3)
          clear hpw
          refine wp_region_pl (fun w' => Below W2.heap.size W2 w') [] (.q 0 (.q 1 (.q 2 (.q 3 (.q 4 (.q 5 (.q 6 (.q 7 (.l 8 (.q 9 (.q 10 (.q 11 (.q 12 (.q 13 (.q 14 (.q 15 (.q 16 (.q 17 (.q 18 (.l 19 (.q 20 (.q 21 .nil)))))))))))))))))))))) (by kernel_rfl) (by kernel_rfl) (fun _ _ d _ _ h => by cases d <;> exact h) rfl (by kernel_rfl) ?_ ?_
          · exact below_drew _
          intro W3 hS3
          have hblS : ∀ W', Below W2.heap.size W2 W' → Below W.heap.size W W' := fun W' h => hbl3.trans (h.mono hbl3.size)
          repeat (first
            | (refine pl_q (by assumption) rfl rfl ?_; apply Exists.intro; refine ⟨fun w' hS => ?_, ?_⟩; (· (have hq := hbk3.kept hS; have h0 := hq.cell 0; have hh := hk2.kept hS; have h1 := hh.cell 0; have h2 := hh.cell 1; simp at h0 h1 h2; go_simp; exact rfl)); simp only [List.getElem_toArray, List.getElem_cons_zero, List.getElem_cons_succ, Act.put, List.setIfInBounds_toArray, List.set_cons_zero, List.set_cons_succ])
            | (refine pl_qc rfl rfl ?_; apply Exists.intro; refine ⟨fun w' _ => ?_, ?_⟩; (· (go_simp; exact rfl)); simp only [List.getElem_toArray, List.getElem_cons_zero, List.getElem_cons_succ, Act.put, List.setIfInBounds_toArray, List.set_cons_zero, List.set_cons_succ])
            | (refine pl_skip (by assumption) rfl rfl ?_; simp only [List.getElem_toArray, List.getElem_cons_zero, List.getElem_cons_succ, Act.put, List.setIfInBounds_toArray, List.set_cons_zero, List.set_cons_succ])
            | (refine pl_skipl (by assumption) rfl rfl ?_; simp only [List.getElem_toArray, List.getElem_cons_zero, List.getElem_cons_succ, Act.put, List.setIfInBounds_toArray, List.set_cons_zero, List.set_cons_succ]))
          first
            | refine pl_do rfl rfl (fun K hK => ?_)
            | refine op_do rfl rfl (fun K hK => ?_)
          try simp only [List.getElem_toArray, List.getElem_cons_zero, List.getElem_cons_succ]
          go_simp
          refine (certOf_any _ L x.hdr.author x.hdr.round _ (hsub.mono RCrt.mono (vle_below hS3))).mono ?_
          rintro e w4 ⟨rfl, hb4⟩
          have hb5 := hS3.trans (hb4.mono hS3.size)
          rcases certI_cases L x.hdr.author x.hdr.round with ⟨e1, e2⟩ | ⟨j, e1, e2⟩
          · rw [e1]
            have Hb2 : Hid (BK = decide (parF L Ds x.hdr ≠ 0)) := by show _ = _; rw [Hb.out, hx1.out, e2]; rfl
            clear e1 e2 Hb hx1
            refine hK.out _ _ (hb5) (fun hS => ?_)
            clear hK K
            try simp only [List.getElem_toArray, List.getElem_cons_zero, List.getElem_cons_succ, Act.put, List.setIfInBounds_toArray, List.set_cons_zero, List.set_cons_succ]
            repeat (first
              | (refine pl_q (by assumption) rfl rfl ?_; apply Exists.intro; refine ⟨fun w' hS => ?_, ?_⟩; (· (have hq := hbk3.kept hS; have h0 := hq.cell 0; have hh := hk2.kept hS; have h1 := hh.cell 0; have h2 := hh.cell 1; have h3 := hh.cell 2; have h4 := hh.cell 3; simp at h0 h1 h2 h3 h4; go_simp; exact rfl)); simp only [List.getElem_toArray, List.getElem_cons_zero, List.getElem_cons_succ, Act.put, List.setIfInBounds_toArray, List.set_cons_zero, List.set_cons_succ])
              | (refine pl_qc rfl rfl ?_; apply Exists.intro; refine ⟨fun w' _ => ?_, ?_⟩; (· (go_simp; exact rfl)); simp only [List.getElem_toArray, List.getElem_cons_zero, List.getElem_cons_succ, Act.put, List.setIfInBounds_toArray, List.set_cons_zero, List.set_cons_succ])
              | (refine pl_skip (by assumption) rfl rfl ?_; simp only [List.getElem_toArray, List.getElem_cons_zero, List.getElem_cons_succ, Act.put, List.setIfInBounds_toArray, List.set_cons_zero, List.set_cons_succ])
              | (refine pl_skipl (by assumption) rfl rfl ?_; simp only [List.getElem_toArray, List.getElem_cons_zero, List.getElem_cons_succ, Act.put, List.setIfInBounds_toArray, List.set_cons_zero, List.set_cons_succ]))
            first
              | refine pl_do rfl rfl (fun K hK => ?_)
              | refine op_do rfl rfl (fun K hK => ?_)
            try simp only [List.getElem_toArray, List.getElem_cons_zero, List.getElem_cons_succ]
            go_simp
            refine (parentsFault_any _ _ L Ds x.hdr _ _ _ (hsub.mono RCrt.mono (vle_below hb5)) (hsubD.mono RDig.mono (vle_below hb5)) (hp3.mono RDig.mono (vle_below hb5)) hlsub Hr.out.1 Hr.out.2.1).mono ?_
            rintro e w6 ⟨rfl, hb6⟩
            have hb7 := hb5.trans (hb6.mono hb5.size)
            obtain ⟨PF, hPF⟩ : ∃ PF, Hid (parF L Ds x.hdr = PF) := ⟨_, rfl⟩
            rw [hPF.out]
            rw [hPF.out] at Hb2
            by_cases h0 : PF = 0
            · have hq := Lib.hid (hnext.out (by rw [Hb2.out]; simp [h0]))
              clear hnext hbadQ Hb2 hPF
              subst h0
              refine hK.out _ _ (hb7) (fun hS => ?_)
              clear hK K
              try simp only [List.getElem_toArray, List.getElem_cons_zero, List.getElem_cons_succ, Act.put, List.setIfInBounds_toArray, List.set_cons_zero, List.set_cons_succ]
              repeat (first
                | (refine pl_q (by assumption) rfl rfl ?_; apply Exists.intro; refine ⟨fun w' hS => ?_, ?_⟩; (· (skip; go_simp; exact rfl)); simp only [List.getElem_toArray, List.getElem_cons_zero, List.getElem_cons_succ, Act.put, List.setIfInBounds_toArray, List.set_cons_zero, List.set_cons_succ])
                | (refine pl_qc rfl rfl ?_; apply Exists.intro; refine ⟨fun w' _ => ?_, ?_⟩; (· (go_simp; exact rfl)); simp only [List.getElem_toArray, List.getElem_cons_zero, List.getElem_cons_succ, Act.put, List.setIfInBounds_toArray, List.set_cons_zero, List.set_cons_succ])
                | (refine pl_skip (by assumption) rfl rfl ?_; simp only [List.getElem_toArray, List.getElem_cons_zero, List.getElem_cons_succ, Act.put, List.setIfInBounds_toArray, List.set_cons_zero, List.set_cons_succ])
                | (refine pl_skipl (by assumption) rfl rfl ?_; simp only [List.getElem_toArray, List.getElem_cons_zero, List.getElem_cons_succ, Act.put, List.setIfInBounds_toArray, List.set_cons_zero, List.set_cons_succ]))
              refine pl_nil ?_
              go_wp2
              go_roundw
              case rel => exact ⟨k + 1, by omega, by go_num, hq.out, hblS _ hb7, (hbl12.trans (hbW2.mono hbl12.size)).trans (hb7.mono (Nat.le_trans hbl12.size hbW2.size))⟩
              case measure => simp [intOf]; omega
            · have HQ := Lib.hid (hbadQ.out (by rw [Hb2.out]; simp [h0]))
              clear hnext hbadQ Hb2 hPF
              refine hK.out _ _ (hb7) (fun hS => ?_)
              clear hK K
              try simp only [List.getElem_toArray, List.getElem_cons_zero, List.getElem_cons_succ, Act.put, List.setIfInBounds_toArray, List.set_cons_zero, List.set_cons_succ]
              repeat (first
                | (refine pl_q (by assumption) rfl rfl ?_; apply Exists.intro; refine ⟨fun w' hS => ?_, ?_⟩; (· (skip; go_simp; exact rfl)); simp only [List.getElem_toArray, List.getElem_cons_zero, List.getElem_cons_succ, Act.put, List.setIfInBounds_toArray, List.set_cons_zero, List.set_cons_succ])
                | (refine pl_qc rfl rfl ?_; apply Exists.intro; refine ⟨fun w' _ => ?_, ?_⟩; (· (go_simp; exact rfl)); simp only [List.getElem_toArray, List.getElem_cons_zero, List.getElem_cons_succ, Act.put, List.setIfInBounds_toArray, List.set_cons_zero, List.set_cons_succ])
                | (refine pl_skip (by assumption) rfl rfl ?_; simp only [List.getElem_toArray, List.getElem_cons_zero, List.getElem_cons_succ, Act.put, List.setIfInBounds_toArray, List.set_cons_zero, List.set_cons_succ])
                | (refine pl_skipl (by assumption) rfl rfl ?_; simp only [List.getElem_toArray, List.getElem_cons_zero, List.getElem_cons_succ, Act.put, List.setIfInBounds_toArray, List.set_cons_zero, List.set_cons_succ]))
              refine pl_nil ?_
              go_wp2
              go_ret
              exact ⟨ret_int HQ.out.symm, hbW.trans ((hblS _ hb7).mono hzW)⟩
          · rw [e1]
            have HQ := Lib.hid (hbadQ.out (by rw [Hb.out, hx1.out, e2]; rfl))
            clear e1 e2 Hb hx1 hnext hbadQ
            refine hK.out _ _ (hb5) (fun hS => ?_)
            clear hK K
            try simp only [List.getElem_toArray, List.getElem_cons_zero, List.getElem_cons_succ, Act.put, List.setIfInBounds_toArray, List.set_cons_zero, List.set_cons_succ]
            repeat (first
              | (refine pl_q (by assumption) rfl rfl ?_; apply Exists.intro; refine ⟨fun w' hS => ?_, ?_⟩; (· (skip; go_simp; exact rfl)); simp only [List.getElem_toArray, List.getElem_cons_zero, List.getElem_cons_succ, Act.put, List.setIfInBounds_toArray, List.set_cons_zero, List.set_cons_succ])
              | (refine pl_qc rfl rfl ?_; apply Exists.intro; refine ⟨fun w' _ => ?_, ?_⟩; (· (go_simp; exact rfl)); simp only [List.getElem_toArray, List.getElem_cons_zero, List.getElem_cons_succ, Act.put, List.setIfInBounds_toArray, List.set_cons_zero, List.set_cons_succ])
              | (refine pl_skip (by assumption) rfl rfl ?_; simp only [List.getElem_toArray, List.getElem_cons_zero, List.getElem_cons_succ, Act.put, List.setIfInBounds_toArray, List.set_cons_zero, List.set_cons_succ])
              | (refine pl_skipl (by assumption) rfl rfl ?_; simp only [List.getElem_toArray, List.getElem_cons_zero, List.getElem_cons_succ, Act.put, List.setIfInBounds_toArray, List.set_cons_zero, List.set_cons_succ]))
            refine pl_nil ?_
            go_wp2
            go_ret
            exact ⟨ret_int HQ.out.symm, hbW.trans ((hblS _ hb5).mono hzW)⟩
        · have HQ : Hid (Q = 0) := by
            show _ = _
            rw [HQ1.out, if_neg]
            rw [Bool.not_eq_true]
            exact any_range_false fun j hj => hok.out j (by omega)
          go_wp2
          go_ret
          exact ⟨ret_int HQ.out.symm, hblw2⟩
end Go.Proofs.YtedealljhmokoaaDoor

namespace Go.Proofs.YtedealljhmokoaaDoor
open Go.ChangeShapes Go.WideShapes Go.ChangeAt Go.RowKit
set_option linter.unusedVariables false
open Go.Maps
set_option linter.unusedSimpArgs false
def bF (x : Bat) : Int := batchF x.author x.number x.txs
def bD (x : Bat) : List UInt8 := batD x.author x.number x.txs
def badB (l : List Bat) (i : Nat) : Bool := match l[i]? with | some x => bF x != 0 || ((l.take i).map bD).any (· == bD x) | none => false
def batsF (l : List Bat) : Int := if 800 < l.length then 12 else if (List.range l.length).any (badB l) then 12 else 0
theorem badB_at {l : List Bat} {k : Nat} (hk : k < l.length) : badB l k = (bF l[k] != 0 || ((l.take k).map bD).any (· == bD l[k])) := by
  unfold badB; simp [hk]
theorem strKey : Keyed Tryd.prog 9 := string_keyed Tryd.underlying9
theorem zeroU (w : World) : (zeroValue 89).run Tryd.prog w = .ok (.agg #[]) w := by kernel_rfl
def keysOf (ds : List (List UInt8)) : List Lit := ds.map Lit.string
theorem has_keys (ds : List (List UInt8)) (d : List UInt8) : Maps.has (setOf (H := Unit) (.agg []) (keysOf ds)) (.string d) = ds.any (· == d) := by
  rw [has_setOf _ _ _ (by
    intro x hx
    unfold keysOf at hx
    obtain ⟨y, _, rfl⟩ := List.mem_map.1 hx
    trivial)]
  unfold keysOf
  rw [List.any_map]
  rfl
theorem key_str {d : List UInt8} (h : d.length ≤ 140737488355328) : keyOf Tryd.prog 9 (.string (bstr d)) = some (.string d) :=
  WideMaps.keyOf_string_mk Tryd.underlying9 (s := bstr d) (by rw [bstr_size]; exact le_maxLen h)
theorem ownsMap_below {P : Program} {k : TypeId} {R : Value → Option (DataW Unit × List MemPlace)} {w w' : World} {b n : Nat} {D : DataW Unit} (h : w.ownsMap P k R b n D) (hb : Below w.heap.size w w') : w'.ownsMap P k R b n D :=
  h.kept (grownBy_below none hb) (by simp)
set_option maxHeartbeats 4000000 in
set_option maxRecDepth 100000 in
theorem checkBatches_any (v : Value) (l : List Bat) (w : World) (hv : RBats w.cell? v l) (hT : Tabs w.cell?) :
    Calls Tryd.prog 18 #[v] w fun e w' => e = .returned (.int .i64 (batsF l)) ∧ Below w.heap.size w w' := by
  obtain ⟨A, c, rfl, hf⟩ := id hv
  clear hf
  obtain ⟨_, hn1, hn2, hel⟩ := RBats.at hv
  have Hel := Lib.hid hel
  clear hel hv
  obtain ⟨Q, hQ⟩ : ∃ q, Hid (batsF l = q) := ⟨_, rfl⟩
  have hQ0 : Hid (Q = if 800 < l.length then 12 else if (List.range l.length).any (badB l) then 12 else 0) := hQ.out.symm
  rw [hQ.out]
  clear hQ
  have hmm := @run_makeMap Tryd.prog
  go_enter Tryd.func18, Tryd.ntmps18
  by_cases hbig : (800 : Int) < l.length
  · have HQ : Hid (Q = 12) := by show _ = _; rw [hQ0.out, if_pos (by omega)]
    go_wp2
    go_ret
    exact ⟨ret_int HQ.out.symm, Below.refl _ _⟩
  have hQ1 : Hid (Q = if (List.range l.length).any (badB l) then 12 else 0) := by show _ = _; rw [hQ0.out, if_neg (by omega)]
  have hl8 := Lib.hid (show l.length ≤ 800 by omega)
  clear hQ0
  go_wp2_with fail
  go_loopw [5, 6, 7, 8, 9, 16] (fun _ _ _ _ _ i wr => ∃ k : Nat, k ≤ l.length ∧ i = .int .i64 k ∧ (∀ j, j < k → badB l j = false) ∧ wr.ownsMap Tryd.prog 9 (unitElem (H := Unit)) w.heap.size k (setOf (.agg []) (keysOf ((l.take k).map bD))) ∧ Below w.heap.size w wr ∧ w.heap.size + 1 ≤ wr.heap.size) (fun _ _ _ _ _ i _ => l.length - (intOf i).toNat)
  case atStart => exact ⟨0, Nat.zero_le _, rfl, fun j hj => by omega, World.ownsMap_made _ _ _ _, (Below.refl _ _).alloc (Nat.le_refl _) _, by simp⟩
  case round =>
    obtain ⟨k, hk, rfl, hok', hown, hbl, hz⟩ := hrel
    have hok := Lib.hid hok'
    clear hok'
    by_cases hlt : k < l.length
    · obtain ⟨b0, o0, d, rfl, e0, e1, e2, hd, hs⟩ := Hel.out k hlt
      have c0 := vle_below hbl _ _ e0
      have c1 := vle_below hbl _ _ e1
      have c2 := vle_below hbl _ _ e2
      have hd' := hd.mono (vle_below hbl)
      have Hs := Lib.hid hs
      have Hb := Lib.hid (badB_at hlt)
      have Hn := Lib.hid (show (l.take (k + 1)).map bD = (l.take k).map bD ++ [bD l[k]] by rw [List.take_succ_eq_append_getElem hlt, List.map_append]; rfl)
      have hnext : Hid (badB l k = false → ∀ j, j < k + 1 → badB l j = false) := fun hq j hj => by
        by_cases e : j = k
        · subst e; exact hq
        · exact hok.out j (by omega)
      have hbadQ : Hid (badB l k = true → Q = 12) := fun h => by rw [hQ1.out, if_pos (any_range_true hlt h)]
      obtain ⟨txA, txc, rfl, hg⟩ := id hd
      clear e0 e1 e2 hd hs hg
      have hHas : Hid (∀ d, Maps.has (setOf (H := Unit) (.agg []) (keysOf ((l.take k).map bD))) (.string d) = ((l.take k).map bD).any (· == d)) := fun d => has_keys _ d
      generalize (l.take k).map bD = Ds at hown Hb Hn hHas
      generalize badB l k = BK at Hb hnext hbadQ
      have HD : Hid (batD l[k].author l[k].number l[k].txs = bD l[k] ∧ batchF l[k].author l[k].number l[k].txs = bF l[k]) := ⟨rfl, rfl⟩
      generalize l[k] = y at *
      go_upto_region 7 with fail
      refine one_block _ _ _ (fun W => Code.wp _ _ _ _ W) (fun W2 hX hsX hbX => ?_)
      have hbl2 := hbl.trans (hbX.mono hbl.size)
      have hown2 := ownsMap_below hown hbX
      have hz2 := hbX.size
      have hd2 := hd'.mono (vle_below hbX)
      have x0 := hX.cell 0; have x1 := hX.cell 1; have x2 := hX.cell 2
      simp at x0 x1 x2
      clear hsX hown hd' c0 c1 c2
      go_wp2_with fail
      refine (batchDigestW_any _ _ _ y.txs _ hd2 Hs.out (hT.mono (vle_below hbl2))).mono ?_
      rintro e w3 ⟨d3, rfl, hb3, r3⟩
      rw [HD.out.2]
      have hbl3 := hbl2.trans (hb3.mono hbl2.size)
      have hown3 := ownsMap_below hown2 hb3
      have hz3 := hb3.size
      clear x0 x1 x2 hX hd2 hown2
      by_cases h0 : bF y = 0
      rotate_left
      · have HQ := Lib.hid (hbadQ.out (by rw [Hb.out]; simp [h0]))
        generalize bF y = E at *
        clear hnext hbadQ Hb r3
        go_wp2
        go_ret
        exact ⟨ret_int HQ.out.symm, hbl3⟩
      have HR : batDR y.author y.number y.txs = bD y := if_pos (HD.out.2.trans h0)
      rw [HR] at r3
      have hb1 : Hid (BK = Ds.any (· == bD y)) := by show _ = _; rw [Hb.out, h0]; rfl
      rw [h0]
      clear HR HD Hb h0
      have r3 := r3.mono (View.from_le _ _)
      have hstr := run_toStr r3
      have hdl : (bD y).length * 1 ≤ 140737488355328 := r3.len
      generalize bD y = D at *
      have hkey := key_str (d := D) (by omega)
      obtain ⟨HB, hHB⟩ : ∃ z, Ds.any (· == D) = z := ⟨_, rfl⟩
      have hhas := hHas.out D
      rw [hHB] at hhas
      have hb2 : Hid (BK = HB) := by show _ = _; rw [hb1.out, hHB]
      obtain ⟨dA, dc, rfl, hfd⟩ := id r3
      clear hfd hHB hb1 hHas
      have hz33 : w.heap.size + 1 ≤ w3.heap.size := by omega
      go_upto_region 11 with (at_lookup; refine wpList_lookup_own_unit _ rfl _ _ 88 rfl 9 89 strKey Tryd.underlying88 (zeroU _) w.heap.size k _ rfl hown3 _ _ rfl hkey ?_)
      refine one_block _ _ _ (fun W => Code.wp _ _ _ _ W) (fun W4 hU hsU hbU => ?_)
      have hbl4 := hbl3.trans (hbU.mono hbl3.size)
      have hown4 := ownsMap_below hown3 hbU
      have hstr4 := run_toStr (r3.mono (vle_below hbU))
      have hz4 := hbU.size
      clear hsU hU hown3 r3 hstr
      cases HB
      · have hq := Lib.hid (hnext.out hb2.out)
        clear hnext hbadQ hb2
        go_wp2_with (at_mapUpdate; refine wpList_mapUpdate_own _ rfl _ _ _ 88 rfl 9 89 strKey Tryd.underlying88 (unitElem (H := Unit)) w.heap.size k _ rfl hown4 (by have := hl8.out; unfold maxLen; omega) _ _ _ rfl rfl hkey _ [] unitElem_mk ?_; intro w5 hown5 hg5)
        go_roundw
        case rel =>
          refine ⟨k + 1, by omega, by go_num, hq.out, ?_, below_grownBy hbl4 hbl4.size hg5 (by intro q e; injection e; omega), by have := hg5.size; omega⟩
          rw [Hn.out]
          unfold keysOf at hown5 ⊢
          rw [List.map_append, List.map_cons, List.map_nil, setOf_snoc]
          exact hown5
        case measure => simp [intOf]; omega
      · have HQ := Lib.hid (hbadQ.out hb2.out)
        clear hnext hbadQ hb2
        go_wp2
        go_ret
        exact ⟨ret_int HQ.out.symm, hbl4⟩
    · have HQ : Hid (Q = 0) := by
        show _ = _
        rw [hQ1.out, if_neg]
        rw [Bool.not_eq_true]
        exact any_range_false fun j hj => hok.out j (by omega)
      go_wp2
      go_ret
      exact ⟨ret_int HQ.out.symm, hbl⟩
set_option maxHeartbeats 4000000 in
set_option maxRecDepth 100000 in
theorem batchesFault_any (v : Value) (l : List Bat) (w : World) (hv : RBats w.cell? v l) :
    Calls Tryd.prog 20 #[v] w fun e w' => e = .returned (.int .i64 (batsF l)) ∧ Below w.heap.size w w' := by
  obtain ⟨A, c, rfl, hf⟩ := id hv
  clear hf
  obtain ⟨_, hn1, hn2, hel⟩ := RBats.at hv
  have Hel := Lib.hid hel
  clear hel hv
  obtain ⟨Q, hQ⟩ : ∃ q, Hid (batsF l = q) := ⟨_, rfl⟩
  have hQ0 : Hid (Q = if 800 < l.length then 12 else if (List.range l.length).any (badB l) then 12 else 0) := hQ.out.symm
  rw [hQ.out]
  clear hQ
  go_enter Tryd.func20, Tryd.ntmps20
  by_cases hbig : (800 : Int) < l.length
  · have HQ : Hid (Q = 12) := by show _ = _; rw [hQ0.out, if_pos (by omega)]
    go_wp2
    go_ret
    exact ⟨ret_int HQ.out.symm, Below.refl _ _⟩
  have hQ1 : Hid (Q = if (List.range l.length).any (badB l) then 12 else 0) := by show _ = _; rw [hQ0.out, if_neg (by omega)]
  have hl8 := Lib.hid (show l.length ≤ 800 by omega)
  clear hQ0
  go_wp2_with fail
  go_loopw [3, 4, 5] (fun v i _ wr => ∃ k : Nat, k ≤ l.length ∧ i = .int .i64 k ∧ (∀ j, j < k → badB l j = false) ∧ OwnSl 1 (RFrom w.heap.size RDig) 25 wr w.heap.size v ((l.take k).map bD) ∧ Below w.heap.size w wr) (fun _ i _ _ => l.length - (intOf i).toNat)
  case atStart => exact ⟨0, Nat.zero_le _, rfl, fun j hj => by omega, OwnSl.nil _ _ _ _ _, Below.refl _ _⟩
  case round =>
    obtain ⟨k, hk, rfl, hok', hown, hbl⟩ := hrel
    have hok := Lib.hid hok'
    clear hok'
    have hbs := hbl.size
    by_cases hlt : k < l.length
    · obtain ⟨b0, o0, d, rfl, e0, e1, e2, hd, hs⟩ := Hel.out k hlt
      have c0 := vle_below hbl _ _ e0
      have c1 := vle_below hbl _ _ e1
      have c2 := vle_below hbl _ _ e2
      have hd' := hd.mono (vle_below hbl)
      have Hs := Lib.hid hs
      have Hb := Lib.hid (badB_at hlt)
      have Hn := Lib.hid (show (l.take (k + 1)).map bD = (l.take k).map bD ++ [bD l[k]] by rw [List.take_succ_eq_append_getElem hlt, List.map_append]; rfl)
      have Hlk := Lib.hid (show ((l.take k).map bD).length = k by simp; omega)
      have hnext : Hid (badB l k = false → ∀ j, j < k + 1 → badB l j = false) := fun hq j hj => by
        by_cases e : j = k
        · subst e; exact hq
        · exact hok.out j (by omega)
      have hbadQ : Hid (badB l k = true → Q = 12) := fun h => by rw [hQ1.out, if_pos (any_range_true hlt h)]
      obtain ⟨txA, txc, rfl, hg⟩ := id hd
      clear e0 e1 e2 hd hs hg
      generalize (l.take k).map bD = Ds at hown Hb Hn Hlk
      generalize badB l k = BK at Hb hnext hbadQ
      have HD : Hid (batD l[k].author l[k].number l[k].txs = bD l[k] ∧ batchF l[k].author l[k].number l[k].txs = bF l[k]) := ⟨rfl, rfl⟩
      generalize l[k] = y at *
      go_wp2_with fail
      refine (batchFault_any _ _ _ y.txs _ hd' Hs.out).mono ?_
      rintro e w3 ⟨rfl, hb3⟩
      rw [HD.out.2]
      have hbl3 := hbl.trans (hb3.mono hbs)
      have hown3 := hown.kept (RFrom.mono RDig.mono) hb3
      have hz3 := hb3.size
      have q3 := vle_below hb3
      have c0' := q3 _ _ c0; have c1' := q3 _ _ c1; have c2' := q3 _ _ c2
      clear c0 c1 c2 hown
      by_cases h0 : bF y = 0
      rotate_left
      · have HQ := Lib.hid (hbadQ.out (by rw [Hb.out]; simp [h0]))
        generalize bF y = E at *
        clear hnext hbadQ Hb
        go_wp2
        go_ret
        exact ⟨ret_int HQ.out.symm, hbl3⟩
      have H3 := Lib.hid (batchF_zero (HD.out.2.trans h0))
      have hb1 : Hid (BK = Ds.any (· == bD y)) := by show _ = _; rw [Hb.out, h0]; rfl
      rw [h0]
      clear Hb h0
      go_wp2_with fail
      refine (batchDigestR_any _ _ _ y.txs _ (by have := H3.out; omega) (by have := H3.out; omega) (hd'.mono q3) (by have := H3.out; omega)).mono ?_
      rintro e w4 ⟨d4, rfl, hb4, r4⟩
      rw [HD.out.1] at r4
      have hbl4 := hbl3.trans (hb4.mono hbl3.size)
      have hlto := hown3.lt
      have hown4 := hown3.kept (RFrom.mono RDig.mono) hb4
      have hz4 := hb4.size
      have rDs := hown4.reads (bs := 24) (RFrom.mono RDig.mono) (by rw [Hlk.out]; have := hl8.out; omega)
      have rDs := RSl.weak (R' := RDig) (fun h cs x hr => RDig.mono _ _ _ _ hr (View.from_le _ _)) rDs
      generalize bD y = D at *
      have r4' := r4.mono (View.from_le _ _)
      obtain ⟨dA, dc, rfl, hfd⟩ := id r4'
      clear hfd hown3 hd' q3 c0' c1' c2' H3 HD
      obtain ⟨nA, nc, rfl⟩ := hown4.form
      go_wp2_with fail
      refine (placeOf_any _ Ds _ D _ rDs r4').mono ?_
      rintro e w5 ⟨rfl, hb5⟩
      have hbl5 := hbl4.trans (hb5.mono hbl4.size)
      have hown5 := hown4.kept (RFrom.mono RDig.mono) hb5
      have hz5 := hb5.size
      have hR : RFrom w.heap.size RDig (View.but w5.cell? (Value.slice nA Ds.length nc).ownBlock) [.slice dA D.length dc] D :=
        ⟨_, rfl, (r4.mono (from_from_but (b' := w.heap.size) (by omega) (fun g hg => (hlto g hg).2))).mono (vle_from _ (but_below hb5 _))⟩
      clear rDs r4 r4' hown4
      rcases idxI_cases (· == D) Ds with ⟨p1, p2⟩ | ⟨j, hj, p1, p2, p3⟩
      · rw [show placeI Ds D = -1 from p1]
        have hq := Lib.hid (hnext.out (by rw [hb1.out]; exact p2))
        clear p1 p2 hnext hbadQ hb1
        go_wp2_with (at_builtin; go_loud (refine wpList_append_sl1 (n := 140737488355328) (RFrom.mono RDig.mono) D [.slice dA D.length dc] elemDig _ _ rfl rfl rfl hown5 hbl5 hbl5.size rfl rfl rfl rfl hR (Nat.le_refl _) (by rw [Hlk.out]; have := hl8.out; omega) (by rw [Hlk.out]; have := hl8.out; omega) ?_))
        intro v' w6 ho hbl6 _
        rw [← Hn.out] at ho
        clear hown5 hR
        go_wp2
        go_roundw
        case rel => exact ⟨k + 1, by omega, by go_num, hq.out, ho, hbl6⟩
        case measure => simp [intOf]; omega
      · rw [show placeI Ds D = j from p1]
        have HQ := Lib.hid (hbadQ.out (by rw [hb1.out]; exact any_true_get hj p2))
        clear p1 p2 p3 hnext hbadQ hb1
        go_wp2
        go_ret
        exact ⟨ret_int HQ.out.symm, hbl5⟩
    · have HQ : Hid (Q = 0) := by
        show _ = _
        rw [hQ1.out, if_neg]
        rw [Bool.not_eq_true]
        exact any_range_false fun j hj => hok.out j (by omega)
      go_wp2
      go_ret
      exact ⟨ret_int HQ.out.symm, hbl⟩
end Go.Proofs.YtedealljhmokoaaDoor

namespace Go.Proofs.YtedealljhmokoaaDoor
open Go.ChangeShapes Go.WideShapes Go.ChangeAt Go.RowKit
set_option linter.unusedVariables false
structure Slot where
  author : Int
  round : Int
  digest : List UInt8
/-- the cells of a slot -/
def RSlot (h : View) (cs : List Value) (s : Slot) : Prop := ∃ d, cs = [.int .i64 s.author, .int .i64 s.round, d] ∧ RBytes h d s.digest

set_option maxHeartbeats 1000000 in
set_option maxRecDepth 100000 in
theorem slotCopy_any (au ro : Int) (d : Value) (ds : List UInt8) (w : World) (hd : RBytes w.cell? d ds) :
    Calls Tryd.prog 65 #[.agg #[.int .i64 au, .int .i64 ro, d]] w fun e w' => ∃ d', e = .returned (.agg #[.int .i64 au, .int .i64 ro, d']) ∧ Below w.heap.size w w' ∧ OwnB w' w.heap.size d' ds := by
  have hlen : ds.length ≤ 140737488355328 := by obtain ⟨A, c, _, _, _, h, _⟩ := hd; omega
  go_enter Tryd.func65, Tryd.ntmps65
  go_wp2
  refine two_blocks _ _ _ _ _ (fun W => (Code.region _ _ _).wp _ _ _ W) (fun W hb1 hb2 hsz hbl => ?_)
  have hd1 := hd.below_but hbl (Nat.le_succ _)
  refine wp_region_plan (fun w' => W.grownBy w' (some (w.heap.size + 1)) ∧ ∃ cs, Blk w' (w.heap.size + 1) 45 cs ∧ cs.size = 3) [(0, true), (1, true), (2, true), (3, true), (4, true), (5, true), (6, false), (7, true), (8, false)] (by kernel_rfl) (by kernel_rfl) (fun _ _ d _ _ h => by cases d <;> exact h) rfl (by kernel_rfl) ?_ ?_
  · exact ⟨grownBy_drew _ _, _, hb2, rfl⟩
  intro W1 hS1
  repeat (first
    | (refine wpPlan_takes rfl rfl ?_; apply Exists.intro; refine ⟨fun w' hS => ?_, ?_⟩; (· (have hq := hb1.grown hS.1 (by simp); have h0 := hq.cell 0; have h1 := hq.cell 1; have h2 := hq.cell 2; simp at h0 h1 h2; go_simp; exact rfl)); simp only [List.getElem_toArray, List.getElem_cons_zero, List.getElem_cons_succ, Act.put, List.setIfInBounds_toArray, List.set_cons_zero, List.set_cons_succ])
    | (refine wpPlan_skip (by assumption) rfl rfl ?_; simp only [List.getElem_toArray, List.getElem_cons_zero, List.getElem_cons_succ, Act.put, List.setIfInBounds_toArray, List.set_cons_zero, List.set_cons_succ]))
  refine wpPlan_do rfl rfl (fun K hK => ?_)
  try simp only [List.getElem_toArray, List.getElem_cons_zero, List.getElem_cons_succ]
  go_simp
  obtain ⟨hg1, cs, hc, hcs⟩ := hS1
  refine (joined_any _ _ ds [] _ (hd1.mono (vle_grown hg1)) (RVec.nil _ _ _) _ (Nat.le_refl _) (by simpa using hlen)).mono ?_
  rintro e w1 ⟨d', rfl, hj, hown⟩
  rw [List.append_nil] at hown
  obtain ⟨A', c', rfl⟩ := hown.form
  refine hK.out _ _ (⟨grownBy_trans hg1 (grownBy_below _ hj), _, hc.kept hj, hcs⟩) (fun hS => ?_)
  clear hK K
  try simp only [List.getElem_toArray, List.getElem_cons_zero, List.getElem_cons_succ, Act.put, List.setIfInBounds_toArray, List.set_cons_zero, List.set_cons_succ]
  repeat (first
    | (refine wpPlan_takes rfl rfl ?_; apply Exists.intro; refine ⟨fun w' hS => ?_, ?_⟩; (· (skip; go_simp; exact rfl)); simp only [List.getElem_toArray, List.getElem_cons_zero, List.getElem_cons_succ, Act.put, List.setIfInBounds_toArray, List.set_cons_zero, List.set_cons_succ])
    | (refine wpPlan_skip (by assumption) rfl rfl ?_; simp only [List.getElem_toArray, List.getElem_cons_zero, List.getElem_cons_succ, Act.put, List.setIfInBounds_toArray, List.set_cons_zero, List.set_cons_succ]))
  refine wpPlan_do rfl rfl (fun K hK => ?_)
  try simp only [List.getElem_toArray, List.getElem_cons_zero, List.getElem_cons_succ]
  refine wp_store_whole rfl rfl rfl (n := 3) (by kernel_rfl) rfl (hc.kept hj) hcs rfl ?_
  intro w2 hb3 hg
  have hsz1 := hg1.size
  refine hK.out _ _ (⟨grownBy_trans hS.1 hg, _, hb3, rfl⟩) (fun hS => ?_)
  clear hK K
  try simp only [List.getElem_toArray, List.getElem_cons_zero, List.getElem_cons_succ, Act.put, List.setIfInBounds_toArray, List.set_cons_zero, List.set_cons_succ]
  refine wpPlan_nil ?_
  go_wp2
  refine bodyPost_ret (results_blk rfl rfl (by kernel_rfl) (by kernel_rfl) hb3 rfl) rfl ?_
  have hA := below_grownBy (B := w.heap.size) hbl (by omega) (grownBy_trans (grownBy_trans hg1 (grownBy_below _ hj)) hg) (fun k e => by injection e; omega)
  exact ⟨_, rfl, hA, (hown.grown hg (by omega)).base (by omega)⟩
end Go.Proofs.YtedealljhmokoaaDoor

namespace Go.Proofs.YtedealljhmokoaaDoor
open Go.ChangeShapes Go.WideShapes Go.ChangeAt Go.RowKit
set_option linter.unusedVariables false
set_option maxHeartbeats 1000000 in
set_option maxRecDepth 100000 in
theorem opens_slot : OpensTo Tryd.prog 45 RSlot := by
  intro H enc w fuel cs x h hw
  obtain ⟨hl, hf⟩ := opens_fields Tryd.underlying45 h hw
  obtain ⟨a, ha, _⟩ := hf 0 3 0 1 rfl (by kernel_rfl) opens_i
  obtain ⟨r, hr, _⟩ := hf 1 3 1 1 rfl (by kernel_rfl) opens_i
  obtain ⟨d, v, hd, hb⟩ := hf 2 25 2 1 rfl (by kernel_rfl) opens_bytes
  have hl' : cs.length = 3 := hl.trans (by kernel_rfl)
  match cs, hl' with
  | [c0, c1, c2], _ =>
    simp at ha hr hd
    subst ha hr hd
    exact ⟨⟨a, r, d⟩, _, rfl, hb⟩
theorem opens_slots : OpensTo Tryd.prog 42 (fun h cs (xs : List Slot) => ∃ v, cs = [v] ∧ RSl 3 RSlot 40 h v xs) :=
  opens_sl Tryd.underlying42 (by kernel_rfl) (by decide) (by kernel_rfl) opens_slot
/-- an argument that is one cell -/
theorem open_cell {P : Program} {H : Type} {enc : TypeId × Value → H} {W : World} {t e : TypeId} {base : Nat} {v : Value} {d : DataW H} {p : List MemPlace} {α : Type} {R : View → Value → α → Prop} (ht : P.underlying t = some (.slice e)) (hval : Value.okWide P W .any base t v)
    (h : DataW.Trod enc P W 0 (fun _ => true) true t v d p) (hw : ∀ n ∈ DataW.weights P t d, n ≤ reachBytes) (ho : OpensTo P t (fun h cs x => ∃ v, cs = [v] ∧ R h v x)) : ∃ x, R W.cell? v x := by
  obtain ⟨fuel, h⟩ := h
  obtain ⟨x, v', hc, hr⟩ := ho H enc W fuel _ _ h hw
  obtain ⟨a, n, c, rfl⟩ := okWide_slice ht hval
  obtain rfl : Value.slice a n c = v' := by simpa [Value.cells] using hc
  exact ⟨x, hr⟩
end Go.Proofs.YtedealljhmokoaaDoor

namespace Go.Proofs.YtedealljhmokoaaDoor
open Go.ChangeShapes Go.WideShapes Go.ChangeAt Go.RowKit
set_option linter.unusedVariables false
set_option linter.unusedSimpArgs false
set_option maxHeartbeats 4000000 in
set_option maxRecDepth 100000 in
theorem orderBatches_any (v : Value) (l : List Bat) (w : World) (hv : RBats w.cell? v l) (hT : Tabs w.cell?) :
    Calls Tryd.prog 4 #[v] w fun e w' => e = .returned (.bool true) ∧ Below w.heap.size w w' := by
  obtain ⟨A, c, rfl, hf⟩ := id hv
  clear hf
  have Hlen := Lib.hid hv.len
  obtain ⟨E, hE⟩ : ∃ E, Hid (batsF l = E) := ⟨_, rfl⟩
  go_enter Tryd.func4, Tryd.ntmps4
  go_wp2_with fail
  refine (batches_any _ l _ hv).mono ?_
  rintro e w1 ⟨v1, rfl, hb1, o1⟩
  have r1 := RSl.weak (R' := RBat) (bs := 40) (fun h cs x hr => RBat.mono _ _ _ _ hr (View.from_le _ _)) (o1.reads (RFrom.mono RBat.mono) Hlen.out)
  obtain ⟨A1, c1, rfl⟩ := o1.form
  clear o1
  go_wp2_with fail
  refine (checkBatches_any _ l _ r1 (hT.mono (vle_below hb1))).mono ?_
  rintro e w2 ⟨rfl, hb2⟩
  rw [hE.out]
  have hbl2 := hb1.trans (hb2.mono hb1.size)
  go_wp2_with fail
  refine (batchesFault_any _ l _ (hv.mono RBat.mono (vle_below hbl2))).mono ?_
  rintro e w3 ⟨rfl, hb3⟩
  rw [hE.out]
  go_wp2
  go_ret
  exact ⟨rfl, hbl2.trans (hb3.mono hbl2.size)⟩
set_option maxHeartbeats 1000000 in
set_option maxRecDepth 100000 in
theorem orderBatches_open {H : Type} {enc : TypeId × Value → H} (W : World) (hT : Tabs W.cell?) {base : Nat} {v : Value} {d : DataW H} {p : List MemPlace} (hval : Value.okWide Tryd.prog W .any base 31 v) (h : DataW.Trod enc Tryd.prog W 0 (fun _ => true) true 31 v d p)
    (hw : ∀ n ∈ DataW.weights Tryd.prog 31 d, n ≤ reachBytes) : Calls Tryd.prog 4 #[v] W fun e w' => e = .returned (.bool true) ∧ Below W.heap.size W w' := by
  obtain ⟨l, hr⟩ := open_cell (R := RBats) Tryd.underlying31 hval h hw opens_bats
  exact orderBatches_any _ l _ hr hT
set_option maxRecDepth 100000 in
theorem orderBatches_lifted (os : Os) (started : os.Started) (H : Type) (enc : TypeId × Value → H) :
    ReturnsInHanded {} Tryd.checked os 4 .any (fun w args => (Rows.orderBatchesSpec.pre enc Tryd.prog Tryd.f4 [] false w args ∧ laidMetH Tryd.prog laid3 w) ∧ sizedMet enc Tryd.prog Tryd.f4 (OpenSpec.ofChange Rows.orderBatchesSpec) false w args) (Rows.orderBatchesSpec.post enc Tryd.prog Tryd.f4 false true false false) := by
  refine returnsInHanded_of_change_and (C := Tryd.checked) (X := fun w _ => laidMetH Tryd.prog laid3 w) (fun _ _ _ hh h => h.of_heap hh) own_ started (by kernel_rfl) Tryd.func4
    (ChangeSpec.witness_shaped (enc := enc) (C := Tryd.checked) (os := os) (X := fun w _ => laidMetH Tryd.prog laid3 w) false (World.doorLaid Tryd.prog 400 os) #[.slice none 0 0] 8 rfl (World.shaped_of_RefB (by kernel_rfl) (by kernel_rfl)) (by kernel_rfl) (by kernel_rfl) (by kernel_rfl) (door_met os _)) ?_
  intro W base args ds gs before hval0 hW _ hsz hL _
  have hval : ∀ (j : Nat) t v, Tryd.f4.params[j]? = some t → args[j]? = some v → Value.okWide Tryd.prog W .any base t v := hval0
  have hW' := hW
  obtain ⟨p, q, hA, hV, rfl, hfz, hnd⟩ := hW
  obtain ⟨rfl, rfl⟩ := trodVars_none hV
  have hA : DataW.TrodAll enc Tryd.prog W 0 (fun _ => true) true Tryd.f4.params.toList args.toList ds p := hA
  rw [Tryd.params4] at hA hval hsz
  obtain ⟨v0, d0, rfl, rfl, h0⟩ := trodAll_one hA
  have hs0 : ∀ n ∈ DataW.weights Tryd.prog _ d0, n ≤ reachBytes := fun n hn => by simpa using List.all_eq_true.1 hsz n (DataW.weights_mem_each (j := 0) rfl rfl n hn)
  refine (orderBatches_open W (of_laid hL) (hval 0 _ _ rfl rfl) h0 hs0).mono fun e W' ⟨he, hb⟩ => ?_
  exact law_close laidOut (b := 4) rfl Tryd.underlying4 rfl (readables _ (by kernel_rfl)) rfl hW' he hb
theorem orderBatches_holds : Rows.OrderBatchesSaid :=
  OpenClaim.holds_of_wide 4 Tryd.f4 rfl rfl rfl rfl rfl rfl rfl ⟨rfl, rfl, rfl, rfl, rfl⟩ rfl rfl rfl rfl rfl (by kernel_rfl) Tryd.func4 (by kernel_rfl)
    (of_decide_eq_true (by kernel_rfl)) (by unfold Func.isWrapper; first | (rw [if_pos (by decide +kernel)]; kernel_rfl) | (rw [if_neg (by decide +kernel)]; exact ⟨rfl, rfl⟩))
    (fun os started H enc _ => orderBatches_lifted os started H enc)
theorem orderBatches_card : Rows.OrderBatchesCardSaid :=
  Claim7.holds_tied_plain_at .later [] [.widerDeep, .data, .data] true Rows.orderBatchesCard.stood.harness false
    orderBatches_holds (fun _ h => by cases h) (by kernel_rfl) (fun _ h => by cases h) orderBatches_row_tie rfl ⟨rfl, rfl⟩ (by kernel_rfl) rfl
    (fun f fn hf hfn => by
      obtain rfl : f = 4 := Option.some.inj ((show Tryd.prog.funcNamed "sheaves/sheaveslaw.OrderBatches" = some 4 by kernel_rfl).symm.trans hf) |>.symm
      obtain rfl : fn = Tryd.f4 := (Option.some.inj (Tryd.func4.symm.trans hfn)).symm
      exact ⟨by kernel_rfl, fun j t ht => by
        have hall : (Tryd.f4.params.toList.all fun u => !Tryd.prog.wantsStandIn u) = true := by kernel_rfl
        have := List.all_eq_true.1 hall t (by simpa using Array.mem_of_getElem? ht)
        exact (show Tryd.prog.wantsStandIn t = false by simpa using this)⟩)
    (by kernel_rfl)
end Go.Proofs.YtedealljhmokoaaDoor
