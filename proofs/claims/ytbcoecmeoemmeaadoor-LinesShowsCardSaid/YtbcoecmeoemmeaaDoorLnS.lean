/- Acts as lines, in plain words: numbers, digits of sixteen, words parted by blanks, lines. -/
import Derived.Test.YtbcoecmeoemmeaaDoorAct
import Derived.Lib.AtoiAllCases
import Derived.Lib.ItoaNum
import Derived.Lib.SplitLaws
import Derived.Lib.CutLaws
import Derived.Lib.IndexLaws
import GoSem.Op.String
namespace Go.Proofs.YtbcoecmeoemmeaaDoor
open Go.ChangeShapes Go.WideShapes Go.ChangeAt Go.RowKit
set_option linter.unusedVariables false
namespace Ln
/-- a number of digits -/
def allD (l : List UInt8) : Prop := ∀ c ∈ l, 48 ≤ c.toNat ∧ c.toNat ≤ 57
def val (l : List UInt8) : Nat := l.foldl (fun a c => 10 * a + (c.toNat - 48)) 0
theorem val_snoc (l : List UInt8) (c : UInt8) : val (l ++ [c]) = 10 * val l + (c.toNat - 48) := by unfold val; rw [List.foldl_append]; rfl
theorem val_lt (l : List UInt8) (h : allD l) : val l < 10 ^ l.length := by
  obtain ⟨r, rfl⟩ : ∃ r, l = r.reverse := ⟨l.reverse, by simp⟩
  induction r with
  | nil => decide
  | cons c r ih =>
    rw [List.reverse_cons] at h ⊢
    have hc := h c (by simp)
    have := ih (fun x hx => h x (by simp at hx ⊢; exact .inl hx))
    rw [val_snoc, List.length_append, List.length_singleton, Nat.pow_succ]
    omega
/-- the reference's number -/
def numF : Nat → List UInt8 → Int
  | a, [] => a
  | a, c :: r => if 48 ≤ c.toNat ∧ c.toNat ≤ 57 then numF (min (10 * a + (c.toNat - 48)) 1000000) r else -1
def numR (l : List UInt8) : Int := if l.length = 0 ∨ (1 < l.length ∧ l.head? = some 48) then -1 else numF 0 l
def mostS : List UInt8 := [57, 50, 50, 51, 51, 55, 50, 48, 51, 54, 56, 53, 52, 55, 55, 53, 56, 48, 55]
def great (l : List UInt8) : Bool := decide (19 < l.length) || (decide (l.length = 19) && !(Op.bytesLess l mostS || l == mostS))
/-- the program's -/
def numP (l : List UInt8) : Option Int := match Lib.atoiAll l with
  | .ok v => if 0 ≤ v ∧ Lib.itoa v = l then some v else none
  | _ => none
/-- as it is written -/
def canon (l : List UInt8) : Prop := allD l ∧ 0 < l.length ∧ (1 < l.length → l.head? ≠ some 48)
theorem numF_all (l : List UInt8) (h : allD l) : ∀ a, numF (min a 1000000) l = (min (l.foldl (fun a c => 10 * a + (c.toNat - 48)) a) 1000000 : Nat) := by
  induction l with
  | nil => intro a; rfl
  | cons c r ih =>
    intro a
    have hc := h c (by simp)
    rw [numF, if_pos hc, List.foldl_cons, ← ih (fun x hx => h x (by simp [hx]))]
    congr 1
    omega
theorem numF_neg (l : List UInt8) : ∀ a, ¬ allD l → numF a l = -1 := by
  induction l with
  | nil => intro a h; exact absurd (fun c hc => by cases hc) h
  | cons c r ih =>
    intro a h
    unfold numF
    split
    · rename_i hc
      refine ih _ (fun hr => h (fun x hx => ?_))
      rcases List.mem_cons.1 hx with rfl | h1
      · exact hc
      · exact hr x h1
    · rfl
theorem canon_dec (n : Nat) : canon (Lib.decDigits n) ∧ val (Lib.decDigits n) = n ∧ (10 ≤ n → (Lib.decDigits n).head? ≠ some 48) ∧ (Lib.decDigits n).length ≤ n + 1 := by
  induction n using Nat.strongRecOn with
  | _ n ih =>
    have dig : ∀ k, k < 10 → (UInt8.ofNat (48 + k)).toNat = 48 + k := fun k hk => by
      simp [UInt8.toNat_ofNat]; omega
    by_cases h : n < 10
    · rw [Lib.decDigits, dif_pos h]
      refine ⟨⟨fun c hc => ?_, by simp, by simp⟩, ?_, fun h10 => by omega, by simp⟩
      · obtain rfl := List.mem_singleton.1 hc
        rw [dig _ h]; omega
      · show 10 * 0 + ((UInt8.ofNat (48 + n)).toNat - 48) = n
        rw [dig _ h]; omega
    · rw [Lib.decDigits, dif_neg h]
      obtain ⟨⟨h1, h2, h3⟩, h4, h5, h7⟩ := ih (n / 10) (by omega)
      have hhead : (Lib.decDigits (n / 10)).head? ≠ some 48 := by
        by_cases h6 : 10 ≤ n / 10
        · exact h5 h6
        · rw [Lib.decDigits, dif_pos (by omega)]
          intro e
          rw [List.head?_cons] at e
          injection e with e
          have := congrArg UInt8.toNat e
          rw [dig _ (by omega)] at this
          have h48 : (48 : UInt8).toNat = 48 := rfl
          omega
      have hh : (Lib.decDigits (n / 10) ++ [UInt8.ofNat (48 + n % 10)]).head? ≠ some 48 := by
        rw [List.head?_append]
        cases hd : (Lib.decDigits (n / 10)).head? with
        | none => rw [List.head?_eq_none_iff] at hd; rw [hd] at h2; simp at h2
        | some x => rw [hd] at hhead; simpa using hhead
      refine ⟨⟨fun c hc => ?_, by simp, fun _ => hh⟩, ?_, fun _ => hh, ?_⟩
      · rcases List.mem_append.1 hc with h6 | h6
        · exact h1 c h6
        · obtain rfl := List.mem_singleton.1 h6
          rw [dig _ (by omega)]; omega
      · rw [val_snoc, h4, dig _ (by omega)]; omega
      · simp; omega
theorem dec_canon (l : List UInt8) (h : canon l) : Lib.decDigits (val l) = l := by
  obtain ⟨r, rfl⟩ : ∃ r, l = r.reverse := ⟨l.reverse, by simp⟩
  induction r with
  | nil => exact absurd h.2.1 (by simp)
  | cons c r ih =>
    rw [List.reverse_cons] at h ⊢
    obtain ⟨h1, _, h3⟩ := h
    have hc := h1 c (by simp)
    have back : UInt8.ofNat (48 + (c.toNat - 48)) = c := by
      rw [show 48 + (c.toNat - 48) = c.toNat by omega]; simp
    cases r with
    | nil =>
      show Lib.decDigits (10 * 0 + (c.toNat - 48)) = [c]
      rw [Lib.decDigits, dif_pos (by omega), Nat.mul_zero, Nat.zero_add, back]
    | cons d r =>
      have hcr : canon (d :: r).reverse := by
        refine ⟨fun x hx => h1 x (List.mem_append_left _ hx), by simp, fun _ e => h3 (by simp) ?_⟩
        rw [List.head?_append, e]; rfl
      have hi := ih hcr
      have hpos : 0 < val (d :: r).reverse := by
        rcases Nat.eq_zero_or_pos (val (d :: r).reverse) with h0 | h0
        · exfalso
          rw [h0] at hi
          have : Lib.decDigits 0 = [48] := by rw [Lib.decDigits, dif_pos (by decide)]; rfl
          rw [this] at hi
          refine h3 (by simp) ?_
          rw [← hi]; rfl
        · exact h0
      rw [val_snoc, Lib.decDigits, dif_neg (by omega)]
      rw [show (10 * val (d :: r).reverse + (c.toNat - 48)) / 10 = val (d :: r).reverse by omega, show (10 * val (d :: r).reverse + (c.toNat - 48)) % 10 = c.toNat - 48 by omega, hi, back]
def fv (a : Nat) (l : List UInt8) : Nat := l.foldl (fun a c => 10 * a + (c.toNat - 48)) a
theorem fv_cons (a : Nat) (c : UInt8) (l : List UInt8) : fv a (c :: l) = fv (10 * a + (c.toNat - 48)) l := by unfold fv; rw [List.foldl_cons]
theorem less_lt (x : List UInt8) : ∀ (y : List UInt8) (a b : Nat), x.length = y.length → allD x → allD y → a < b → fv a x < fv b y := by
  induction x with
  | nil =>
    intro y a b h _ _ hab
    cases y with
    | nil => exact hab
    | cons d y => simp at h
  | cons c x ih =>
    intro y a b h hx hy hab
    cases y with
    | nil => simp at h
    | cons d y =>
      have hc := hx c (by simp)
      have hd := hy d (by simp)
      rw [fv_cons, fv_cons]
      exact ih y _ _ (by simpa using h) (fun z hz => hx z (by simp [hz])) (fun z hz => hy z (by simp [hz])) (by omega)
/-- comparing words of one length is comparing numbers -/
theorem less_fold : ∀ (x y : List UInt8) (a : Nat), x.length = y.length → allD x → allD y → (Op.bytesLess x y = true ↔ fv a x < fv a y)
  | [], [], a, _, _, _ => by simp [Op.bytesLess, fv]
  | [], _ :: _, _, h, _, _ => by simp at h
  | _ :: _, [], _, h, _, _ => by simp at h
  | c :: x, d :: y, a, h, hx, hy => by
    have hl : x.length = y.length := by simpa using h
    have hc := hx c (by simp)
    have hd := hy d (by simp)
    have hx' : allD x := fun z hz => hx z (by simp [hz])
    have hy' : allD y := fun z hz => hy z (by simp [hz])
    rw [fv_cons, fv_cons]
    rcases Nat.lt_trichotomy c.toNat d.toNat with h1 | h1 | h1
    · have := less_lt x y (10 * a + (c.toNat - 48)) (10 * a + (d.toNat - 48)) hl hx' hy' (by omega)
      simp only [this, iff_true]
      simp [Op.bytesLess, UInt8.lt_iff_toNat_lt, h1]
    · have hcd : c = d := UInt8.toNat_inj.1 h1
      subst hcd
      rw [← less_fold x y (10 * a + (c.toNat - 48)) hl hx' hy']
      simp [Op.bytesLess, UInt8.lt_iff_toNat_lt]
    · have := less_lt y x (10 * a + (d.toNat - 48)) (10 * a + (c.toNat - 48)) hl.symm hy' hx' (by omega)
      have hne : c ≠ d := fun e => by rw [e] at h1; omega
      constructor
      · intro hb
        simp [Op.bytesLess, UInt8.lt_iff_toNat_lt, hne] at hb
        omega
      · intro hb; omega
theorem val_inj {x y : List UInt8} (hl : x.length = y.length) (hx : allD x) (hy : allD y) (h : val x = val y) : x = y := by
  obtain ⟨r, rfl⟩ : ∃ r, x = r.reverse := ⟨x.reverse, by simp⟩
  obtain ⟨s, rfl⟩ : ∃ s, y = s.reverse := ⟨y.reverse, by simp⟩
  induction r generalizing s with
  | nil => cases s with
    | nil => rfl
    | cons d s => simp at hl
  | cons c r ih => cases s with
    | nil => simp at hl
    | cons d s =>
      rw [List.reverse_cons] at hx hy hl h ⊢
      rw [List.reverse_cons] at hl h ⊢
      rw [val_snoc, val_snoc] at h
      have hc := hx c (by simp)
      have hd := hy d (by simp)
      have e1 : val r.reverse = val s.reverse := by omega
      have e2 : c.toNat = d.toNat := by omega
      rw [UInt8.toNat_inj.1 e2, ih (fun z hz => hx z (List.mem_append_left _ hz)) s (fun z hz => hy z (List.mem_append_left _ hz)) (by simpa using hl) e1]
theorem great_iff (l : List UInt8) (h : canon l) : great l = decide (9223372036854775807 < val l) := by
  obtain ⟨h1, h2, h3⟩ := h
  have hv := val_lt l h1
  have hm : allD mostS := by intro c hc; revert c; decide
  have hvm : val mostS = 9223372036854775807 := by decide
  unfold great
  rcases Nat.lt_trichotomy l.length 19 with hl | hl | hl
  · have : 10 ^ l.length ≤ 10 ^ 18 := Nat.pow_le_pow_right (by decide) (by omega)
    rw [decide_eq_false (by omega), decide_eq_false (by omega), decide_eq_false (by omega)]
    rfl
  · rw [decide_eq_false (by omega), decide_eq_true hl, Bool.true_and, Bool.false_or]
    have h4 : Op.bytesLess l mostS = true ↔ val l < val mostS := less_fold l mostS 0 hl h1 hm
    rw [Bool.eq_iff_iff]
    simp only [Bool.not_eq_true', Bool.or_eq_false_iff, beq_eq_false_iff_ne, ne_eq, decide_eq_true_eq]
    constructor
    · rintro ⟨q1, q2⟩
      have : ¬ val l < val mostS := fun e => by rw [h4.2 e] at q1; cases q1
      have : val l ≠ val mostS := fun e => q2 (val_inj hl h1 hm e)
      omega
    · intro q
      refine ⟨?_, fun e => by rw [e, hvm] at q; omega⟩
      cases hb : Op.bytesLess l mostS
      · rfl
      · have := h4.1 hb; omega
  · rw [decide_eq_true hl, Bool.true_or]
    symm
    rw [decide_eq_true_eq]
    cases l with
    | nil => simp at hl
    | cons c r =>
      have hc := h1 c (by simp)
      have hne : c.toNat ≠ 48 := fun e => h3 (by simp at hl ⊢; omega) (by simp; exact UInt8.toNat_inj.1 e)
      have grow : ∀ (r : List UInt8) (a : Nat), a * 10 ^ r.length ≤ fv a r := by
        intro r
        induction r with
        | nil => intro a; simp [fv]
        | cons d r ih =>
          intro a
          rw [fv_cons]
          refine Nat.le_trans ?_ (ih _)
          rw [List.length_cons, Nat.pow_succ, Nat.mul_comm (10 ^ r.length) 10, ← Nat.mul_assoc]
          exact Nat.mul_le_mul_right _ (by omega)
      have hg := grow r (c.toNat - 48)
      have hp : 10 ^ 19 ≤ 10 ^ r.length := Nat.pow_le_pow_right (by decide) (by simp at hl; omega)
      have hm1 : 1 * 10 ^ r.length ≤ (c.toNat - 48) * 10 ^ r.length := Nat.mul_le_mul_right _ (by omega)
      have hv2 : val (c :: r) = fv (c.toNat - 48) r := by show fv (10 * 0 + (c.toNat - 48)) r = _; rw [Nat.mul_zero, Nat.zero_add]
      rw [hv2]
      have h10 : (10 : Nat) ^ 19 = 10000000000000000000 := by decide
      rw [h10] at hp
      rw [Nat.one_mul] at hm1
      exact Nat.lt_of_lt_of_le (by decide) (Nat.le_trans hp (Nat.le_trans hm1 hg))
theorem fv_mono (r : List UInt8) : ∀ a : Nat, a ≤ fv a r := by
  induction r with
  | nil => intro a; exact Nat.le_refl _
  | cons d r ih => intro a; rw [fv_cons]; exact Nat.le_trans (by omega) (ih _)
theorem parse_all (l : List UInt8) : ∀ a : Nat, allD l → fv a l < 18446744073709551616 → Lib.parseUint10 a l = .ok (fv a l) := by
  induction l with
  | nil => intro a _ _; rfl
  | cons c r ih =>
    intro a h hv
    have hc := h c (by simp)
    rw [fv_cons] at hv ⊢
    have := fv_mono r (10 * a + (c.toNat - 48))
    rw [Lib.parseUint10, if_pos hc, if_neg (by omega), if_neg (by omega), show a * 10 + (c.toNat - 48) = 10 * a + (c.toNat - 48) by omega]
    exact ih _ (fun x hx => h x (by simp [hx])) hv
theorem atoi_dec (l : List UInt8) (h : canon l) (hv : val l ≤ 9223372036854775807) : Lib.atoiAll l = .ok (val l) := by
  obtain ⟨h1, h2, h3⟩ := h
  cases l with
  | nil => simp at h2
  | cons c r =>
    have hc := h1 c (by simp)
    rw [Lib.atoiAll_plain c r (by omega) (by omega)]
    have : Lib.parseMag (c :: r) = .ok (val (c :: r)) := by
      unfold Lib.parseMag
      rw [if_neg (by simp)]
      exact parse_all _ _ h1 (show val (c :: r) < _ by omega)
    rw [this]
    show (if 9223372036854775808 ≤ val (c :: r) then Lib.NumEnd.range else .ok ((val (c :: r) : Nat) : Int)) = _
    rw [if_neg (by omega)]
/-- the two numbers -/
theorem num_some (l : List UInt8) (v : Int) (h : numP l = some v) : 0 ≤ v ∧ v ≤ 9223372036854775807 ∧ numR l = min v 1000000 ∧ great l = false := by
  unfold numP at h
  cases ha : Lib.atoiAll l with
  | ok u =>
    rw [ha] at h
    simp only at h
    split at h
    · rename_i hq
      injection h with h
      subst h
      obtain ⟨q1, q2⟩ := hq
      have hb := Lib.atoiAll_bounds ha
      have hd : Lib.decDigits u.toNat = l := by
        rw [← q2]; unfold Lib.itoa; rw [if_neg (by omega)]
      obtain ⟨hc, hv, _⟩ := canon_dec u.toNat
      rw [hd] at hc hv
      refine ⟨q1, hb.2, ?_, ?_⟩
      · unfold numR
        rw [if_neg (fun e => e.elim (fun e => by have := hc.2.1; omega) (fun e => hc.2.2 e.1 e.2))]
        have := numF_all l hc.1 0
        rw [show min 0 1000000 = 0 from rfl] at this
        rw [this]
        have : l.foldl (fun a c => 10 * a + (c.toNat - 48)) 0 = u.toNat := hv
        rw [this]; omega
      · rw [great_iff l hc, decide_eq_false (by omega)]
    · cases h
  | _ => rw [ha] at h; cases h
theorem num_none (l : List UInt8) (h : numP l = none) : numR l = -1 ∨ great l = true := by
  by_cases hc : canon l
  · by_cases hv : val l ≤ 9223372036854775807
    · exfalso
      unfold numP at h
      rw [atoi_dec l hc hv] at h
      simp only at h
      have e : Lib.itoa ((val l : Nat) : Int) = l := by
        unfold Lib.itoa
        rw [if_neg (by omega), Int.toNat_natCast]
        exact dec_canon l hc
      rw [if_pos ⟨by omega, e⟩] at h
      cases h
    · right
      rw [great_iff l hc, decide_eq_true (by omega)]
  · left
    unfold numR
    split
    · rfl
    · rename_i hn
      refine numF_neg l 0 (fun hd => hc ⟨hd, by omega, fun h1 h2 => hn (.inr ⟨h1, h2⟩)⟩)
theorem numR_nonneg (l : List UInt8) (h : 0 ≤ numR l) (hg : great l = false) : ∃ v, numP l = some v := by
  cases hp : numP l with
  | some v => exact ⟨v, rfl⟩
  | none => rcases num_none l hp with e | e
            · omega
            · rw [hg] at e; cases e
/-- where the first c stands -/
def fst1 (c : UInt8) (l : List UInt8) : Nat := l.findIdx (· == c)
theorem fst1_le (c : UInt8) (l : List UInt8) : fst1 c l ≤ l.length := List.findIdx_le_length
theorem fst1_cons_eq (c : UInt8) (l : List UInt8) : fst1 c (c :: l) = 0 := by unfold fst1; rw [List.findIdx_cons]; simp
theorem fst1_cons_ne {c b : UInt8} (l : List UInt8) (h : b ≠ c) : fst1 c (b :: l) = fst1 c l + 1 := by
  have hb : (b == c) = false := by simpa using h
  unfold fst1; rw [List.findIdx_cons, hb]; rfl
theorem index_one (c : UInt8) (l : List UInt8) : Lib.index l [c] = if fst1 c l < l.length then (fst1 c l : Int) else -1 := by
  induction l with
  | nil => rfl
  | cons b l ih =>
    by_cases h : b = c
    · subst h
      rw [fst1_cons_eq, if_pos (by simp)]
      unfold Lib.index
      rw [if_pos (by simp)]; rfl
    · rw [fst1_cons_ne l h]
      unfold Lib.index
      rw [if_neg (by simp; exact fun e => h e.symm), ih]
      by_cases h2 : fst1 c l < l.length
      · rw [if_pos h2, if_pos (show fst1 c l + 1 < (b :: l).length by simp; omega), if_neg (show ¬ (((fst1 c l : Nat) : Int) == -1) = true by simp <;> omega)]
        omega
      · rw [if_neg h2, if_neg (show ¬ fst1 c l + 1 < (b :: l).length by simp; omega)]
        rfl
theorem fst1_get {c : UInt8} {l : List UInt8} (h : fst1 c l < l.length) : l[fst1 c l] = c := by
  have : (l[fst1 c l] == c) = true := List.findIdx_getElem (p := (· == c)) (xs := l) (w := h)
  simpa using this
theorem fst1_no {c : UInt8} {l : List UInt8} {j : Nat} (hj : j < fst1 c l) (hl : j < l.length) : l[j] ≠ c := by
  have := List.not_of_lt_findIdx (p := (· == c)) (xs := l) hj
  simpa using this
theorem fst1_eq {c : UInt8} {l : List UInt8} {k : Nat} (hk : k < l.length) (h : l[k] = c) (hn : ∀ j (hj : j < l.length), j < k → l[j] ≠ c) : fst1 c l = k := by
  rcases Nat.lt_trichotomy (fst1 c l) k with h1 | h1 | h1
  · exact absurd (fst1_get (by omega)) (hn _ (by omega) h1)
  · exact h1
  · exact absurd h (fst1_no h1 hk)
theorem fst1_none {c : UInt8} {l : List UInt8} (hn : ∀ j (hj : j < l.length), l[j] ≠ c) : fst1 c l = l.length := by
  rcases Nat.lt_or_ge (fst1 c l) l.length with h1 | h1
  · exact absurd (fst1_get h1) (hn _ h1)
  · have := fst1_le c l; omega
/-- parted at each c -/
def spl (c : UInt8) : List UInt8 → List (List UInt8)
  | [] => [[]]
  | b :: l => if b = c then [] :: spl c l else match spl c l with
    | h :: t => (b :: h) :: t
    | [] => [[b]]
theorem spl_ne (c : UInt8) (l : List UInt8) : spl c l ≠ [] := by
  cases l with
  | nil => simp [spl]
  | cons b l =>
    unfold spl
    split
    · simp
    · split <;> simp
theorem spl_miss (c : UInt8) (l : List UInt8) (h : ¬ fst1 c l < l.length) : spl c l = [l] := by
  induction l with
  | nil => rfl
  | cons b l ih =>
    by_cases hb : b = c
    · subst hb; rw [fst1_cons_eq] at h; simp at h
    · rw [fst1_cons_ne l hb] at h
      unfold spl
      rw [if_neg hb, ih (by simp at h; omega)]
theorem spl_hit (c : UInt8) (l : List UInt8) (h : fst1 c l < l.length) : spl c l = l.take (fst1 c l) :: spl c (l.drop (fst1 c l + 1)) := by
  induction l with
  | nil => simp [fst1] at h
  | cons b l ih =>
    by_cases hb : b = c
    · subst hb; rw [fst1_cons_eq]; simp [spl]
    · rw [fst1_cons_ne l hb] at h ⊢
      have := ih (by simpa using h)
      conv => lhs; unfold spl
      rw [if_neg hb, this]
      simp
def mkS (l : List UInt8) : ByteArray := ⟨l.toArray⟩
theorem mkS_data (s : ByteArray) : mkS s.data.toList = s := rfl
theorem data_mkS (l : List UInt8) : (mkS l).data.toList = l := rfl
theorem mkS_size (l : List UInt8) : (mkS l).size = l.length := rfl
theorem mkS_inj {a b : List UInt8} (h : mkS a = mkS b) : a = b := by
  have := congrArg (fun s : ByteArray => s.data.toList) h
  exact this
theorem splitB_one (c : UInt8) (s : ByteArray) : Lib.splitB (mkS [c]) 0 (Lib.countB s (mkS [c])) s = (spl c s.data.toList).map mkS := by
  obtain ⟨n, hn⟩ : ∃ n, n = s.size := ⟨_, rfl⟩
  induction n using Nat.strongRecOn generalizing s with
  | _ n ih =>
    subst hn
    have hi : Lib.indexB s (mkS [c]) = if fst1 c s.data.toList < s.data.toList.length then (fst1 c s.data.toList : Int) else -1 := index_one c s.data.toList
    by_cases h : fst1 c s.data.toList < s.data.toList.length
    · rw [if_pos h] at hi
      have hls : s.data.toList.length = s.size := Array.length_toList
      have hc := Lib.countB_hit s (mkS [c]) _ (by simp [mkS_size]) hi
      have e1 : (s.extract (fst1 c s.data.toList + (mkS [c]).size) s.size).data.toList = s.data.toList.drop (fst1 c s.data.toList + 1) := Lib.extract_to_end s _
      have hlt : (s.extract (fst1 c s.data.toList + (mkS [c]).size) s.size).size < s.size := by
        have : (s.extract (fst1 c s.data.toList + (mkS [c]).size) s.size).size = (s.data.toList.drop (fst1 c s.data.toList + 1)).length := by rw [← e1]; exact Array.length_toList.symm
        rw [this, List.length_drop]; omega
      have hr := ih _ hlt _ rfl
      rw [hc, Nat.add_comm 1, Lib.splitB_hit _ _ _ _ _ hi, spl_hit c _ h, List.map_cons, hr, e1]
      congr 1
      rw [Nat.add_zero, ← mkS_data (s.extract 0 _), Lib.extract_from_zero]
    · rw [if_neg h] at hi
      rw [Lib.splitB_miss _ _ _ _ hi, spl_miss c _ h]
      rfl
theorem countB_one (c : UInt8) (s : ByteArray) : Lib.countB s (mkS [c]) + 1 = (spl c s.data.toList).length := by
  rw [← List.length_map (f := mkS), ← splitB_one, Lib.splitB_all _ (by simp [mkS_size]) 0 _ s rfl]
theorem cut_one (c : UInt8) (l : List UInt8) : Lib.cut l [c] = if fst1 c l < l.length then (l.take (fst1 c l), l.drop (fst1 c l + 1), true) else (l, [], false) := by
  unfold Lib.cut
  rw [index_one]
  by_cases h : fst1 c l < l.length
  · rw [if_pos h, if_pos h, if_pos (by omega)]; rfl
  · rw [if_neg h, if_neg h, if_neg (by omega)]
/-! ### digits of sixteen -/
def hexd (n : Nat) : UInt8 := if n < 10 then UInt8.ofNat (48 + n) else UInt8.ofNat (87 + n)
def hexL (l : List UInt8) : List UInt8 := l.flatMap fun b => [hexd (b.toNat / 16), hexd (b.toNat % 16)]
def digitsL : List UInt8 := [48, 49, 50, 51, 52, 53, 54, 55, 56, 57, 97, 98, 99, 100, 101, 102]
def hexv (c : UInt8) : Option Nat := if 48 ≤ c.toNat ∧ c.toNat ≤ 57 then some (c.toNat - 48) else if 97 ≤ c.toNat ∧ c.toNat ≤ 102 then some (c.toNat - 87) else none
theorem forall_byte {p : UInt8 → Prop} [DecidablePred p] (h : ∀ n : Fin 256, p (UInt8.ofNat n.val)) (c : UInt8) : p c := by
  have := h ⟨c.toNat, UInt8.toNat_lt c⟩
  simpa using this
theorem indexByte_digits (c : UInt8) : Lib.indexByte digitsL c = match hexv c with | some k => (k : Int) | none => -1 :=
  forall_byte (p := fun c => Lib.indexByte digitsL c = match hexv c with | some k => (k : Int) | none => -1) (by decide +kernel) c
theorem hexv_lt {c : UInt8} {k : Nat} (h : hexv c = some k) : k < 16 := by
  unfold hexv at h
  split at h
  · injection h with h; omega
  · split at h
    · injection h with h; omega
    · cases h
theorem hexd_v (n : Nat) (h : n < 16) (c : UInt8) : hexd n = c ↔ hexv c = some n := by
  have hd : ∀ m : Fin 16, hexv (hexd m.val) = some m.val := by decide +kernel
  have hb : ∀ c : UInt8, ∀ k, hexv c = some k → hexd k = c := by
    intro c
    have q := forall_byte (p := fun c => ((hexv c).all fun k => hexd k == c) = true) (by decide +kernel) c
    intro k hk
    rw [hk] at q
    simpa using q
  constructor
  · intro e; rw [← e]; exact hd ⟨n, h⟩
  · intro e; exact hb c n e
def unhexL : List UInt8 → Option (List UInt8)
  | [] => some []
  | [_] => none
  | a :: b :: r => match hexv a, hexv b, unhexL r with
    | some h, some l, some t => some (UInt8.ofNat (16 * h + l) :: t)
    | _, _, _ => none
theorem unhex_odd : ∀ l : List UInt8, l.length % 2 = 1 → unhexL l = none
  | [], h => by simp at h
  | [_], _ => rfl
  | a :: b :: r, h => by
    have := unhex_odd r (by simp at h; omega)
    unfold unhexL
    rw [this]
    split <;> simp_all
/-- one step: two digits more -/
theorem unhex_step (l : List UInt8) (i : Nat) (h : i + 1 < l.length) : unhexL (l.drop i) = match hexv l[i], hexv l[i + 1], unhexL (l.drop (i + 2)) with
    | some h, some l, some t => some (UInt8.ofNat (16 * h + l) :: t)
    | _, _, _ => none := by
  rw [List.drop_eq_getElem_cons (by omega), List.drop_eq_getElem_cons (i := i + 1) h]
  rfl
theorem unhex_end (l : List UInt8) (i : Nat) (h : l.length ≤ i) : unhexL (l.drop i) = some [] := by
  rw [List.drop_eq_nil_of_le h]; rfl
theorem unhex_last (l : List UInt8) (i : Nat) (h : i + 1 = l.length) : unhexL (l.drop i) = none := by
  refine unhex_odd _ ?_
  rw [List.length_drop]; omega
structure Ac where
  kind : Int
  node : Int
  pick : Int
  text : ByteArray
def actE (a : Ac) : Int := actF a.kind a.node a.pick a.text
def wordsL : List (List UInt8) := [[], [115, 117, 98, 109, 105, 116], [119, 111, 114, 107], [115, 121, 110, 99], [116, 97, 107, 101], [108, 111, 115, 101], [99, 111, 112, 121], [99, 114, 97, 115, 104], [115, 116, 97, 114, 116], [102, 111, 114, 103, 101], [102, 108, 111, 119]]
def wordL (k : Nat) : List UInt8 := (wordsL[k]?).getD []
def kindTo (p : List UInt8) : Nat → Int
  | 0 => 0
  | k + 1 => if 0 < k ∧ wordL k = p then (k : Int) else kindTo p k
def kindOf (p : List UInt8) : Int := kindTo p 11
theorem kindTo_rng (p : List UInt8) : ∀ k, 0 ≤ kindTo p k ∧ kindTo p k < max k 1
  | 0 => ⟨Int.le_refl _, by show (0:Int) < 1; decide⟩
  | k + 1 => by
    have := kindTo_rng p k
    unfold kindTo
    split <;> omega
theorem kindOf_rng (p : List UInt8) : 0 ≤ kindOf p ∧ kindOf p ≤ 10 := by
  have := kindTo_rng p 11
  unfold kindOf
  omega
def manyOf (k : Int) : Nat := (if hN k then 1 else 0) + ((if hP k then 1 else 0) + (if hT k then 1 else 0))
def nodeR (f : List UInt8 → Option Int) (k : Int) (r : List (List UInt8)) : Option Int := if hN k then f (r.getD 0 []) else some 0
def pickR (f : List UInt8 → Option Int) (k : Int) (r : List (List UInt8)) : Option Int := if hP k then f (r.getD (if hN k then 1 else 0) []) else some 0
def textR (k : Int) (r : List (List UInt8)) : Option (List UInt8) := if hT k then unhexL (r.getD 1 []) else some []
def actR (f : List UInt8 → Option Int) (k : Int) (r : List (List UInt8)) : Option Ac :=
  match nodeR f k r, pickR f k r, textR k r with
  | some n, some p, some t => some ⟨k, n, p, mkS t⟩
  | _, _, _ => none
def lineG (f : List UInt8 → Option Int) (l : List UInt8) : Option Ac :=
  if kindOf ((spl 32 l).headD []) = 0 ∨ ((spl 32 l).drop 1).length ≠ manyOf (kindOf ((spl 32 l).headD [])) then none
  else actR f (kindOf ((spl 32 l).headD [])) ((spl 32 l).drop 1)
def numRo (l : List UInt8) : Option Int := if 0 ≤ numR l ∧ great l = false then some (numR l) else none
theorem numRo_of {l : List UInt8} : (numP l = none ∧ numRo l = none) ∨ ∃ v, 0 ≤ v ∧ v ≤ 9223372036854775807 ∧ numP l = some v ∧ numRo l = some (min v 1000000) := by
  cases h : numP l with
  | none =>
    left
    refine ⟨rfl, ?_⟩
    unfold numRo
    rw [if_neg ?_]
    rintro ⟨h1, h2⟩
    rcases num_none l h with e | e
    · omega
    · rw [h2] at e; cases e
  | some v =>
    right
    obtain ⟨h1, h2, h3, h4⟩ := num_some l v h
    refine ⟨v, h1, h2, rfl, ?_⟩
    unfold numRo
    rw [if_pos ⟨by omega, h4⟩, h3]
/-- the two acts of a line -/
def near (a b : Ac) : Prop := a.kind = b.kind ∧ a.text = b.text ∧ 0 ≤ a.node ∧ b.node = min a.node 1000000 ∧ 0 ≤ a.pick ∧ b.pick = min a.pick 1000000 ∧ (hN a.kind = false → a.node = 0) ∧ (hP a.kind = false → a.pick = 0)
theorem line_two (l : List UInt8) : (lineG numP l = none ∧ lineG numRo l = none) ∨ ∃ a b, lineG numP l = some a ∧ lineG numRo l = some b ∧ near a b := by
  unfold lineG
  split
  · exact .inl ⟨rfl, rfl⟩
  · obtain ⟨k, hk⟩ : ∃ k, k = kindOf ((spl 32 l).headD []) := ⟨_, rfl⟩
    rw [← hk]
    obtain ⟨r, hr⟩ : ∃ r, r = (spl 32 l).drop 1 := ⟨_, rfl⟩
    rw [← hr]
    clear hk hr
    have hn : (nodeR numP k r = none ∧ nodeR numRo k r = none) ∨ ∃ v, 0 ≤ v ∧ nodeR numP k r = some v ∧ nodeR numRo k r = some (min v 1000000) ∧ (hN k = false → v = 0) := by
      unfold nodeR
      cases h : hN k
      · exact .inr ⟨0, by decide, rfl, rfl, fun _ => rfl⟩
      · rcases numRo_of (l := r.getD 0 []) with ⟨e1, e2⟩ | ⟨v, e0, _, e1, e2⟩
        · exact .inl ⟨e1, e2⟩
        · exact .inr ⟨v, e0, e1, e2, fun e => by cases e⟩
    have hp : (pickR numP k r = none ∧ pickR numRo k r = none) ∨ ∃ v, 0 ≤ v ∧ pickR numP k r = some v ∧ pickR numRo k r = some (min v 1000000) ∧ (hP k = false → v = 0) := by
      unfold pickR
      cases h : hP k
      · exact .inr ⟨0, by decide, rfl, rfl, fun _ => rfl⟩
      · rcases numRo_of (l := r.getD (if hN k then 1 else 0) []) with ⟨e1, e2⟩ | ⟨v, e0, _, e1, e2⟩
        · exact .inl ⟨e1, e2⟩
        · exact .inr ⟨v, e0, e1, e2, fun e => by cases e⟩
    unfold actR
    rcases hn with ⟨e1, e2⟩ | ⟨v, e0, e1, e2, e3⟩
    · rw [e1, e2]; exact .inl ⟨rfl, rfl⟩
    · rw [e1, e2]
      rcases hp with ⟨f1, f2⟩ | ⟨u, f0, f1, f2, f3⟩
      · rw [f1, f2]; exact .inl ⟨rfl, rfl⟩
      · rw [f1, f2]
        cases ht : textR k r with
        | none => exact .inl ⟨rfl, rfl⟩
        | some t => exact .inr ⟨_, _, rfl, rfl, rfl, rfl, e0, rfl, f0, rfl, e3, f3⟩
theorem near_act {a b : Ac} (h : near a b) : actE a = actE b := by
  obtain ⟨k, n, p, t⟩ := a
  obtain ⟨k', n', p', t'⟩ := b
  obtain ⟨h1, h2, h3, h4, h5, h6, _, _⟩ := h
  simp only at h1 h2 h3 h4 h5 h6
  subst h1 h2 h4 h6
  have e1 : inB (min n 1000000) 0 3 = inB n 0 3 := by unfold inB; rw [Bool.eq_iff_iff]; simp; omega
  have e2 : inB (min p 1000000) 0 400000 = inB p 0 400000 := by unfold inB; rw [Bool.eq_iff_iff]; simp; omega
  have e3 : (min n 1000000 != 0) = (n != 0) := by rw [Bool.eq_iff_iff]; simp; omega
  have e4 : (min p 1000000 != 0) = (p != 0) := by rw [Bool.eq_iff_iff]; simp; omega
  unfold actE actF
  simp only [e1, e2, e3, e4]
theorem near_eq {a b : Ac} (h : near a b) (he : actE a = 0) : a = b := by
  obtain ⟨k, n, p, t⟩ := a
  obtain ⟨k', n', p', t'⟩ := b
  obtain ⟨h1, h2, h3, h4, h5, h6, h7, h8⟩ := h
  simp only at h1 h2 h3 h4 h5 h6 h7 h8
  subst h1 h2 h4 h6
  have hn : n ≤ 1000000 ∧ p ≤ 1000000 := by
    unfold actE actF at he
    simp only at he
    split at he
    · cases he
    · split at he
      · cases he
      · rename_i hq
        simp only [Bool.or_eq_true, Bool.and_eq_true, Bool.not_eq_true', not_or, not_and, Bool.not_eq_false] at hq
        refine ⟨?_, ?_⟩
        · cases hN' : hN k
          · rw [h7 hN']; decide
          · have := hq.1 hN'
            unfold inB at this
            simp at this
            omega
        · cases hP' : hP k
          · rw [h8 hP']; decide
          · have := hq.2 hP'
            unfold inB at this
            simp at this
            omega
  rw [Int.min_eq_left hn.1, Int.min_eq_left hn.2]
/-! ### all lines -/
def readG (g : List UInt8 → Option Ac) : Nat → Nat → List UInt8 → List Ac → List Ac × Nat × Int
  | 0, _, _, out => (out, 0, 0)
  | n + 1, i, l, out =>
    if l = [] then (out, 0, 0)
    else if i = 3000 then ([], i, 1)
    else if ¬ fst1 10 l < l.length then ([], i, 4)
    else match g (l.take (fst1 10 l)) with
      | none => ([], i, 4)
      | some a => if actE a = 0 then readG g n (i + 1) (l.drop (fst1 10 l + 1)) (out ++ [a]) else ([], i, actE a)
theorem read_two : ∀ (n i : Nat) (l : List UInt8) (out : List Ac), readG (lineG numP) n i l out = readG (lineG numRo) n i l out
  | 0, _, _, _ => rfl
  | n + 1, i, l, out => by
    unfold readG
    split
    · rfl
    · split
      · rfl
      · split
        · rfl
        · rcases line_two (l.take (fst1 10 l)) with ⟨e1, e2⟩ | ⟨a, b, e1, e2, hab⟩
          · rw [e1, e2]
          · rw [e1, e2]
            simp only
            rw [← near_act hab]
            split
            · rename_i he
              rw [near_eq hab he]
              exact read_two n _ _ _
            · rfl
/-- acts as lines -/
def decL (n : Int) : List UInt8 := Lib.decDigits n.toNat
def lineL (a : Ac) : List UInt8 := wordL a.kind.toNat ++ ((if hN a.kind then 32 :: decL a.node else []) ++ ((if hP a.kind then 32 :: decL a.pick else []) ++ ((if hT a.kind then 32 :: hexL a.text.data.toList else []) ++ [10])))
def showL (l : List Ac) : List UInt8 := l.flatMap lineL
def badI (l : List Ac) : Nat := l.findIdx fun a => actE a != 0
def showE (l : List Ac) : List UInt8 × Nat × Int :=
  if 3000 < l.length then ([], 0, 1) else if badI l < l.length then ([], badI l, match l[badI l]? with | some a => actE a | none => 0) else (showL l, 0, 0)
end Ln
end Go.Proofs.YtbcoecmeoemmeaaDoor
