/- The law TapeRecovers: tape.Recover answers what the document's TapeRecovered answers and leaves its argument, for every tape: no condition. -/
import Derived.Test.YtedealljhmokoaaMsg2
import Derived.Test.YtedealljhmokoaaStr
import Derived.Test.YtedealljhmokoaaSealAdd
import Derived.Test.YtedealljhmokoaaClone
import Derived.Laws.BitsLemmas
import Derived.Deep.OwnRows
import Derived.Test.YtedealljhmokoaaRec
import Derived.Deep.DeepCutAuto
import Derived.Deep.CutBlock
import Derived.Test.YtedealljhmokoaaChg2
import Derived.Test.YtedealljhmokoaaMsg5
import Derived.Test.YtedealljhmokoaaBlk
import Derived.Test.YtedealljhmokoaaNum
import Derived.Test.YtedealljhmokoaaHead
import Derived.Test.YtedealljhmokoaaBatch
import Derived.Test.YtedealljhmokoaaCert
import Derived.Test.YtedealljhmokoaaMsg3
import Derived.Deep.MidRow
import Derived.Test.YtedealljhmokoaaOpen
namespace Go.Proofs.Ytedealljhmokoaa
open Go.ChangeShapes Go.WideShapes Go.ChangeAt Go.RowKit
set_option linter.unusedVariables false
/-- bytes that are left, and whether they ended too early -/
abbrev RS := List UInt8 × Bool
def tkB (n : Nat) (s : RS) : List UInt8 := if s.2 || decide (s.1.length < n) then [] else s.1.take n
def tkS (n : Nat) (s : RS) : RS := if s.2 || decide (s.1.length < n) then (s.1, true) else (s.1.drop n, false)
def beN (b : List UInt8) : Nat := b.foldl (fun a x => a * 256 + x.toNat) 0
def nmV (n : Nat) (s : RS) : Nat := beN (tkB n s)
def it {α : Type} (f : α → α) : Nat → α → α
  | 0, a => a
  | n + 1, a => f (it f n a)
def stepT (p : List ByteArray × RS) : List ByteArray × RS := if p.2.2 then p else (p.1 ++ [bstr (tkB (nmV 1 p.2) (tkS 1 p.2))], tkS (nmV 1 p.2) (tkS 1 p.2))
def stepD (p : List (List UInt8) × RS) : List (List UInt8) × RS := if p.2.2 then p else (p.1 ++ [tkB 32 p.2], tkS 32 p.2)
def stepV (p : List Int × RS) : List Int × RS := if p.2.2 then p else (p.1 ++ [(nmV 1 p.2 : Int)], tkS 1 p.2)
def txsR (s : RS) : List ByteArray × RS := it stepT (nmV 1 s) ([], tkS 1 s)
def digsR (s : RS) : List (List UInt8) × RS := it stepD (nmV 1 s) ([], tkS 1 s)
def votsR (s : RS) : List Int × RS := it stepV (nmV 1 s) ([], tkS 1 s)
def batR (s : RS) : Bat × RS := (⟨nmV 1 s, nmV 3 (tkS 1 s), (txsR (tkS 3 (tkS 1 s))).1⟩, (txsR (tkS 3 (tkS 1 s))).2)
def hdrR (s : RS) : Hdr × RS := (⟨nmV 1 s, nmV 3 (tkS 1 s), (digsR (tkS 3 (tkS 1 s))).1, (digsR (digsR (tkS 3 (tkS 1 s))).2).1⟩, (digsR (digsR (tkS 3 (tkS 1 s))).2).2)
def sltR (s : RS) : Slot × RS := (⟨nmV 1 s, nmV 3 (tkS 1 s), tkB 32 (tkS 3 (tkS 1 s))⟩, tkS 32 (tkS 3 (tkS 1 s)))
def crtR (s : RS) : Crt × RS := (⟨(hdrR s).1, (votsR (hdrR s).2).1⟩, (votsR (hdrR s).2).2)
def bat0 : Bat := ⟨0, 0, []⟩
def hdr0 : Hdr := ⟨0, 0, [], []⟩
def slt0 : Slot := ⟨0, 0, []⟩
def crt0 : Crt := ⟨hdr0, []⟩
def msg0 : Msg := ⟨0, 0, 0, bat0, hdr0, slt0, crt0, 0⟩
/-- the parts behind a kind -/
def bodR (src dst kind : Int) (s : RS) : Msg × RS :=
  if kind = 1 then (⟨src, dst, kind, (batR s).1, hdr0, slt0, crt0, 0⟩, (batR s).2)
  else if kind = 2 then (⟨src, dst, kind, bat0, (hdrR s).1, slt0, crt0, 0⟩, (hdrR s).2)
  else if kind = 3 then (⟨src, dst, kind, bat0, hdr0, (sltR s).1, crt0, 0⟩, (sltR s).2)
  else if kind = 4 then (⟨src, dst, kind, bat0, hdr0, slt0, (crtR s).1, 0⟩, (crtR s).2)
  else if kind = 5 then (⟨src, dst, kind, bat0, hdr0, slt0, crt0, nmV 3 s⟩, tkS 3 s)
  else (⟨src, dst, kind, bat0, hdr0, slt0, crt0, 0⟩, s)
def msgR (b : List UInt8) : Msg × RS := bodR (nmV 1 (tkS 1 (b, false))) (nmV 1 (tkS 1 (tkS 1 (b, false)))) (nmV 1 (b, false)) (tkS 1 (tkS 1 (tkS 1 (b, false))))
def decE (b : List UInt8) : Int :=
  if 4000 < b.length then 1 else if b.length = 0 then 5 else if nmV 1 (b, false) < 1 ∨ 5 < nmV 1 (b, false) then 3
  else if (msgR b).2.2 then 5 else if 0 < (msgR b).2.1.length then 4 else msgF (msgR b).1
def decM (b : List UInt8) : Msg := if decE b = 0 then (msgR b).1 else msg0
theorem it_stop {α : Type} {f : α → α} {a : α} : ∀ {k n : Nat}, k ≤ n → f (it f k a) = it f k a → it f n a = it f k a
  | k, 0, h, _ => by rw [Nat.le_zero.1 h]
  | k, n + 1, h, hf => by
    by_cases e : k = n + 1
    · rw [e]
    · show f (it f n a) = _
      rw [it_stop (show k ≤ n by omega) hf, hf]
theorem stepT_short {p : List ByteArray × RS} (h : p.2.2 = true) : stepT p = p := if_pos h
theorem stepD_short {p : List (List UInt8) × RS} (h : p.2.2 = true) : stepD p = p := if_pos h
theorem stepV_short {p : List Int × RS} (h : p.2.2 = true) : stepV p = p := if_pos h
theorem beN_snoc (b : List UInt8) (x : UInt8) : beN (b ++ [x]) = beN b * 256 + x.toNat := by unfold beN; rw [List.foldl_append]; rfl
theorem beN_from (b : List UInt8) : ∀ a : Nat, b.foldl (fun a x => a * 256 + x.toNat) a < (a + 1) * 256 ^ b.length := by
  induction b with
  | nil => intro a; simp
  | cons x b ih =>
    intro a
    have h1 := ih (a * 256 + x.toNat)
    have hx := x.toNat_lt
    rw [List.foldl_cons, List.length_cons, Nat.pow_succ]
    refine Nat.lt_of_lt_of_le h1 ?_
    rw [Nat.mul_comm (256 ^ b.length) 256, ← Nat.mul_assoc]
    exact Nat.mul_le_mul_right _ (by omega)
theorem beN_lt (b : List UInt8) : beN b < 256 ^ b.length := by
  have := beN_from b 0
  simpa [beN] using this
theorem tkB_len (n : Nat) (s : RS) : (tkB n s).length ≤ n := by
  unfold tkB
  split
  · exact Nat.zero_le _
  · simp; omega
theorem nmV_lt (n : Nat) (s : RS) : nmV n s < 256 ^ n := by
  have h1 := beN_lt (tkB n s)
  have h2 : 256 ^ (tkB n s).length ≤ 256 ^ n := Nat.pow_le_pow_right (by decide) (tkB_len n s)
  unfold nmV
  omega
end Go.Proofs.Ytedealljhmokoaa

namespace Go.Proofs.Ytedealljhmokoaa
open Go.ChangeShapes Go.WideShapes Go.ChangeAt Go.RowKit
set_option linter.unusedVariables false
structure SkR (b : List UInt8) (at_ : Nat) (s : RS) : Prop where
  over : s.2 = decide (b.length < at_)
  rest : s.2 = false → s.1 = b.drop at_
theorem SkR.start (b : List UInt8) : SkR b 0 (b, false) := ⟨by simp, fun _ => by simp⟩
theorem SkR.next {b : List UInt8} {a n : Nat} {s : RS} (h : SkR b a s) : SkR b (a + n) (tkS n s) := by
  obtain ⟨l, sh⟩ := s
  obtain ⟨h1, h2⟩ := h
  simp only at h1 h2
  unfold tkS
  cases sh
  · have h2 := h2 rfl
    have h1 : ¬ b.length < a := by simpa using h1.symm
    subst h2
    simp only [Bool.false_or, decide_eq_true_eq, List.length_drop]
    split
    · exact ⟨by simp; omega, fun h => by cases h⟩
    · refine ⟨by simp; omega, fun _ => by simp [List.drop_drop]⟩
  · have h1 : b.length < a := by simpa using h1.symm
    simp only [Bool.true_or, if_true]
    exact ⟨by simp; omega, fun h => by cases h⟩
theorem SkR.none {b : List UInt8} {a n : Nat} {s : RS} (h : SkR b a s) (ho : b.length < a + n) : tkB n s = [] := by
  obtain ⟨l, sh⟩ := s
  obtain ⟨h1, h2⟩ := h
  simp only at h1 h2
  unfold tkB
  rw [if_pos]
  cases sh
  · rw [h2 rfl]
    have h1 : ¬ b.length < a := by simpa using h1.symm
    simp; omega
  · rfl
theorem SkR.val {b : List UInt8} {a n : Nat} {s : RS} (h : SkR b a s) (ho : ¬ b.length < a + n) : tkB n s = (b.drop a).take n := by
  obtain ⟨l, sh⟩ := s
  obtain ⟨h1, h2⟩ := h
  simp only at h1 h2
  have hs : sh = false := by rw [h1]; simp; omega
  subst hs
  unfold tkB
  rw [h2 rfl, if_neg (by simp; omega)]
theorem SkR.short {b : List UInt8} {a n : Nat} {s : RS} (h : SkR b a s) : (tkS n s).2 = decide (b.length < a + n) := h.next.over
theorem beN_zeros (n : Nat) : beN (List.replicate n 0) = 0 := by
  induction n with
  | zero => rfl
  | succ n ih => rw [List.replicate_succ']; rw [beN_snoc, ih]; rfl
/-- too short stays too short -/
theorem tkS_short {n : Nat} {s : RS} (h : s.2 = true) : tkS n s = s := by unfold tkS; rw [h, Bool.true_or, if_pos rfl]; exact Prod.ext rfl h.symm
theorem tkS_mono {n : Nat} {s : RS} (h : (tkS n s).2 = false) : s.2 = false := by
  cases hs : s.2
  · rfl
  · rw [tkS_short hs] at h; rw [hs] at h; cases h
theorem nmV_short {n : Nat} {s : RS} (h : s.2 = true) : nmV n s = 0 := by unfold nmV tkB; rw [h, Bool.true_or, if_pos rfl]; rfl
theorem it_keeps {α : Type} {f : α → α} {P : α → Prop} (hf : ∀ a, P (f a) → P a) : ∀ {n : Nat} {a : α}, P (it f n a) → P a
  | 0, _, h => h
  | n + 1, a, h => it_keeps hf (n := n) (hf _ h)
theorem digsR_mono {s : RS} (h : (digsR s).2.2 = false) : s.2 = false := by
  have h1 : (it stepD (nmV 1 s) ([], tkS 1 s)).2.2 = false := h
  have h2 := it_keeps (f := stepD) (P := fun p => p.2.2 = false) (fun p hp => by
    unfold stepD at hp
    split at hp
    · exact hp
    · exact tkS_mono hp) h1
  exact tkS_mono h2
theorem txsR_mono {s : RS} (h : (txsR s).2.2 = false) : s.2 = false := by
  have h1 : (it stepT (nmV 1 s) ([], tkS 1 s)).2.2 = false := h
  have h2 := it_keeps (f := stepT) (P := fun p => p.2.2 = false) (fun p hp => by
    unfold stepT at hp
    split at hp
    · exact hp
    · exact tkS_mono (tkS_mono hp)) h1
  exact tkS_mono h2
theorem votsR_mono {s : RS} (h : (votsR s).2.2 = false) : s.2 = false := by
  have h1 : (it stepV (nmV 1 s) ([], tkS 1 s)).2.2 = false := h
  have h2 := it_keeps (f := stepV) (P := fun p => p.2.2 = false) (fun p hp => by
    unfold stepV at hp
    split at hp
    · exact hp
    · exact tkS_mono hp) h1
  exact tkS_mono h2
end Go.Proofs.Ytedealljhmokoaa

namespace Go.Proofs.Ytedealljhmokoaa
open Go.ChangeShapes Go.WideShapes Go.ChangeAt Go.RowKit
set_option linter.unusedVariables false
set_option linter.unusedSimpArgs false
theorem grown_new {w a b : World} {r r2 : Option Nat} (h : w.grownBy a r) (h2 : a.grownBy b r2) (hq : ∀ q, r2 = some q → w.heap.size ≤ q) : w.grownBy b r :=
  ⟨h2.os.trans h.os, h2.tape.trans h.tape, h2.output.trans h.output, Nat.le_trans h.size h2.size, fun i hi hne => (h2.block i (Nat.lt_of_lt_of_le hi h.size) (fun e => by have := hq i e.symm; omega)).trans (h.block i hi hne)⟩
/-- the reader in block g: what is left (it lies where it lay in w0), whether it is short -/
structure RdS (w0 w : World) (g : Nat) (s : RS) : Prop where
  blk : ∃ v, Blk w g 78 #[v, .bool s.2] ∧ RBytes (View.but w0.cell? (some g)) v s.1
  grown : w0.grownBy w (some g)
  lt : g < w0.heap.size
theorem RdS.kept {w0 w w' : World} {g : Nat} {s : RS} (h : RdS w0 w g s) (hb : Below w.heap.size w w') : RdS w0 w' g s := by
  obtain ⟨v, hB, hr⟩ := h.blk
  exact ⟨⟨v, hB.kept hb, hr⟩, grownBy_trans h.grown (grownBy_below _ hb), h.lt⟩
theorem RdS.step {w0 w w' : World} {g : Nat} {r : Option Nat} {s : RS} (h : RdS w0 w g s) (hg : w.grownBy w' r) (hq : ∀ q, r = some q → w0.heap.size ≤ q) : RdS w0 w' g s := by
  obtain ⟨v, hB, hr⟩ := h.blk
  exact ⟨⟨v, hB.grown hg (fun e => by have := hq g e.symm; have := h.lt; omega), hr⟩, grown_new h.grown hg hq, h.lt⟩
theorem RdS.size {w0 w : World} {g : Nat} {s : RS} (h : RdS w0 w g s) : w0.heap.size ≤ w.heap.size := h.grown.size
theorem RVec.takeN {α : Type} {enc : α → Value} {bs : Nat} {h : View} {A : Option Addr} {n c : Nat} {xs : List α} (hr : RVec enc bs h (.slice A n c) xs) {k : Nat} (hk : k ≤ xs.length) : RVec enc bs h (.slice A k c) (xs.take k) := by
  obtain ⟨A', c', e, h1, h2, h3, h4, h5⟩ := hr
  injection e with e1 e2 e3
  subst e1 e2 e3
  have hl : (xs.take k).length = k := by simp; omega
  refine ⟨A, c, by rw [hl], by omega, h2, by rw [hl]; exact Nat.le_trans (Nat.mul_le_mul_right _ hk) h3, h4, fun hp => ?_⟩
  obtain ⟨b, o, ea, hc⟩ := h5 (by omega)
  refine ⟨b, o, ea, fun i hi => ?_⟩
  rw [hl] at hi
  rw [hc i (by omega), List.getElem_take]
theorem RVec.dropN {α : Type} {enc : α → Value} {bs : Nat} {h : View} {A : Option Addr} {n c : Nat} {xs : List α} (hr : RVec enc bs h (.slice A n c) xs) {lo : Nat} (hm : lo ≤ xs.length) : RVec enc bs h (.slice (A.map fun x => x.add lo) (xs.length - lo) (c - lo)) (xs.drop lo) := by
  obtain ⟨A', c', e, h1, h2, h3, h4, h5⟩ := hr
  injection e with e1 e2 e3
  subst e1 e2 e3
  have hl : (xs.drop lo).length = xs.length - lo := by simp
  refine ⟨_, _, by rw [hl], by omega, Nat.le_trans (Nat.sub_le _ _) h2, ?_, ?_, fun hp => ?_⟩
  · rw [hl]; exact Nat.le_trans (Nat.mul_le_mul_right _ (by omega)) h3
  · intro hA
    cases A with
    | none => have := h4 rfl; omega
    | some a => simp at hA
  · obtain ⟨b, o, ea, hc⟩ := h5 (by omega)
    subst ea
    refine ⟨b, o + lo, by simp [add_off], fun i hi => ?_⟩
    rw [hl] at hi
    have := hc (lo + i) (by omega)
    rw [show o + lo + i = o + (lo + i) by omega, this]
    simp
theorem RVec.stubN {α : Type} (enc : α → Value) (bs : Nat) (h : View) (A : Option Addr) {m c : Nat} {xs : List α} (hm : m = 0) (hc : c = 0) (hx : xs.length = m) : RVec enc bs h (.slice A m c) xs := by
  subst hm hc
  have : xs = [] := List.eq_nil_of_length_eq_zero hx
  subst this
  exact ⟨A, 0, rfl, Nat.le_refl _, Nat.zero_le _, by simp, fun _ => rfl, fun h => by simp at h⟩
set_option maxHeartbeats 2000000 in
set_option maxRecDepth 100000 in
theorem take_any (w0 : World) (g n : Nat) (z : Int) (s : RS) (w : World) (hz : z = n) (hn : n ≤ 1000) (hs : RdS w0 w g s) :
    Calls Try.prog 45 #[.pointer (some ⟨g, 0, none⟩), .int .i64 z] w fun e w' => ∃ d, e = .returned d ∧ w.grownBy w' (some g) ∧ RdS w0 w' g (tkS n s) ∧ RBytes (View.from w'.cell? w.heap.size) d (tkB n s) := by
  subst hz
  obtain ⟨⟨v, hB, hr0⟩, hgr, hlt0⟩ := hs
  have hr := hr0.mono (vle_but hgr)
  obtain ⟨l, sh⟩ := s
  obtain ⟨A, c, rfl, hlc, hcm, hl8, _, _⟩ := id hr
  have hlc : l.length ≤ c := hlc
  have hr : RBytes (View.but w.cell? (some g)) (.slice A l.length c) l := hr
  have hr0 : RBytes (View.but w0.cell? (some g)) (.slice A l.length c) l := hr0
  have hB : Blk w g 78 #[.slice A l.length c, .bool sh] := hB
  have hlt := hB.lt
  have g0 := hB.cell 0; have g1 := hB.cell 1
  simp at g0 g1
  cases sh
  · by_cases hlen : (l.length : Int) < n
    · have e1 : tkB n (l, false) = [] := by unfold tkB; rw [if_pos (by simp; omega)]
      have e2 : tkS n (l, false) = (l, true) := by unfold tkS; rw [if_pos (by simp; omega)]
      rw [e1, e2]
      clear e1 e2
      go_enter Try.func45, Try.ntmps45
      go_wp2_with (refine wpList_store_blk (n := 1) rfl rfl rfl rfl (by kernel_rfl) rfl hB (by simp) rfl ?_)
      intro w1 hB1 hg1
      have hB1 : Blk w1 g 78 #[.slice A l.length c, .bool true] := hB1
      clear g0 g1
      go_wp2
      go_ret
      exact ⟨_, rfl, hg1, ⟨⟨_, hB1, hr0⟩, grownBy_trans hgr hg1, hlt0⟩, RVec.nil _ _ _⟩
    · have e1 : tkB n (l, false) = l.take n := by unfold tkB; rw [if_neg (by simp; omega)]
      have e2 : tkS n (l, false) = (l.drop n, false) := by unfold tkS; rw [if_neg (by simp; omega)]
      rw [e1, e2]
      clear e1 e2
      have hnl : n ≤ l.length := by omega
      have hnl' : (n : Int) ≤ (l.length : Int) := by omega
      have hnc : n ≤ c := by omega
      have hnc' : (n : Int) ≤ (c : Int) := by omega
      have hlc' : (l.length : Int) ≤ (c : Int) := by omega
      obtain ⟨P, hP⟩ : ∃ P, Hid (l.take n = P) := ⟨_, rfl⟩
      obtain ⟨D, hD⟩ : ∃ D, Hid (l.drop n = D) := ⟨_, rfl⟩
      have hPl : P.length = n := by rw [← hP.out]; simp; omega
      have HPl := Lib.hid hPl
      have hPr : RBytes w.cell? (.slice A n c) P := by rw [← hP.out]; exact RVec.take (hr.mono (View.but_le _ _)) hnl
      have hDr : RBytes (View.but w0.cell? (some g)) (.slice (A.map fun x => x.add n) (l.length - n) (c - n)) D := by rw [← hD.out]; exact hr0.dropN hnl
      have HD := Lib.hid (show D.length = l.length - n by rw [← hD.out]; simp)
      rw [hP.out, hD.out]
      clear hPl
      go_enter Try.func45, Try.ntmps45
      go_wp2_with fail
      refine (cloneB_any _ P _ hPr).mono ?_
      rintro e w1 ⟨d, rfl, hb1, o1⟩
      have hB1 := hB.kept hb1
      have hz1 := hb1.size
      have ro := o1.reads_from (bs := 1) (b0 := w.heap.size) (by rw [HPl.out]; omega) (Nat.le_refl _) (g := some g) (by intro k e; injection e; omega)
      obtain ⟨A1, c1, rfl⟩ := o1.form
      rw [HPl.out] at ro
      have ro1 := ro
      clear g0 g1 o1
      have g0 := hB1.cell 0; have g1 := hB1.cell 1
      simp at g0 g1
      by_cases hcn : c = n
      · subst hcn
        have hln : l.length = c := by omega
        go_wp2_with (refine wpList_store_blk (n := 1) rfl rfl rfl rfl (by kernel_rfl) rfl hB1 (by simp) rfl ?_)
        intro w2 hB2 hg2
        have hB2 : Blk w2 g 78 #[.slice A 0 0, .bool false] := hB2
        have hg := grownBy_trans (grownBy_below (some g) hb1) hg2
        clear g0 g1
        go_wp2
        go_ret
        exact ⟨_, rfl, hg, ⟨⟨_, hB2, RVec.stubN _ _ _ _ rfl rfl (by rw [HD.out]; omega)⟩, grownBy_trans hgr hg, hlt0⟩, by rw [HPl.out]; exact ro.mono (vle_from _ (vle_grown hg2))⟩
      · have hcn' : ¬ (c : Int) = (n : Int) := by omega
        go_wp2_with (refine wpList_store_blk (n := 1) rfl rfl rfl rfl (by kernel_rfl) rfl hB1 (by simp) rfl ?_)
        intro w2 hB2 hg2
        have hB2 : Blk w2 g 78 #[.slice (A.map fun x => x.add n) (l.length - n) (c - n), .bool false] := hB2
        have hg := grownBy_trans (grownBy_below (some g) hb1) hg2
        clear g0 g1
        go_wp2
        go_ret
        exact ⟨_, rfl, hg, ⟨⟨_, hB2, hDr⟩, grownBy_trans hgr hg, hlt0⟩, by rw [HPl.out]; exact ro.mono (vle_from _ (vle_grown hg2))⟩
  · have e1 : tkB n (l, true) = [] := by unfold tkB; rw [if_pos (by simp)]
    have e2 : tkS n (l, true) = (l, true) := by unfold tkS; rw [if_pos (by simp)]
    rw [e1, e2]
    clear e1 e2
    go_enter Try.func45, Try.ntmps45
    go_wp2_with (refine wpList_store_blk (n := 1) rfl rfl rfl rfl (by kernel_rfl) rfl hB (by simp) rfl ?_)
    intro w1 hB1 hg1
    have hB1 : Blk w1 g 78 #[.slice A l.length c, .bool true] := hB1
    clear g0 g1
    go_wp2
    go_ret
    exact ⟨_, rfl, hg1, ⟨⟨_, hB1, hr0⟩, grownBy_trans hgr hg1, hlt0⟩, RVec.nil _ _ _⟩
end Go.Proofs.Ytedealljhmokoaa

namespace Go.Proofs.Ytedealljhmokoaa
open Go.ChangeShapes Go.WideShapes Go.ChangeAt Go.RowKit
set_option linter.unusedVariables false
set_option linter.unusedSimpArgs false
theorem or_256 {v x : Nat} (hv : v < 65536) (hx : x < 256) : bits .or .i64 ((v : Int) * 256) (x : Int) = ((v * 256 + x : Nat) : Int) := by
  have e8 : (2 : Int) ^ 8 = 256 := by decide
  have e62 : (2 : Int) ^ 62 = 4611686018427387904 := by decide
  have h := bits_join .i64 62 (by decide) (fun n h0 h1 => by rw [IntKind.wrap_i64]; omega) 8 ((v : Int) * 256) x (by omega) (by rw [e8]; omega) (by rw [e62]; omega) (by omega) (by rw [e8]; omega) (by rw [e62]; omega)
  rw [h]
  omega
set_option maxHeartbeats 2000000 in
set_option maxRecDepth 100000 in
theorem number_any (w0 : World) (g n : Nat) (z : Int) (s : RS) (w : World) (hz : z = n) (hn : n ≤ 3) (hs : RdS w0 w g s) :
    Calls Try.prog 42 #[.pointer (some ⟨g, 0, none⟩), .int .i64 z] w fun e w' => e = .returned (.int .i64 (nmV n s)) ∧ w.grownBy w' (some g) ∧ RdS w0 w' g (tkS n s) := by
  subst hz
  have hlt := hs.lt
  have hPn := tkB_len n s
  obtain ⟨P, hP⟩ : ∃ P, Hid (tkB n s = P) := ⟨_, rfl⟩
  obtain ⟨V, hV⟩ : ∃ V, Hid (nmV n s = V) := ⟨_, rfl⟩
  have hV2 : Hid (beN P = V) := by show _ = _; rw [← hP.out, ← hV.out]; rfl
  rw [hP.out] at hPn
  rw [hV.out]
  have hP3 : P.length ≤ 3 := by omega
  clear hPn hV
  go_enter Try.func42, Try.ntmps42
  go_wp2_with fail
  refine (take_any w0 g n n s _ rfl (by omega) hs).mono ?_
  rintro e w1 ⟨d, rfl, hg1, hs1, hr⟩
  rw [hP.out] at hr
  have hr := hr.mono (View.from_le _ _)
  obtain ⟨A, c, rfl, hlc, _, _, _, hel0⟩ := id hr
  have Hel : Hid (∀ k (hk : k < P.length), ∃ b o, A = some ⟨b, o, none⟩ ∧ w1.cell? ⟨b, o + k, none⟩ = some (.int .u8 P[k].toNat)) := fun k hk => by
    obtain ⟨b, o, e, h⟩ := hel0 (by omega)
    exact ⟨b, o, e, h k hk⟩
  clear hel0 hr hs hP
  go_wp2_with fail
  go_loopw [5, 7, 12] (fun v _ i wr => ∃ k : Nat, k ≤ P.length ∧ i = .int .i64 k ∧ v = .int .i64 (beN (P.take k)) ∧ Below w1.heap.size w1 wr) (fun _ _ i _ => P.length - (intOf i).toNat)
  case atStart => exact ⟨0, Nat.zero_le _, rfl, rfl, Below.refl _ _⟩
  case round =>
    obtain ⟨k, hk, rfl, rfl, hbl⟩ := hrel
    by_cases hlt : k < P.length
    · obtain ⟨b0, o0, rfl, e0⟩ := Hel.out k hlt
      have c0 := vle_below hbl _ _ e0
      have Hn := Lib.hid (show beN (P.take (k + 1)) = beN (P.take k) * 256 + P[k].toNat by rw [List.take_succ_eq_append_getElem hlt, beN_snoc])
      have hV1 : beN (P.take k) < 65536 := by
        have h1 := beN_lt (P.take k)
        have h2 : 256 ^ (P.take k).length ≤ 256 ^ 2 := Nat.pow_le_pow_right (by decide) (by simp; omega)
        omega
      have hx := P[k].toNat_lt
      generalize beN (P.take k) = v at *
      generalize P[k].toNat = x at *
      clear e0
      have Ho := Lib.hid (or_256 hV1 hx)
      go_wp2
      go_roundw
      case rel => exact ⟨k + 1, by omega, by go_num, by rw [Ho.out, Hn.out], hbl⟩
      case measure => simp [intOf]; omega
    · have hkl : k = P.length := by omega
      rw [hkl, List.take_length, hV2.out]
      clear Hel
      go_wp2
      go_ret
      exact ⟨rfl, grownBy_trans hg1 (grownBy_below _ hbl), hs1.kept hbl⟩
end Go.Proofs.Ytedealljhmokoaa

namespace Go.Proofs.Ytedealljhmokoaa
open Go.ChangeShapes Go.WideShapes Go.ChangeAt Go.RowKit
set_option linter.unusedVariables false
set_option linter.unusedSimpArgs false
structure SkS (w0 w : World) (g : Nat) (b : List UInt8) (at_ : Nat) (s : RS) : Prop where
  blk : ∃ v, Blk w g 85 #[v, .int .i64 at_] ∧ RBytes (View.but w0.cell? (some g)) v b
  rel : SkR b at_ s
  grown : w0.grownBy w (some g)
  lt : g < w0.heap.size
theorem SkS.kept {w0 w w' : World} {g a : Nat} {b : List UInt8} {s : RS} (h : SkS w0 w g b a s) (hb : Below w.heap.size w w') : SkS w0 w' g b a s := by
  obtain ⟨v, hB, hr⟩ := h.blk
  exact ⟨⟨v, hB.kept hb, hr⟩, h.rel, grownBy_trans h.grown (grownBy_below _ hb), h.lt⟩
theorem SkS.step {w0 w w' : World} {g a : Nat} {r : Option Nat} {b : List UInt8} {s : RS} (h : SkS w0 w g b a s) (hg : w.grownBy w' r) (hq : ∀ q, r = some q → w0.heap.size ≤ q) : SkS w0 w' g b a s := by
  obtain ⟨v, hB, hr⟩ := h.blk
  exact ⟨⟨v, hB.grown hg (fun e => by have := hq g e.symm; have := h.lt; omega), hr⟩, h.rel, grown_new h.grown hg hq, h.lt⟩
theorem SkS.size {w0 w : World} {g a : Nat} {b : List UInt8} {s : RS} (h : SkS w0 w g b a s) : w0.heap.size ≤ w.heap.size := h.grown.size
theorem from_lower {h : View} {b b' : Nat} (hb : b' ≤ b) : VLe (View.from h b) (View.from h b') := fun a v e => by
  unfold View.from at e ⊢
  split at e
  · cases e
  · rw [if_neg (by omega)]; exact e
theorem madeB_reads (w : World) (n : Nat) (hn : n ≤ 140737488355328) : RBytes (View.from (w.alloc (.cells (madeCells #[.int .u8 0] n) 5)).cell? w.heap.size) (.slice (some ⟨w.heap.size, 0, none⟩) n n) (List.replicate n 0) := by
  refine ⟨some ⟨w.heap.size, 0, none⟩, n, by simp, by simp, le_maxLen hn, by simpa using hn, (fun h => by cases h), fun _ => ⟨w.heap.size, 0, rfl, fun i hi => ?_⟩⟩
  unfold View.from
  rw [if_neg (by simp)]
  have h := (Blk.new w 5 (madeCells #[.int .u8 0] n)).cell i
  simp at hi
  rw [Nat.zero_add]
  rw [h]
  have := toList_madeCells_one (.int .u8 0) n
  rw [← Array.getElem?_toList, this]
  simp [hi]
  rfl
set_option maxHeartbeats 2000000 in
set_option maxRecDepth 100000 in
theorem over_any (w0 : World) (g a : Nat) (b : List UInt8) (s : RS) (w : World) (hs : SkS w0 w g b a s) (hb : b.length ≤ 4000) :
    Calls Try.prog 48 #[.pointer (some ⟨g, 0, none⟩)] w fun e w' => e = .returned (.bool s.2) ∧ Below w.heap.size w w' := by
  obtain ⟨⟨v, hB, hr0⟩, ⟨ho, _⟩, hgr, hlt0⟩ := hs
  obtain ⟨A, c, rfl, _⟩ := id hr0
  have hB : Blk w g 85 #[.slice A b.length c, .int .i64 a] := hB
  rw [ho]
  clear ho hr0
  go_enter Try.func48, Try.ntmps48
  go_wp2_with fail
  refine wp_region_pl (fun w' => Below w.heap.size w w') [10] (.q 0 (.q 1 (.q 2 (.q 3 (.q 4 (.q 5 (.q 6 (.q 7 (.q 8 (.q 9 (.qc 10 .nil))))))))))) (by kernel_rfl) (by kernel_rfl) (fun _ _ d _ _ h => by cases d <;> exact h) rfl (by kernel_rfl) ?_ ?_
  · exact below_drew _
  intro W hS
  repeat (first
    | (refine pl_q (by assumption) rfl rfl ?_; apply Exists.intro; refine ⟨fun w' hS => ?_, ?_⟩; (· (have hq := hB.kept hS; have h0 := hq.cell 0; have h1 := hq.cell 1; simp at h0 h1; go_simp; exact rfl)); simp only [List.getElem_toArray, List.getElem_cons_zero, List.getElem_cons_succ, Act.put, List.setIfInBounds_toArray, List.set_cons_zero, List.set_cons_succ])
    | (refine pl_qc rfl rfl ?_; apply Exists.intro; refine ⟨fun w' _ => ?_, ?_⟩; (· (go_simp; exact rfl)); simp only [List.getElem_toArray, List.getElem_cons_zero, List.getElem_cons_succ, Act.put, List.setIfInBounds_toArray, List.set_cons_zero, List.set_cons_succ])
    | (refine pl_skip (by assumption) rfl rfl ?_; simp only [List.getElem_toArray, List.getElem_cons_zero, List.getElem_cons_succ, Act.put, List.setIfInBounds_toArray, List.set_cons_zero, List.set_cons_succ])
    | (refine pl_skipl (by assumption) rfl rfl ?_; simp only [List.getElem_toArray, List.getElem_cons_zero, List.getElem_cons_succ, Act.put, List.setIfInBounds_toArray, List.set_cons_zero, List.set_cons_succ]))
  refine pl_nil ?_
  go_wp2
  go_ret
  refine ⟨?_, hS⟩
  simp
/-- what next answers -/
structure NextR (w0 w w' : World) (g a2 n : Nat) (b : List UInt8) (s : RS) (d : Value) : Prop where
  grown : w.grownBy w' (some g)
  st : SkS w0 w' g b a2 (tkS n s)
  row : ∃ xs, RBytes (View.from w'.cell? w.heap.size) d xs ∧ ((tkS n s).2 = false → xs = tkB n s) ∧ beN xs = nmV n s ∧ xs.length ≤ n
set_option maxHeartbeats 2000000 in
set_option maxRecDepth 100000 in
theorem next_any (w0 : World) (g a n : Nat) (z : Int) (b : List UInt8) (s : RS) (w : World) (hz : z = n) (hn : n ≤ 300) (ha : a ≤ 1000000) (hs : SkS w0 w g b a s) (hb : b.length ≤ 4000) :
    Calls Try.prog 49 #[.pointer (some ⟨g, 0, none⟩), .int .i64 z] w fun e w' => ∃ d, e = .returned d ∧ NextR w0 w w' g (a + n) n b s d := by
  subst hz
  obtain ⟨⟨v, hB, hr0⟩, hrel, hgr, hlt0⟩ := hs
  have hr := hr0.mono (vle_but hgr)
  obtain ⟨A, c, rfl, hlc, hcm, hl8, _, _⟩ := id hr
  have hlc : b.length ≤ c := hlc
  have hr : RBytes (View.but w.cell? (some g)) (.slice A b.length c) b := hr
  have hr0 : RBytes (View.but w0.cell? (some g)) (.slice A b.length c) b := hr0
  have hB : Blk w g 85 #[.slice A b.length c, .int .i64 a] := hB
  have hnx := hrel.next (n := n)
  have hlt := hB.lt
  have g0 := hB.cell 0; have g1 := hB.cell 1
  simp at g0 g1
  obtain ⟨a2, ha2⟩ : ∃ a2, Hid (a + n = a2) := ⟨_, rfl⟩
  have hw1 : IntKind.i64.wrap ((a : Int) + n) = a2 := by rw [IntKind.wrap_i64, ← ha2.out]; omega
  have hw2 : (a : Int) + n = a2 := by rw [← ha2.out]; omega
  have hmk : ∀ W, (Instr.makeSlice 28 (.int .i64 (n : Int)) (.int .i64 (n : Int))).run Try.prog W = .ok (.slice (some ⟨W.heap.size, 0, none⟩) n n) (W.alloc (.cells (madeCells #[.int .u8 0] n) 5)) := fun W => run_make_row' 28 5 (.int .u8 0) 1 Try.underlying28 (by kernel_rfl) rfl _ _ _ (by omega) (by omega) W
  clear hr
  rw [ha2.out] at hnx ⊢
  by_cases hlen : b.length < a2
  · have hq1 := hrel.none (n := n) (by rw [ha2.out]; exact hlen)
    have hq2 : (tkS n s).2 = true := by rw [hnx.over]; exact decide_eq_true hlen
    have hlen' : (b.length : Int) < (a2 : Int) := by omega
    go_enter Try.func49, Try.ntmps49
    go_wp2_with (refine wpList_store_blk (n := 1) rfl rfl rfl rfl (by kernel_rfl) rfl hB (by simp) rfl ?_)
    intro w1 hB1 hg1
    have hB1 : Blk w1 g 85 #[.slice A b.length c, .int .i64 a2] := hB1
    clear g0 g1
    go_wp2_with fail
    refine wp_region_pl (fun w' => Below w1.heap.size w1 w') [] (.q 0 (.q 1 (.q 2 (.q 3 (.q 4 (.q 5 (.q 6 (.q 7 (.q 8 (.q 9 .nil)))))))))) (by kernel_rfl) (by kernel_rfl) (fun _ _ d _ _ h => by cases d <;> exact h) rfl (by kernel_rfl) ?_ ?_
    · exact below_drew _
    intro W hS
    repeat (first
      | (refine pl_q (by assumption) rfl rfl ?_; apply Exists.intro; refine ⟨fun w' hS => ?_, ?_⟩; (· (have hq := hB1.kept hS; have h0 := hq.cell 0; have h1 := hq.cell 1; simp at h0 h1; go_simp; exact rfl)); simp only [List.getElem_toArray, List.getElem_cons_zero, List.getElem_cons_succ, Act.put, List.setIfInBounds_toArray, List.set_cons_zero, List.set_cons_succ])
      | (refine pl_qc rfl rfl ?_; apply Exists.intro; refine ⟨fun w' _ => ?_, ?_⟩; (· (go_simp; exact rfl)); simp only [List.getElem_toArray, List.getElem_cons_zero, List.getElem_cons_succ, Act.put, List.setIfInBounds_toArray, List.set_cons_zero, List.set_cons_succ])
      | (refine pl_skip (by assumption) rfl rfl ?_; simp only [List.getElem_toArray, List.getElem_cons_zero, List.getElem_cons_succ, Act.put, List.setIfInBounds_toArray, List.set_cons_zero, List.set_cons_succ])
      | (refine pl_skipl (by assumption) rfl rfl ?_; simp only [List.getElem_toArray, List.getElem_cons_zero, List.getElem_cons_succ, Act.put, List.setIfInBounds_toArray, List.set_cons_zero, List.set_cons_succ]))
    refine pl_nil ?_
    have hmk2 := hmk W
    have hrd := madeB_reads W n (by omega)
    have hbA := below_one W (.cells (madeCells #[.int .u8 0] n) 5)
    go_wp2
    go_ret
    have hb2 := hS.trans (hbA.mono hS.size)
    have hg2 := grownBy_trans hg1 (grownBy_below (some g) hb2)
    have hz2 := hb2.size
    have hzg := hg1.size
    have hzW := hS.size
    exact ⟨_, rfl, hg2, ⟨⟨_, hB1.kept hb2, hr0⟩, hnx, grownBy_trans hgr hg2, hlt0⟩, List.replicate n 0, hrd.mono (from_lower (by omega)), fun h => (by rw [hq2] at h; cases h), (by rw [beN_zeros]; unfold nmV; rw [hq1]; rfl), by simp⟩
  · have hq1 := Lib.hid (hrel.val (n := n) (by rw [ha2.out]; exact hlen))
    have hlen' : ¬ (b.length : Int) < (a2 : Int) := by omega
    have haN := ha2.out
    obtain ⟨T, hT⟩ : ∃ T, Hid ((b.drop a).take n = T) := ⟨_, rfl⟩
    have hTl : Hid (T.length = n) := by show _ = _; rw [← hT.out]; simp; omega
    have hrT : RBytes (View.but w0.cell? (some g)) (.slice (if c = a then A else A.map fun x => x.add a) n (c - a)) T := by
      split
      · exact RVec.stubN _ _ _ _ (by omega) (by omega) hTl.out
      · rw [← hT.out]
        exact (hr0.dropN (by omega)).takeN (by simp; omega)
    have hca : (a : Int) ≤ (a2 : Int) := by omega
    have hcb : (a2 : Int) ≤ (c : Int) := by omega
    have hcn : a ≤ a2 ∧ a2 ≤ c ∧ a2 - a = n := by omega
    go_enter Try.func49, Try.ntmps49
    go_wp2_with (refine wpList_store_blk (n := 1) rfl rfl rfl rfl (by kernel_rfl) rfl hB (by simp) rfl ?_)
    intro w1 hB1 hg1
    have hB1 : Blk w1 g 85 #[.slice A b.length c, .int .i64 a2] := hB1
    have hrT1 := hrT.mono (vle_but (grownBy_trans hgr hg1))
    clear g0 g1
    go_wp2_with fail
    refine wp_region_pl (fun w' => Below w1.heap.size w1 w') [] (.q 0 (.q 1 (.q 2 (.q 3 (.q 4 (.q 5 (.q 6 (.q 7 (.q 8 (.q 9 .nil)))))))))) (by kernel_rfl) (by kernel_rfl) (fun _ _ d _ _ h => by cases d <;> exact h) rfl (by kernel_rfl) ?_ ?_
    · exact below_drew _
    intro W hS
    repeat (first
      | (refine pl_q (by assumption) rfl rfl ?_; apply Exists.intro; refine ⟨fun w' hS => ?_, ?_⟩; (· (have hq := hB1.kept hS; have h0 := hq.cell 0; have h1 := hq.cell 1; simp at h0 h1; go_simp; exact rfl)); simp only [List.getElem_toArray, List.getElem_cons_zero, List.getElem_cons_succ, Act.put, List.setIfInBounds_toArray, List.set_cons_zero, List.set_cons_succ])
      | (refine pl_qc rfl rfl ?_; apply Exists.intro; refine ⟨fun w' _ => ?_, ?_⟩; (· (go_simp; exact rfl)); simp only [List.getElem_toArray, List.getElem_cons_zero, List.getElem_cons_succ, Act.put, List.setIfInBounds_toArray, List.set_cons_zero, List.set_cons_succ])
      | (refine pl_skip (by assumption) rfl rfl ?_; simp only [List.getElem_toArray, List.getElem_cons_zero, List.getElem_cons_succ, Act.put, List.setIfInBounds_toArray, List.set_cons_zero, List.set_cons_succ])
      | (refine pl_skipl (by assumption) rfl rfl ?_; simp only [List.getElem_toArray, List.getElem_cons_zero, List.getElem_cons_succ, Act.put, List.setIfInBounds_toArray, List.set_cons_zero, List.set_cons_succ]))
    refine pl_nil ?_
    go_wp2_with fail
    have hb1 := hS
    clear hS
    refine wp_region_pl (fun w' => Below W.heap.size W w') [11] (.q 0 (.q 1 (.q 2 (.q 3 (.q 4 (.q 5 (.q 6 (.q 7 (.q 8 (.q 9 (.l 10 (.qc 11 .nil)))))))))))) (by kernel_rfl) (by kernel_rfl) (fun _ _ d _ _ h => by cases d <;> exact h) rfl (by kernel_rfl) ?_ ?_
    · exact below_drew _
    intro W2 hS2
    repeat (first
      | (refine pl_q (by assumption) rfl rfl ?_; apply Exists.intro; refine ⟨fun w' hS => ?_, ?_⟩; (· (have hq := (hB1.kept hb1).kept hS; have h0 := hq.cell 0; have h1 := hq.cell 1; simp at h0 h1; go_simp; exact rfl)); simp only [List.getElem_toArray, List.getElem_cons_zero, List.getElem_cons_succ, Act.put, List.setIfInBounds_toArray, List.set_cons_zero, List.set_cons_succ])
      | (refine pl_qc rfl rfl ?_; apply Exists.intro; refine ⟨fun w' _ => ?_, ?_⟩; (· (go_simp; exact rfl)); simp only [List.getElem_toArray, List.getElem_cons_zero, List.getElem_cons_succ, Act.put, List.setIfInBounds_toArray, List.set_cons_zero, List.set_cons_succ])
      | (refine pl_skip (by assumption) rfl rfl ?_; simp only [List.getElem_toArray, List.getElem_cons_zero, List.getElem_cons_succ, Act.put, List.setIfInBounds_toArray, List.set_cons_zero, List.set_cons_succ])
      | (refine pl_skipl (by assumption) rfl rfl ?_; simp only [List.getElem_toArray, List.getElem_cons_zero, List.getElem_cons_succ, Act.put, List.setIfInBounds_toArray, List.set_cons_zero, List.set_cons_succ]))
    first
      | refine pl_do rfl rfl (fun K hK => ?_)
      | refine op_do rfl rfl (fun K hK => ?_)
    try simp only [List.getElem_toArray, List.getElem_cons_zero, List.getElem_cons_succ]
    go_simp
    have hbW := hb1.trans (hS2.mono hb1.size)
    refine (joined_any _ _ T [] _ ((hrT1.mono (View.but_le _ _)).mono (vle_below hbW)) (RVec.nil _ _ _) 140737488355328 (Nat.le_refl _) (by rw [hTl.out]; simp; omega)).mono ?_
    rintro e w3 ⟨d, rfl, hb3, o3⟩
    rw [List.append_nil] at o3
    have hb13 := hbW.trans (hb3.mono hbW.size)
    have hzW := hbW.size
    have hzg := hg1.size
    clear hrT hrT1
    have hrd := o3.from_ (bs := 1) (b0 := w.heap.size) (by rw [hTl.out]; omega) (by omega)
    obtain ⟨A3, c3, rfl⟩ := o3.form
    refine hK.out _ _ (hS2.trans (hb3.mono hS2.size)) (fun hS => ?_)
    clear hK K
    try simp only [List.getElem_toArray, List.getElem_cons_zero, List.getElem_cons_succ, Act.put, List.setIfInBounds_toArray, List.set_cons_zero, List.set_cons_succ]
    repeat (first
      | (refine pl_q (by assumption) rfl rfl ?_; apply Exists.intro; refine ⟨fun w' hS => ?_, ?_⟩; (· (skip; go_simp; exact rfl)); simp only [List.getElem_toArray, List.getElem_cons_zero, List.getElem_cons_succ, Act.put, List.setIfInBounds_toArray, List.set_cons_zero, List.set_cons_succ])
      | (refine pl_qc rfl rfl ?_; apply Exists.intro; refine ⟨fun w' _ => ?_, ?_⟩; (· (go_simp; exact rfl)); simp only [List.getElem_toArray, List.getElem_cons_zero, List.getElem_cons_succ, Act.put, List.setIfInBounds_toArray, List.set_cons_zero, List.set_cons_succ])
      | (refine pl_skip (by assumption) rfl rfl ?_; simp only [List.getElem_toArray, List.getElem_cons_zero, List.getElem_cons_succ, Act.put, List.setIfInBounds_toArray, List.set_cons_zero, List.set_cons_succ])
      | (refine pl_skipl (by assumption) rfl rfl ?_; simp only [List.getElem_toArray, List.getElem_cons_zero, List.getElem_cons_succ, Act.put, List.setIfInBounds_toArray, List.set_cons_zero, List.set_cons_succ]))
    refine pl_nil ?_
    have hg2 := grownBy_trans hg1 (grownBy_below (some g) hb13)
    go_wp2
    all_goals
      go_ret
      exact ⟨_, rfl, hg2, ⟨⟨_, hB1.kept hb13, hr0⟩, hnx, grownBy_trans hgr hg2, hlt0⟩, T, hrd, fun _ => (by rw [← hT.out]; exact hq1.out.symm), (by unfold nmV; rw [hq1.out, hT.out]), by rw [hTl.out]; exact Nat.le_refl _⟩
set_option maxHeartbeats 2000000 in
set_option maxRecDepth 100000 in
theorem num_any (w0 : World) (g a n : Nat) (z : Int) (b : List UInt8) (s : RS) (w : World) (hz : z = n) (hn : n ≤ 3) (ha : a ≤ 1000000) (hs : SkS w0 w g b a s) (hb : b.length ≤ 4000) :
    Calls Try.prog 47 #[.pointer (some ⟨g, 0, none⟩), .int .i64 z] w fun e w' => e = .returned (.int .i64 (nmV n s)) ∧ w.grownBy w' (some g) ∧ SkS w0 w' g b (a + n) (tkS n s) := by
  subst hz
  obtain ⟨V, hV⟩ : ∃ V, Hid (nmV n s = V) := ⟨_, rfl⟩
  rw [hV.out]
  go_enter Try.func47, Try.ntmps47
  go_wp2_with fail
  refine (next_any w0 g a n n b s _ rfl (by omega) ha hs hb).mono ?_
  rintro e w1 ⟨d, rfl, hg1, hs1, P, hr, _, hV2, hPn⟩
  have hV2 : Hid (beN P = V) := by show _ = _; rw [← hV.out]; exact hV2
  have hP3 : P.length ≤ 3 := by omega
  have hr := hr.mono (View.from_le _ _)
  obtain ⟨A, c, rfl, hlc, _, _, _, hel0⟩ := id hr
  have Hel : Hid (∀ k (hk : k < P.length), ∃ b o, A = some ⟨b, o, none⟩ ∧ w1.cell? ⟨b, o + k, none⟩ = some (.int .u8 P[k].toNat)) := fun k hk => by
    obtain ⟨b, o, e, h⟩ := hel0 (by omega)
    exact ⟨b, o, e, h k hk⟩
  clear hel0 hr hs hPn hV
  go_wp2_with fail
  go_loopw [6, 7] (fun v i wr => ∃ k : Nat, k ≤ P.length ∧ i = .int .i64 k ∧ v = .int .i64 (beN (P.take k)) ∧ Below w1.heap.size w1 wr) (fun _ i _ => P.length - (intOf i).toNat)
  case atStart => exact ⟨0, Nat.zero_le _, rfl, rfl, Below.refl _ _⟩
  case round =>
    obtain ⟨k, hk, rfl, rfl, hbl⟩ := hrel
    by_cases hlt : k < P.length
    · obtain ⟨b0, o0, rfl, e0⟩ := Hel.out k hlt
      have c0 := vle_below hbl _ _ e0
      have Hn := Lib.hid (show beN (P.take (k + 1)) = beN (P.take k) * 256 + P[k].toNat by rw [List.take_succ_eq_append_getElem hlt, beN_snoc])
      have hV1 : beN (P.take k) < 65536 := by
        have h1 := beN_lt (P.take k)
        have h2 : 256 ^ (P.take k).length ≤ 256 ^ 2 := Nat.pow_le_pow_right (by decide) (by simp; omega)
        omega
      have hx := P[k].toNat_lt
      generalize beN (P.take k) = v at *
      generalize P[k].toNat = x at *
      clear e0
      go_wp2
      go_roundw
      case rel => exact ⟨k + 1, by omega, by go_num, by rw [Hn.out]; first | rfl | (congr 1; omega), hbl⟩
      case measure => simp [intOf]; omega
    · have hkl : k = P.length := by omega
      rw [hkl, List.take_length, hV2.out]
      clear Hel
      go_wp2
      go_ret
      exact ⟨rfl, grownBy_trans hg1 (grownBy_below _ hbl), hs1.kept hbl⟩
end Go.Proofs.Ytedealljhmokoaa

namespace Go.Proofs.Ytedealljhmokoaa
open Go.ChangeShapes Go.WideShapes Go.ChangeAt Go.RowKit
set_option linter.unusedVariables false
set_option linter.unusedSimpArgs false
theorem OwnSl.past {α : Type} {sz : Nat} {R : View → List Value → α → Prop} (hR : Mono R) {e : TypeId} {w w' : World} {b g : Nat} {v : Value} {xs : List α} (h : OwnSl sz (RFrom b R) e w b v xs) (hg : w.grownBy w' (some g)) (hne : g < b) : OwnSl sz (RFrom b R) e w' b v xs := by
  obtain ⟨css, h1, h2, h3⟩ := h.own
  have hlt := h1.lt
  refine ⟨css, h1.kept hg (.inr (fun e => by have := (hlt g e).1; omega)), h2, fun i hi => ?_⟩
  obtain ⟨cs, q1, q2, q3⟩ := h3 i hi
  refine ⟨cs, q1, q2, hR _ _ _ _ q3 (fun a u hu => ?_)⟩
  unfold View.from at hu ⊢
  split at hu
  · cases hu
  · rename_i hlt'
    rw [if_neg hlt']
    unfold View.but at hu ⊢
    split at hu
    · cases hu
    · rename_i hne'
      rw [if_neg hne']
      exact hg.cell hu (by intro e; injection e; omega)
theorem from_down {h : View} {b b' : Nat} (hb : b' ≤ b) : VLe (View.from h b) (View.from h b') := fun a v e => by
  unfold View.from at e ⊢
  split at e
  · cases e
  · rename_i hne
    rw [if_neg (by omega)]
    exact e
theorem from_past {w w' : World} {b g : Nat} (hg : w.grownBy w' (some g)) (hne : g < b) : VLe (View.from w.cell? b) (View.from w'.cell? b) := from_le_from (Nat.le_refl _) (VLe.refl _) hg hne
theorem from_butP {h : View} {b b' : Nat} {g : Option Nat} (hb : b' ≤ b) (hg : ∀ k, g = some k → k < b) : VLe (View.from h b) (View.from (View.but h g) b') := fun a v e => by
  unfold View.from at e ⊢
  split at e
  · cases e
  · rename_i hne
    rw [if_neg (by omega)]
    unfold View.but
    rw [if_neg (by intro h; have := hg _ h.symm; omega)]
    exact e
set_option maxHeartbeats 2000000 in
set_option maxRecDepth 100000 in
theorem readDigs_any (w0 : World) (g : Nat) (s : RS) (w : World) (hs : RdS w0 w g s) :
    Calls Try.prog 70 #[.pointer (some ⟨g, 0, none⟩)] w fun e w' => ∃ d, e = .returned d ∧ w.grownBy w' (some g) ∧ RdS w0 w' g (digsR s).2 ∧ RDigs (View.from w'.cell? w.heap.size) d (digsR s).1 := by
  have hlt0 := hs.lt
  have hsz := hs.size
  obtain ⟨M, hM⟩ : ∃ M, Hid (nmV 1 s = M) := ⟨_, rfl⟩
  have hM256 : M < 256 := by rw [← hM.out]; exact nmV_lt 1 s
  obtain ⟨R, hR⟩ : ∃ R, Hid (digsR s = R) := ⟨_, rfl⟩
  have HR : Hid (it stepD M ([], tkS 1 s) = R) := by show _ = _; rw [← hR.out, ← hM.out]; rfl
  rw [hR.out]
  clear hR
  go_enter Try.func70, Try.ntmps70
  go_wp2_with fail
  refine (number_any w0 g 1 1 s w rfl (by decide) hs).mono ?_
  rintro e w1 ⟨rfl, hg1, hs1⟩
  rw [hM.out]
  have hz1 := hg1.size
  generalize tkS 1 s = s1 at hs1 HR
  clear hs hM
  go_wp2_with fail
  go_loopw [3, 4] (fun v i wr => ∃ (k : Nat) (z : Int) (p : List (List UInt8) × RS), i = .int .i64 z ∧ Hid (z = (M : Int) - k) ∧ Hid (k ≤ M) ∧ 0 ≤ z ∧ z ≤ 255 ∧ Hid (it stepD k ([], s1) = p) ∧ Hid (p.1.length ≤ k) ∧ OwnSl 1 (RFrom w1.heap.size RDig) 28 wr w1.heap.size v p.1 ∧ RdS w0 wr g p.2 ∧ w1.grownBy wr (some g)) (fun _ i _ => (intOf i).toNat)
  case atStart => exact ⟨0, (M : Int), ([], s1), rfl, by show _ = _; omega, Nat.zero_le _, by omega, by omega, rfl, Nat.zero_le _, OwnSl.nil _ _ _ _ _, hs1, grownBy_below _ (Below.refl _ _)⟩
  case round =>
    obtain ⟨k, z, p, rfl, hz, hkM, hz0, hz255, hp, hpl, hown, hsr, hgr⟩ := hrel
    obtain ⟨acc, l, sh⟩ := p
    obtain ⟨vr, hB, _⟩ := hsr.blk
    have g1c := hB.cell 1
    simp at g1c
    have hzr := hgr.size
    have hgw := grownBy_trans hg1 hgr
    have done : (it stepD M ([], s1) = (acc, (l, sh))) → Hid (R = (acc, (l, sh))) := fun h => by show _ = _; rw [← HR.out, h]
    by_cases hzp : 0 < z
    · cases sh
      · have hn : Hid (it stepD (k + 1) ([], s1) = (acc ++ [tkB 32 (l, false)], tkS 32 (l, false))) := by
          show stepD (it stepD k ([], s1)) = _
          rw [hp.out]
          rfl
        obtain ⟨T, hT⟩ : ∃ T, Hid (tkB 32 (l, false) = T) := ⟨_, rfl⟩
        obtain ⟨S, hS⟩ : ∃ S, Hid (tkS 32 (l, false) = S) := ⟨_, rfl⟩
        rw [hT.out, hS.out] at hn
        clear done hp
        go_wp2_with fail
        refine (take_any w0 g 32 32 (l, false) _ rfl (by decide) hsr).mono ?_
        rintro e w2 ⟨d, rfl, hg2, hs2, hr2⟩
        rw [hS.out] at hs2
        rw [hT.out] at hr2
        have hlto := hown.lt
        have hown2 := hown.past RDig.mono hg2 (by omega)
        have hR2 : RFrom w1.heap.size RDig (View.but w2.cell? u3.ownBlock) [d] T := ⟨d, rfl, hr2.mono (from_butP (by omega) (fun q hq => (hlto q hq).2))⟩
        have hz2 := hg2.size
        obtain ⟨A', c', rfl, hform⟩ := id hr2
        clear hform hr2 hT hS hown g1c hB
        have hacc : acc.length ≤ 255 := by have h1 : acc.length ≤ k := hpl.out; have h2 : k ≤ M := hkM.out; omega
        have Hacc := Lib.hid hacc
        clear hacc
        go_wp2_with (at_builtin; go_loud (refine wpList_append_sl1 (n := 140737488355328) (RFrom.mono RDig.mono) T [.slice A' T.length c'] elemDig _ _ rfl rfl rfl hown2 (W := w2) (Below.refl _ _) (by omega) rfl rfl rfl rfl hR2 (Nat.le_refl _) (by have := Hacc.out; omega) (by have := Hacc.out; omega) ?_))
        intro v' w3 ho hbl3 hg3
        have hs3 := hs2.step hg3 (fun q hq => by have := (hlto q hq).1; omega)
        have hg13 : w1.grownBy w3 (some g) := grown_new (grownBy_trans hgr hg2) hg3 (fun q hq => (hlto q hq).1)
        obtain ⟨z2, hz2'⟩ : ∃ z2, Hid (z - 1 = z2) := ⟨_, rfl⟩
        have hzw : IntKind.i64.wrap (z - 1) = z - 1 := by rw [IntKind.wrap_i64]; omega
        clear hown2 hR2 hs2
        go_wp2
        go_roundw
        case rel => exact ⟨k + 1, z - 1, (acc ++ [T], S), rfl, by show _ = _; have := hz.out; omega, by show _ ≤ _; have := hz.out; omega, by omega, by omega, hn, by show _ ≤ _; have := hpl.out; simp at this ⊢; omega, ho, hs3, hg13⟩
        case measure => simp [intOf]; omega
      · have hR2 := done (by rw [it_stop hkM.out (by rw [hp.out]; rfl), hp.out])
        have hacc : acc.length ≤ 255 := by have h1 : acc.length ≤ k := hpl.out; have h2 : k ≤ M := hkM.out; omega
        have hrd := hown.reads_from (bs := 24) RDig.mono (by show acc.length * 24 ≤ _; omega)
        obtain ⟨oA, oc, rfl⟩ := hown.form
        clear done hp
        go_wp2
        go_ret
        exact ⟨_, rfl, hgw, by rw [hR2.out]; exact hsr, by rw [hR2.out]; exact hrd.mono RDig.mono (from_down hz1)⟩
    · have hR2 := done (by rw [show M = k by have := hz.out; have := hkM.out; omega, hp.out])
      have hacc : acc.length ≤ 255 := by have h1 : acc.length ≤ k := hpl.out; have h2 : k ≤ M := hkM.out; omega
      have hrd := hown.reads_from (bs := 24) RDig.mono (by show acc.length * 24 ≤ _; omega)
      obtain ⟨oA, oc, rfl⟩ := hown.form
      clear done hp
      go_wp2
      go_ret
      exact ⟨_, rfl, hgw, by rw [hR2.out]; exact hsr, by rw [hR2.out]; exact hrd.mono RDig.mono (from_down hz1)⟩
end Go.Proofs.Ytedealljhmokoaa

namespace Go.Proofs.Ytedealljhmokoaa
open Go.ChangeShapes Go.WideShapes Go.ChangeAt Go.RowKit
set_option linter.unusedVariables false
set_option linter.unusedSimpArgs false
set_option maxHeartbeats 2000000 in
set_option maxRecDepth 100000 in
theorem readHdr_any (w0 : World) (g : Nat) (s : RS) (w : World) (hs : RdS w0 w g s) :
    Calls Try.prog 44 #[.pointer (some ⟨g, 0, none⟩)] w fun e w' => ∃ vb vp, e = .returned (.agg #[.int .i64 (hdrR s).1.author, .int .i64 (hdrR s).1.round, vb, vp]) ∧ w.grownBy w' (some g) ∧ RdS w0 w' g (hdrR s).2 ∧
      RDigs (View.from w'.cell? w.heap.size) vb (hdrR s).1.batches ∧ RDigs (View.from w'.cell? w.heap.size) vp (hdrR s).1.parents := by
  have hlt0 := hs.lt
  have hsz := hs.size
  obtain ⟨R, hR⟩ : ∃ R, Hid (hdrR s = R) := ⟨_, rfl⟩
  obtain ⟨V1, hV1⟩ : ∃ V, Hid (nmV 1 s = V) := ⟨_, rfl⟩
  obtain ⟨S1, hS1⟩ : ∃ S, Hid (tkS 1 s = S) := ⟨_, rfl⟩
  obtain ⟨V2, hV2⟩ : ∃ V, Hid (nmV 3 S1 = V) := ⟨_, rfl⟩
  obtain ⟨S2, hS2⟩ : ∃ S, Hid (tkS 3 S1 = S) := ⟨_, rfl⟩
  obtain ⟨⟨D1, S3⟩, hD1⟩ : ∃ p, Hid (digsR S2 = p) := ⟨_, rfl⟩
  obtain ⟨⟨D2, S4⟩, hD2⟩ : ∃ p, Hid (digsR S3 = p) := ⟨_, rfl⟩
  have HR : Hid (R = (⟨V1, V2, D1, D2⟩, S4)) := by
    show _ = _
    rw [← hR.out]
    unfold hdrR
    rw [hS1.out, hS2.out, hD1.out, hD2.out, hV1.out, hV2.out]
  rw [hR.out]
  clear hR
  go_enter Try.func44, Try.ntmps44
  go_upto_region 1 with fail
  refine one_block _ _ _ (fun W => Code.wp _ _ _ _ W) (fun W hk hszW hbW => ?_)
  have hzW : w.heap.size + 1 ≤ W.heap.size := by omega
  clear hszW
  go_wp2_with fail
  refine (number_any w0 g 1 1 s W rfl (by decide) (hs.kept hbW)).mono ?_
  rintro e w1 ⟨rfl, hg1, hs1⟩
  rw [hV1.out]
  rw [hS1.out] at hs1
  have hk1 := hk.grown hg1 (by simp; omega)
  have hz1 := hg1.size
  go_wp2_with fail
  refine (number_any w0 g 3 3 S1 w1 rfl (by decide) hs1).mono ?_
  rintro e w2 ⟨rfl, hg2, hs2⟩
  rw [hV2.out]
  rw [hS2.out] at hs2
  have hk2 := hk1.grown hg2 (by simp; omega)
  have hz2 := hg2.size
  have hgw2 : w.grownBy w2 (some g) := grownBy_trans (grownBy_trans (grownBy_below _ hbW) hg1) hg2
  clear hs hs1 hk hk1
  go_upto_region 2 with fail
  refine one_block _ _ _ (fun W => Code.wp _ _ _ _ W) (fun W3 hX hsX hbX => ?_)
  have hzX : w2.heap.size + 1 ≤ W3.heap.size := by omega
  clear hsX
  have hk3 := hk2.kept hbX
  have hgw3 : w.grownBy W3 (some g) := grownBy_trans hgw2 (grownBy_below _ hbX)
  go_wp2_with fail
  refine (readDigs_any w0 g S2 W3 (hs2.kept hbX)).mono ?_
  rintro e w4 ⟨d1, rfl, hg4, hs4, hr4⟩
  rw [hD1.out] at hs4 hr4
  have hX4 := hX.grown hg4 (by simp; omega)
  have hk4 := hk3.grown hg4 (by simp; omega)
  have hz4 := hg4.size
  have hgw4 := grownBy_trans hgw3 hg4
  obtain ⟨A1, c1, rfl, hf⟩ := id hr4
  clear hf hs2 hX hk3 hk2
  go_wp2_with (refine wpList_store_blk (n := 1) rfl rfl rfl rfl (by kernel_rfl) rfl hX4 (by simp) rfl ?_)
  intro w5 hX5 hg5
  have hX5 : Blk w5 w2.heap.size 27 #[.int .i64 V1, .int .i64 V2, .slice A1 D1.length c1, .slice none 0 0] := hX5
  have hs5 := hs4.step hg5 (fun q hq => by injection hq with hq; omega)
  have hk5 := hk4.grown hg5 (by simp; omega)
  have hr5 := hr4.mono RDig.mono (from_past hg5 (by omega))
  have hz5 := hg5.size
  have hgw5 : w.grownBy w5 (some g) := grown_new hgw4 hg5 (fun q hq => by injection hq with hq; omega)
  clear hs4 hr4 hX4 hk4
  go_wp2_with fail
  refine (readDigs_any w0 g S3 w5 hs5).mono ?_
  rintro e w6 ⟨d2, rfl, hg6, hs6, hr6⟩
  rw [hD2.out] at hs6 hr6
  have hX6 := hX5.grown hg6 (by simp; omega)
  have hk6 := hk5.grown hg6 (by simp; omega)
  have hz6 := hg6.size
  have hr56 := hr5.mono RDig.mono (from_past hg6 (by omega))
  have hgw6 := grownBy_trans hgw5 hg6
  obtain ⟨A2, c2, rfl, hf⟩ := id hr6
  clear hf hs5 hX5 hk5 hr5
  go_wp2_with (refine wpList_store_blk (n := 1) rfl rfl rfl rfl (by kernel_rfl) rfl hX6 (by simp) rfl ?_)
  intro w7 hX7 hg7
  have hX7 : Blk w7 w2.heap.size 27 #[.int .i64 V1, .int .i64 V2, .slice A1 D1.length c1, .slice A2 D2.length c2] := hX7
  have hs7 := hs6.step hg7 (fun q hq => by injection hq with hq; omega)
  have hk7 := hk6.grown hg7 (by simp; omega)
  have hz7 := hg7.size
  have hr57 := hr56.mono RDig.mono (from_past hg7 (by omega))
  have hr67 := hr6.mono RDig.mono (from_past hg7 (by omega))
  have hgw7 : w.grownBy w7 (some g) := grown_new hgw6 hg7 (fun q hq => by injection hq with hq; omega)
  have x0 := hX7.cell 0; have x1 := hX7.cell 1; have x2 := hX7.cell 2; have x3 := hX7.cell 3
  simp at x0 x1 x2 x3
  clear hs6 hX6 hk6 hr56 hr6
  go_wp2_with (refine wpList_store_whole (n := 4) rfl rfl rfl rfl (by kernel_rfl) rfl hk7 rfl rfl ?_)
  intro w8 hB8 hg8
  have hs8 := hs7.step hg8 (fun q hq => by injection hq with hq; omega)
  have hgw8 : w.grownBy w8 (some g) := grown_new hgw7 hg8 (fun q hq => by injection hq with hq; omega)
  go_wp2
  refine bodyPost_ret (results_blk rfl rfl (by kernel_rfl) (by kernel_rfl) hB8 rfl) rfl ?_
  rw [HR.out]
  exact ⟨.slice A1 D1.length c1, .slice A2 D2.length c2, rfl, hgw8, hs8, (hr57.mono RDig.mono (from_past hg8 (by omega))).mono RDig.mono (from_down (by omega)), (hr67.mono RDig.mono (from_past hg8 (by omega))).mono RDig.mono (from_down (by omega))⟩
end Go.Proofs.Ytedealljhmokoaa

namespace Go.Proofs.Ytedealljhmokoaa
open Go.ChangeShapes Go.WideShapes Go.ChangeAt Go.RowKit
set_option linter.unusedVariables false
set_option linter.unusedSimpArgs false
structure DigL (w0 w w' : World) (g a : Nat) (b : List UInt8) (s : RS) (d : Value) : Prop where
  grown : w.grownBy w' (some g)
  st : ∃ a', a' ≤ a + 8161 ∧ SkS w0 w' g b a' (digsR s).2
  row : ∃ D, RDigs (View.from w'.cell? w.heap.size) d D ∧ ((digsR s).2.2 = false → D = (digsR s).1)
set_option maxHeartbeats 2000000 in
set_option maxRecDepth 100000 in
theorem digestList_any (w0 : World) (g a : Nat) (b : List UInt8) (s : RS) (w : World) (ha : a ≤ 100000) (hs : SkS w0 w g b a s) (hb : b.length ≤ 4000) :
    Calls Try.prog 71 #[.pointer (some ⟨g, 0, none⟩)] w fun e w' => ∃ d, e = .returned d ∧ DigL w0 w w' g a b s d := by
  have hlt0 := hs.lt
  have hsz := hs.size
  obtain ⟨M, hM⟩ : ∃ M, Hid (nmV 1 s = M) := ⟨_, rfl⟩
  have hM256 : M < 256 := by rw [← hM.out]; exact nmV_lt 1 s
  obtain ⟨R, hR⟩ : ∃ R, Hid (digsR s = R) := ⟨_, rfl⟩
  have HR : Hid (it stepD M ([], tkS 1 s) = R) := by show _ = _; rw [← hR.out, ← hM.out]; rfl
  go_enter Try.func71, Try.ntmps71
  go_wp2_with fail
  refine (num_any w0 g a 1 1 b s w rfl (by decide) (by omega) hs hb).mono ?_
  rintro e w1 ⟨rfl, hg1, hs1⟩
  rw [hM.out]
  have hz1 := hg1.size
  generalize tkS 1 s = s1 at hs1 HR
  clear hs hM
  go_wp2_with fail
  go_loopw [4, 5, 6] (fun v i _ wr => ∃ (k a' : Nat) (p : List (List UInt8) × RS) (D : List (List UInt8)), i = .int .i64 k ∧ k ≤ M ∧ Hid (it stepD k ([], s1) = p) ∧ a' ≤ a + 1 + 32 * k ∧ D.length ≤ k ∧ Hid (p.2.2 = false → D = p.1) ∧ OwnSl 1 (RFrom w1.heap.size RDig) 28 wr w1.heap.size v D ∧ SkS w0 wr g b a' p.2 ∧ w1.grownBy wr (some g)) (fun _ i _ _ => M - (intOf i).toNat)
  case atStart => exact ⟨0, a + 1, ([], s1), [], rfl, Nat.zero_le _, rfl, by omega, Nat.zero_le _, fun _ => rfl, OwnSl.nil _ _ _ _ _, hs1, grownBy_below _ (Below.refl _ _)⟩
  case round =>
    obtain ⟨k, a', p, D, rfl, hkM, hp, ha', hDl, hpl, hown, hsr, hgr⟩ := hrel
    obtain ⟨acc, l, sh⟩ := p
    have hzr := hgr.size
    have hgw := grownBy_trans hg1 hgr
    have hlto := hown.lt
    have done : (it stepD M ([], s1) = (acc, (l, sh))) → Hid (digsR s = (acc, (l, sh))) := fun h => by show _ = _; rw [hR.out, ← HR.out, h]
    by_cases hzp : k < M
    · have hzp' : (k : Int) < (M : Int) := by omega
      go_wp2_with fail
      refine (over_any w0 g a' b (l, sh) wr hsr hb).mono ?_
      rintro e w2 ⟨rfl, hb2⟩
      have hsr2 := hsr.kept hb2
      have hown2 := hown.kept (RFrom.mono RDig.mono) hb2
      have hgr2 := grownBy_trans hgr (grownBy_below (some g) hb2)
      have hz2 := hb2.size
      clear hsr hown hgr
      cases sh
      · have hDa : Hid (D = acc) := hpl.out rfl
        have hn : Hid (it stepD (k + 1) ([], s1) = (acc ++ [tkB 32 (l, false)], tkS 32 (l, false))) := by
          show stepD (it stepD k ([], s1)) = _
          rw [hp.out]
          rfl
        clear done hp hpl
        go_wp2_with fail
        refine (next_any w0 g a' 32 32 b (l, false) w2 rfl (by decide) (by omega) hsr2 hb).mono ?_
        rintro e w3 ⟨d, rfl, hg3, hs3, T, hr3, hT, _, hTl⟩
        have hpl2 : Hid ((tkS 32 (l, false)).2 = false → D ++ [T] = acc ++ [tkB 32 (l, false)]) := fun h => by rw [hDa.out, hT h]
        have hown3 := hown2.past RDig.mono hg3 (by omega)
        have hR2 : RFrom w1.heap.size RDig (View.but w3.cell? u4.ownBlock) [d] T := ⟨d, rfl, hr3.mono (from_butP (by omega) (fun q hq => by have := (hlto q hq).2; omega))⟩
        have hz3 := hg3.size
        obtain ⟨A', c', rfl, hform⟩ := id hr3
        clear hform hr3 hT hDa hown2 hsr2
        have hDb : Hid (D.length ≤ 255) := by show _ ≤ _; omega
        go_wp2_with (at_builtin; go_loud (refine wpList_append_sl1 (n := 140737488355328) (RFrom.mono RDig.mono) T [.slice A' T.length c'] elemDig _ _ rfl rfl rfl hown3 (W := w3) (Below.refl _ _) (by omega) rfl rfl rfl rfl hR2 (Nat.le_refl _) (by have := hDb.out; omega) (by have := hDb.out; omega) ?_))
        intro v' w4 ho hbl4 hg4
        have hs4 := hs3.step hg4 (fun q hq => by have := (hlto q hq).1; omega)
        have hg14 : w1.grownBy w4 (some g) := grown_new (grownBy_trans hgr2 hg3) hg4 (fun q hq => (hlto q hq).1)
        clear hown3 hR2 hs3
        go_wp2
        go_roundw
        case rel => exact ⟨k + 1, a' + 32, (_, _), D ++ [T], by go_num, by omega, hn, by omega, by simp; omega, hpl2, ho, hs4, hg14⟩
        case measure => simp [intOf]; omega
      · have hR2 := done (by rw [it_stop hkM (by rw [hp.out]; rfl), hp.out])
        have hrd := hown2.reads_from (bs := 24) RDig.mono (by show D.length * 24 ≤ _; omega)
        obtain ⟨oA, oc, rfl⟩ := hown2.form
        clear done hp
        go_wp2
        go_ret
        exact ⟨_, rfl, grownBy_trans hgw (grownBy_below _ hb2), ⟨a', by omega, by rw [hR2.out]; exact hsr2⟩, D, hrd.mono RDig.mono (from_lower hz1), fun h => by rw [hR2.out] at h; cases h⟩
    · have hzp' : ¬ (k : Int) < (M : Int) := by omega
      have hR2 := done (by rw [show M = k by omega, hp.out])
      have hrd := hown.reads_from (bs := 24) RDig.mono (by show D.length * 24 ≤ _; omega)
      obtain ⟨oA, oc, rfl⟩ := hown.form
      clear done hp
      go_wp2
      go_ret
      exact ⟨_, rfl, hgw, ⟨a', by omega, by rw [hR2.out]; exact hsr⟩, D, hrd.mono RDig.mono (from_lower hz1), fun h => by rw [hR2.out] at h ⊢; exact hpl.out h⟩
end Go.Proofs.Ytedealljhmokoaa

namespace Go.Proofs.Ytedealljhmokoaa
open Go.ChangeShapes Go.WideShapes Go.ChangeAt Go.RowKit
set_option linter.unusedVariables false
set_option linter.unusedSimpArgs false
structure HdrL (w0 w w' : World) (g a : Nat) (b : List UInt8) (s : RS) (vb vp : Value) : Prop where
  grown : w.grownBy w' (some g)
  st : ∃ a', a' ≤ a + 17000 ∧ SkS w0 w' g b a' (hdrR s).2
  row : ∃ B P, RDigs (View.from w'.cell? w.heap.size) vb B ∧ RDigs (View.from w'.cell? w.heap.size) vp P ∧ ((hdrR s).2.2 = false → B = (hdrR s).1.batches ∧ P = (hdrR s).1.parents)
set_option maxHeartbeats 2000000 in
set_option maxRecDepth 100000 in
theorem scanHdr_any (w0 : World) (g a : Nat) (b : List UInt8) (s : RS) (w : World) (ha : a ≤ 50000) (hs : SkS w0 w g b a s) (hb : b.length ≤ 4000) :
    Calls Try.prog 50 #[.pointer (some ⟨g, 0, none⟩)] w fun e w' => ∃ vb vp, e = .returned (.agg #[.int .i64 (hdrR s).1.author, .int .i64 (hdrR s).1.round, vb, vp]) ∧ HdrL w0 w w' g a b s vb vp := by
  have hlt0 := hs.lt
  have hsz := hs.size
  obtain ⟨R, hR⟩ : ∃ R, Hid (hdrR s = R) := ⟨_, rfl⟩
  obtain ⟨V1, hV1⟩ : ∃ V, Hid (nmV 1 s = V) := ⟨_, rfl⟩
  obtain ⟨S1, hS1⟩ : ∃ S, Hid (tkS 1 s = S) := ⟨_, rfl⟩
  obtain ⟨V2, hV2⟩ : ∃ V, Hid (nmV 3 S1 = V) := ⟨_, rfl⟩
  obtain ⟨S2, hS2⟩ : ∃ S, Hid (tkS 3 S1 = S) := ⟨_, rfl⟩
  obtain ⟨⟨D1, S3⟩, hD1⟩ : ∃ p, Hid (digsR S2 = p) := ⟨_, rfl⟩
  obtain ⟨⟨D2, S4⟩, hD2⟩ : ∃ p, Hid (digsR S3 = p) := ⟨_, rfl⟩
  have HR : Hid (R = (⟨V1, V2, D1, D2⟩, S4)) := by
    show _ = _
    rw [← hR.out]
    unfold hdrR
    rw [hS1.out, hS2.out, hD1.out, hD2.out, hV1.out, hV2.out]
  have hmono : Hid (S4.2 = false → S3.2 = false) := fun h => digsR_mono (s := S3) (by rw [hD2.out]; exact h)
  have HA : (hdrR s).1.author = V1 ∧ (hdrR s).1.round = V2 := by rw [hR.out, HR.out]; exact ⟨rfl, rfl⟩
  have HZ : Hid (hdrR s = (⟨V1, V2, D1, D2⟩, S4)) := by show _ = _; rw [hR.out, HR.out]
  rw [HA.1, HA.2]
  clear HA hR HR
  go_enter Try.func50, Try.ntmps50
  go_upto_region 2 with fail
  refine two_blocks _ _ _ _ _ (fun W => Code.wp _ _ _ _ W) (fun W hk hX hszW hbW => ?_)
  have hzW : w.heap.size + 2 ≤ W.heap.size := by omega
  clear hszW
  go_wp2_with fail
  refine (num_any w0 g a 1 1 b s W rfl (by decide) (by omega) (hs.kept hbW) hb).mono ?_
  rintro e w1 ⟨rfl, hg1, hs1⟩
  rw [hV1.out]
  rw [hS1.out] at hs1
  have hk1 := hk.grown hg1 (by simp; omega)
  have hX1 := hX.grown hg1 (by simp; omega)
  clear hs hk hX
  go_wp2_with (refine wpList_store_blk (n := 1) rfl rfl rfl rfl (by kernel_rfl) rfl hX1 (by simp) rfl ?_)
  intro w2 hX2 hg2
  have hs2 := hs1.step hg2 (fun q hq => by injection hq with hq; omega)
  have hk2 := hk1.grown hg2 (by simp)
  clear hs1 hk1 hX1
  go_wp2_with fail
  refine (num_any w0 g (a + 1) 3 3 b S1 w2 rfl (by decide) (by omega) hs2 hb).mono ?_
  rintro e w3 ⟨rfl, hg3, hs3⟩
  rw [hV2.out]
  rw [hS2.out] at hs3
  have hk3 := hk2.grown hg3 (by simp; omega)
  have hX3 := hX2.grown hg3 (by simp; omega)
  clear hs2 hk2 hX2
  go_wp2_with (refine wpList_store_blk (n := 1) rfl rfl rfl rfl (by kernel_rfl) rfl hX3 (by simp) rfl ?_)
  intro w4 hX4 hg4
  have hX4 : Blk w4 (w.heap.size + 1) 27 #[.int .i64 V1, .int .i64 V2, .slice none 0 0, .slice none 0 0] := hX4
  have hs4 := hs3.step hg4 (fun q hq => by injection hq with hq; omega)
  have hk4 := hk3.grown hg4 (by simp)
  have hgw1 : w.grownBy w1 (some g) := grownBy_trans (grownBy_below _ hbW) hg1
  have hgw2 : w.grownBy w2 (some g) := grown_new hgw1 hg2 (fun q hq => by injection hq with hq; omega)
  have hgw4 : w.grownBy w4 (some g) := grown_new (grownBy_trans hgw2 hg3) hg4 (fun q hq => by injection hq with hq; omega)
  have hz4 := hg4.size
  have hz3 := hg3.size
  have hz2 := hg2.size
  have hz1 := hg1.size
  clear hs3 hk3 hX3
  go_wp2_with fail
  refine (digestList_any w0 g (a + 1 + 3) b S2 w4 (by omega) hs4 hb).mono ?_
  rintro e w5 ⟨d1, rfl, hg5, ⟨a5, ha5, hs5⟩, B, hB, hBe⟩
  rw [hD1.out] at hs5 hBe
  have hk5 := hk4.grown hg5 (by simp; omega)
  have hX5 := hX4.grown hg5 (by simp; omega)
  have hBe := Lib.hid hBe
  obtain ⟨A1, c1, rfl, hf⟩ := id hB
  clear hf hs4 hk4 hX4
  go_wp2_with (refine wpList_store_blk (n := 1) rfl rfl rfl rfl (by kernel_rfl) rfl hX5 (by simp) rfl ?_)
  intro w6 hX6 hg6
  have hs6 := hs5.step hg6 (fun q hq => by injection hq with hq; omega)
  have hk6 := hk5.grown hg6 (by simp)
  have hB6 := hB.mono RDig.mono (from_past hg6 (by omega))
  have hgw6 : w.grownBy w6 (some g) := grown_new (grownBy_trans hgw4 hg5) hg6 (fun q hq => by injection hq with hq; omega)
  have hz6 := hgw6.size
  have hz5 := hg5.size
  have hz56 := hg6.size
  clear hs5 hk5 hX5 hB
  go_wp2_with fail
  refine (digestList_any w0 g a5 b S3 w6 (by omega) hs6 hb).mono ?_
  rintro e w7 ⟨d2, rfl, hg7, ⟨a7, ha7, hs7⟩, C, hC, hCe⟩
  rw [hD2.out] at hs7 hCe
  have hk7 := hk6.grown hg7 (by simp; omega)
  have hX7 := hX6.grown hg7 (by simp; omega)
  have hB7 := hB6.mono RDig.mono (from_past hg7 (by omega))
  have hCe := Lib.hid hCe
  obtain ⟨A2, c2, rfl, hf⟩ := id hC
  clear hf hs6 hk6 hX6 hB6
  go_wp2_with (refine wpList_store_blk (n := 1) rfl rfl rfl rfl (by kernel_rfl) rfl hX7 (by simp) rfl ?_)
  intro w8 hX8 hg8
  have hX8 : Blk w8 (w.heap.size + 1) 27 #[.int .i64 V1, .int .i64 V2, .slice A1 B.length c1, .slice A2 C.length c2] := hX8
  have hs8 := hs7.step hg8 (fun q hq => by injection hq with hq; omega)
  have hk8 := hk7.grown hg8 (by simp)
  have hB8 := hB7.mono RDig.mono (from_past hg8 (by omega))
  have hC8 := hC.mono RDig.mono (from_past hg8 (by omega))
  have hgw8 : w.grownBy w8 (some g) := grown_new (grownBy_trans hgw6 hg7) hg8 (fun q hq => by injection hq with hq; omega)
  have x0 := hX8.cell 0; have x1 := hX8.cell 1; have x2 := hX8.cell 2; have x3 := hX8.cell 3
  simp at x0 x1 x2 x3
  clear hs7 hk7 hX7 hB7 hC
  go_wp2_with (refine wpList_store_whole (n := 4) rfl rfl rfl rfl (by kernel_rfl) rfl hk8 rfl rfl ?_)
  intro w9 hB9 hg9
  have hs9 := hs8.step hg9 (fun q hq => by injection hq with hq; omega)
  have hgw9 : w.grownBy w9 (some g) := grown_new hgw8 hg9 (fun q hq => by injection hq with hq; omega)
  go_wp2
  refine bodyPost_ret (results_blk rfl rfl (by kernel_rfl) (by kernel_rfl) hB9 rfl) rfl ?_
  refine ⟨.slice A1 B.length c1, .slice A2 C.length c2, rfl, hgw9, ⟨a7, by omega, by rw [HZ.out]; exact hs9⟩, B, C, (hB8.mono RDig.mono (from_past hg9 (by omega))).mono RDig.mono (from_lower (by omega)), (hC8.mono RDig.mono (from_past hg9 (by omega))).mono RDig.mono (from_lower (by omega)), fun h => ?_⟩
  rw [HZ.out] at h ⊢
  exact ⟨hBe.out (hmono.out h), hCe.out h⟩
end Go.Proofs.Ytedealljhmokoaa

namespace Go.Proofs.Ytedealljhmokoaa
open Go.ChangeShapes Go.WideShapes Go.ChangeAt Go.RowKit
set_option linter.unusedVariables false
section
variable {P : Program} {ops : Array Oper} {Q : Exit → Act → World → Prop} {S : World → Prop} {C : List Nat}
/-- does j wait for i, through n others at most? -/
def reachB (ops : Array Oper) : Nat → Nat → Nat → Bool
  | 0, _, _ => false
  | n + 1, j, i => match ops[j]? with
    | some o => o.after.any fun e => Region.binds .any e && (e.on == i || reachB ops n e.on i)
    | none => false
/-- what is listed has all listed that it waits for -/
def Cl (ops : Array Oper) (x : Array Bool) : Prop := ∀ j oj, ops[j]? = some oj → x.getD j false = true → ∀ e ∈ oj.after, Region.binds .any e = true → x.getD e.on false = true
theorem reach_listed {x : Array Bool} (hcl : Cl ops x) : ∀ (n j i : Nat), reachB ops n j i = true → (∀ o, ops[j]? = some o → ∀ e ∈ o.after, Region.binds .any e = true → x.getD e.on false = true) → x.getD i false = true
  | 0, _, _, h, _ => by simp [reachB] at h
  | n + 1, j, i, h, hd => by
    unfold reachB at h
    split at h
    · rename_i o ho
      obtain ⟨k, hk, h1⟩ := Array.any_eq_true.1 h
      simp only [Bool.and_eq_true, Bool.or_eq_true, beq_iff_eq] at h1
      have hl := hd o ho _ (Array.getElem_mem hk) h1.1
      rcases h1.2 with h2 | h2
      · rw [← h2]; exact hl
      · exact reach_listed hcl n _ i h2 (fun o' ho' e he hb => hcl _ o' ho' hl e he hb)
    · cases h
theorem cl_set {x : Array Bool} (hcl : Cl ops x) {j : Nat} (hj : j ∈ Region.ready .any ops x) : Cl ops (x.setIfInBounds j true) := fun k ok hk hl e he hb => by
  obtain ⟨_, oj, hoj, hall⟩ := mem_ready.1 hj
  by_cases hkj : k = j
  · subst hkj
    obtain rfl := Option.some.inj (hk.symm.trans hoj)
    exact getD_set_true (hall e he hb)
  · rw [getD_set_ne false (Ne.symm hkj)] at hl
    exact getD_set_true (hcl k ok hk hl e he hb)
theorem cl_start (n : Nat) : Cl ops (Array.replicate n false) := fun j oj hj hl => by
  simp [Array.getElem?_replicate] at hl
  split at hl <;> simp_all
theorem wpC_first2 {T : World → Prop} {i : Nat} {oi : Oper} {v : Value} (m : Nat) (hi : ops[i]? = some oi) (hsel : ∀ (j : Nat) (o : Oper) cs b, ops[j]? = some o → o.op ≠ .select cs b)
    (hQ : ∀ c a w, Q (.panic c) (a.put oi.dst v) w → Q (.panic c) a w)
    (hT : ∀ j oj w, ops[j]? = some oj → reachB ops m j i = false → (j ∉ C → S w) → T w) (hiC : i ∉ C → ∀ w, T w → S w) :
    ∀ (fuel : Nat) (listed : Array Bool) (a : Act) (w : World), Cl ops listed →
      (∀ j oj, ops[j]? = some oj → j ≠ i → listed.getD j true = false → (∀ e ∈ oj.after, Region.binds .any e = true → e.on ≠ i) → oi.apart ops oj = true) →
      i ∈ Region.ready .any ops listed → YieldsIf P ops T oi v a → T w →
      wpC P ops Q S C fuel (listed.setIfInBounds i true) (a.put oi.dst v) w → wpC P ops Q S C (fuel + 1) listed a w := by
  intro fuel
  induction fuel with
  | zero =>
    intro listed a w _ _ hr hy hTw H
    refine ⟨fun h => (by rw [h] at hr; cases hr), fun j hj => ?_⟩
    by_cases hji : j = i
    · subst hji; exact hy.wpOp hi hTw ⟨fun hn => hiC hn w hTw, H⟩
    · have := ready_mono hj hji
      rw [H.1] at this
      cases this
  | succ fuel ih =>
    intro listed a w hcl hfree hr hy hTw H
    refine ⟨fun h => (by rw [h] at hr; cases hr), fun j hj => ?_⟩
    by_cases hji : j = i
    · subst hji; exact hy.wpOp hi hTw ⟨fun hn => hiC hn w hTw, H⟩
    · have h1 := H.2 j (ready_mono hj hji)
      obtain ⟨hjun, oj, hoj, hall⟩ := mem_ready.1 hj
      have hiun : listed.getD i false = true → False := fun h1 => by
        have h0 := (mem_ready.1 hr).1
        rcases Nat.lt_or_ge i listed.size with h' | h'
        · simp [h'] at h0 h1; rw [h0] at h1; cases h1
        · simp [Array.getElem?_eq_none h'] at h1
      have hnot : ∀ e ∈ oj.after, Region.binds .any e = true → e.on ≠ i := fun e he hb heq => hiun (by rw [← heq]; exact hall e he hb)
      have hreach : reachB ops m j i = false := by
        cases hr' : reachB ops m j i
        · rfl
        · exact (hiun (reach_listed hcl m j i hr' (fun o ho e he hb => by obtain rfl := Option.some.inj (ho.symm.trans hoj); exact hall e he hb))).elim
      have h2 := wpOp_putIf hoj (hfree j oj hoj hji hjun hnot) (fun cs b => hsel i oi cs b hi) (fun cs b => hsel j oj cs b hoj) hQ hy h1
      have hfree' : ∀ k ok, ops[k]? = some ok → k ≠ i → (listed.setIfInBounds j true).getD k true = false →
          (∀ e ∈ ok.after, Region.binds .any e = true → e.on ≠ i) → oi.apart ops ok = true := fun k ok hk hki hun hno => by
        refine hfree k ok hk hki ?_ hno
        by_cases hjk : j = k
        · subst hjk; exact hjun
        · rw [getD_set_ne true hjk] at hun; exact hun
      refine wpOp_mono (fun a' w' h3 => ⟨h3.2.1, ih (listed.setIfInBounds j true) a' w' (cl_set hcl hj) hfree' (ready_mono hr (Ne.symm hji)) h3.1 (hT j oj w' hoj hreach h3.2.1) ?_⟩) h2
      rw [Array.setIfInBounds_comm _ _ hji]
      exact h3.2.2
def closeOk2 (ops : Array Oper) (C : List Nat) (i : Nat) : Bool := C.all fun j => reachB ops 3 j i
def Pl.ok2 (ops : Array Oper) (C : List Nat) : Pl → Array Bool → Bool
  | .nil, x => (Region.ready .any ops x).isEmpty
  | .q i p, x => Region.free .any ops x i && (Region.ready .any ops x).contains i && closeOk2 ops C i && !C.contains i && p.ok2 ops C (x.setIfInBounds i true)
  | .qc i p, x => Region.free .any ops x i && (Region.ready .any ops x).contains i && C.contains i && p.ok2 ops C (x.setIfInBounds i true)
  | .l i p, x => Region.ready .any ops x == [i] && p.ok2 ops C (x.setIfInBounds i true)
  | .alt i p j r, x => Region.ready .any ops x == [i, j] && p.ok2 ops C (x.setIfInBounds i true) && r.ok2 ops C (x.setIfInBounds j true) && p.fuel == r.fuel
theorem Pl.sound2 (hs : Region.noSelect ops = true) (hQ : ∀ c a d v w, Q (.panic c) (Act.put a d v) w → Q (.panic c) a w) :
    ∀ (t : Pl) (x : Array Bool) (a : Act) (w : World), Cl ops x → t.ok2 ops C x = true → t.wp P ops Q S C a w → wpC P ops Q S C t.fuel x a w
  | .nil, x, a, w, _, hp, h => ⟨by simpa [Pl.ok2] using hp, h⟩
  | .q i p, x, a, w, hcl, hp, h => by
    obtain ⟨o, v, ho, hy, hSw, hr⟩ := h
    simp only [Pl.ok2, Bool.and_eq_true, Bool.not_eq_true'] at hp
    obtain ⟨⟨⟨⟨h1, h2⟩, h3⟩, h4⟩, h5⟩ := hp
    have hm : i ∈ Region.ready .any ops x := by simpa using h2
    refine wpC_first2 (T := S) 3 ho (Region.noSelect_spec hs) (fun c a w => hQ c a o.dst v w) (fun j oj w' hj hno hS => hS (fun hm => ?_)) (fun _ _ h => h) p.fuel x a w hcl (Region.free_spec ho h1) hm hy hSw (Pl.sound2 hs hQ p _ _ w (cl_set hcl hm) h5 hr)
    have := List.all_eq_true.1 h3 j hm
    rw [hno] at this
    cases this
  | .qc i p, x, a, w, hcl, hp, h => by
    obtain ⟨o, v, ho, hy, hr⟩ := h
    simp only [Pl.ok2, Bool.and_eq_true] at hp
    obtain ⟨⟨⟨h1, h2⟩, h3⟩, h5⟩ := hp
    have hm : i ∈ Region.ready .any ops x := by simpa using h2
    refine wpC_first2 (T := fun _ => True) 3 ho (Region.noSelect_spec hs) (fun c a w => hQ c a o.dst v w) (fun _ _ _ _ _ _ => trivial) (fun hn _ _ => absurd (by simpa using h3) hn) p.fuel x a w hcl (Region.free_spec ho h1) hm hy trivial (Pl.sound2 hs hQ p _ _ w (cl_set hcl hm) h5 hr)
  | .l i p, x, a, w, hcl, hp, h => by
    simp only [Pl.ok2, Bool.and_eq_true, beq_iff_eq] at hp
    refine ⟨fun h0 => by rw [h0] at hp; exact absurd hp.1 (by simp), fun j hj => ?_⟩
    have hj' := hj
    rw [hp.1] at hj
    rw [List.mem_singleton.1 hj]
    rw [List.mem_singleton.1 hj] at hj'
    exact wpOp_mono (fun a' w' hK => ⟨owed_out hK.1, Pl.sound2 hs hQ p _ a' w' (cl_set hcl hj') hp.2 hK.2⟩) h
  | .alt i p j r, x, a, w, hcl, hp, h => by
    simp only [Pl.ok2, Bool.and_eq_true, beq_iff_eq] at hp
    obtain ⟨⟨⟨h1, h2⟩, h3⟩, h4⟩ := hp
    refine ⟨fun h0 => by rw [h0] at h1; exact absurd h1 (by simp), fun k hk => ?_⟩
    have hk' := hk
    rw [h1] at hk
    simp only [List.mem_cons, List.not_mem_nil, or_false] at hk
    rcases hk with rfl | rfl
    · exact wpOp_mono (fun a' w' hK => ⟨owed_out hK.1, Pl.sound2 hs hQ p _ a' w' (cl_set hcl hk') h2 hK.2⟩) h.1
    · exact wpOp_mono (fun a' w' hK => ⟨owed_out hK.1, by have := Pl.sound2 hs hQ r _ a' w' (cl_set hcl hk') h3 hK.2; rw [← h4] at this; exact this⟩) h.2
theorem wp_region_p2 {id : Nat} {l : List Oper} {a : Act} {w : World} (S0 S : World → Prop) (C : List Nat) (t : Pl) (hm : P.follows .mixedOrders = true) (hs : Region.noSelect l.toArray = true)
    (hQ : ∀ c a d v w, Q (.panic c) (Act.put a d v) w → Q (.panic c) a w) (hlen : t.fuel = l.length) (hπ : t.ok2 l.toArray C (Array.replicate l.length false) = true) (hS : S0 w.drew ∧ S w.drew)
    (h : ∀ W, S0 W → S W → t.wp P l.toArray Q S C a W) : (Code.region id l.toArray true).wp P Q a w := by
  refine wp_region_any hm (wpAny_of_C (S := S) (C := C) _ _ _ _ ?_)
  have := Pl.sound2 (P := P) (S := S) (C := C) hs hQ t (Array.replicate l.length false) a w.drew (cl_start _) hπ (h _ hS.1 hS.2)
  rw [hlen] at this
  simpa using this
end
end Go.Proofs.Ytedealljhmokoaa

namespace Go.Proofs.Ytedealljhmokoaa
open Go.ChangeShapes Go.WideShapes Go.ChangeAt Go.RowKit
set_option linter.unusedVariables false
set_option linter.unusedSimpArgs false
theorem Chg.new {G : List Nat} {a b c : World} {r : Option Nat} (h : Chg G a b) (hg : b.grownBy c r) (hr : ∀ q, r = some q → q ∈ G ∨ a.heap.size ≤ q) : Chg G a c :=
  ⟨hg.os.trans h.os, hg.tape.trans h.tape, hg.output.trans h.output, Nat.le_trans h.size hg.size, fun i hi hn => (hg.block i (Nat.lt_of_lt_of_le hi h.size) (fun e => (hr i e.symm).elim hn (fun h => by omega))).trans (h.block i hi hn)⟩
set_option maxHeartbeats 2000000 in
set_option maxRecDepth 100000 in
theorem readBat_any (w0 : World) (g : Nat) (s : RS) (w : World) (hs : RdS w0 w g s) :
    Calls Try.prog 43 #[.pointer (some ⟨g, 0, none⟩)] w fun e w' => ∃ vt, e = .returned (.agg #[.int .i64 (batR s).1.author, .int .i64 (batR s).1.number, vt]) ∧ w.grownBy w' (some g) ∧ RdS w0 w' g (batR s).2 ∧ RTexts (View.from w'.cell? w.heap.size) vt (batR s).1.txs := by
  have hlt0 := hs.lt
  have hsz := hs.size
  obtain ⟨R, hR⟩ : ∃ R, Hid (batR s = R) := ⟨_, rfl⟩
  obtain ⟨V1, hV1⟩ : ∃ V, Hid (nmV 1 s = V) := ⟨_, rfl⟩
  obtain ⟨S1, hS1⟩ : ∃ S, Hid (tkS 1 s = S) := ⟨_, rfl⟩
  obtain ⟨V2, hV2⟩ : ∃ V, Hid (nmV 3 S1 = V) := ⟨_, rfl⟩
  obtain ⟨S2, hS2⟩ : ∃ S, Hid (tkS 3 S1 = S) := ⟨_, rfl⟩
  obtain ⟨M, hM⟩ : ∃ M, Hid (nmV 1 S2 = M) := ⟨_, rfl⟩
  have hM256 : M < 256 := by rw [← hM.out]; exact nmV_lt 1 S2
  obtain ⟨s1, hs1'⟩ : ∃ S, Hid (tkS 1 S2 = S) := ⟨_, rfl⟩
  obtain ⟨X, hX'⟩ : ∃ X, Hid (it stepT M ([], s1) = X) := ⟨_, rfl⟩
  have HR : Hid (R = (⟨V1, V2, X.1⟩, X.2)) := by
    show _ = _
    rw [← hR.out]
    unfold batR
    rw [hS1.out, hS2.out, hV1.out, hV2.out, show txsR S2 = X by rw [← hX'.out, ← hM.out, ← hs1'.out]; rfl]
  rw [hR.out]
  clear hR
  go_enter Try.func43, Try.ntmps43
  go_upto_region 1 with fail
  refine one_block _ _ _ (fun W => Code.wp _ _ _ _ W) (fun W hk hszW hbW => ?_)
  have hzW : w.heap.size + 1 ≤ W.heap.size := by omega
  clear hszW
  go_wp2_with fail
  refine (number_any w0 g 1 1 s W rfl (by decide) (hs.kept hbW)).mono ?_
  rintro e w1 ⟨rfl, hg1, hs1⟩
  rw [hV1.out]
  rw [hS1.out] at hs1
  have hk1 := hk.grown hg1 (by simp; omega)
  have hz1 := hg1.size
  go_wp2_with fail
  refine (number_any w0 g 3 3 S1 w1 rfl (by decide) hs1).mono ?_
  rintro e w2 ⟨rfl, hg2, hs2⟩
  rw [hV2.out]
  rw [hS2.out] at hs2
  have hk2 := hk1.grown hg2 (by simp; omega)
  have hz2 := hg2.size
  have hgw2 : w.grownBy w2 (some g) := grownBy_trans (grownBy_trans (grownBy_below _ hbW) hg1) hg2
  clear hs hs1 hk hk1 hS1 hV1 hV2 hS2
  go_upto_region 2 with fail
  refine one_block _ _ _ (fun W => Code.wp _ _ _ _ W) (fun W3 hX hsX hbX => ?_)
  have hzX : w2.heap.size + 1 ≤ W3.heap.size := by omega
  clear hsX
  have hk3 := hk2.kept hbX
  have hgw3 : w.grownBy W3 (some g) := grownBy_trans hgw2 (grownBy_below _ hbX)
  go_wp2_with fail
  refine (number_any w0 g 1 1 S2 W3 rfl (by decide) (hs2.kept hbX)).mono ?_
  rintro e w4 ⟨rfl, hg4, hs4⟩
  rw [hM.out]
  rw [hs1'.out] at hs4
  have hX4 := hX.grown hg4 (by simp; omega)
  have hk4 := hk3.grown hg4 (by simp; omega)
  have hz4 := hg4.size
  have hgw4 := grownBy_trans hgw3 hg4
  clear hs2 hX hk3 hk2 hM hs1'
  go_wp2_with fail
  go_loopw [4] (fun i wr => ∃ (k : Nat) (z : Int) (p : List ByteArray × RS) (v : Value), i = .int .i64 z ∧ Hid (z = (M : Int) - k) ∧ Hid (k ≤ M) ∧ 0 ≤ z ∧ z ≤ 255 ∧ Hid (it stepT k ([], s1) = p) ∧ Hid (p.1.length ≤ k) ∧ Blk wr w2.heap.size 24 #[.int .i64 V1, .int .i64 V2, v] ∧ OwnS wr w4.heap.size v p.1 ∧ RdS w0 wr g p.2 ∧ Chg [g, w2.heap.size] w4 wr) (fun i _ => (intOf i).toNat)
  case atStart => exact ⟨0, (M : Int), ([], s1), _, rfl, by show _ = _; omega, Nat.zero_le _, by omega, by omega, rfl, Nat.zero_le _, hX4, OwnVec.nil _ _ _ _, hs4, .of_below (Below.refl _ _) (Nat.le_refl _)⟩
  case round =>
    obtain ⟨k, z, p, v, rfl, hz, hkM, hz0, hz255, hp, hpl, hBx, hown, hsr, hch⟩ := hrel
    obtain ⟨acc, l, sh⟩ := p
    replace hown : OwnS wr w4.heap.size v acc := hown
    have done : (it stepT M ([], s1) = (acc, (l, sh))) → Hid (X = (acc, (l, sh))) := fun h => by show _ = _; rw [← hX'.out, h]
    have hcs := hch
    obtain ⟨vr, hB, hrr⟩ := hsr.blk
    clear hrr
    have g1c := hB.cell 1
    simp at g1c
    have hzr := hch.size
    have hne : w2.heap.size ≠ g := by omega
    have hgB : Hid (g < w4.heap.size) := by show _ < _; omega
    by_cases hzp : 0 < z
    · cases sh
      · have hn : Hid (it stepT (k + 1) ([], s1) = (acc ++ [bstr (tkB (nmV 1 (l, false)) (tkS 1 (l, false)))], tkS (nmV 1 (l, false)) (tkS 1 (l, false)))) := by
          show stepT (it stepT k ([], s1)) = _
          rw [hp.out]
          rfl
        obtain ⟨N, hN⟩ : ∃ N, Hid (nmV 1 (l, false) = N) := ⟨_, rfl⟩
        have hN256 : N < 256 := by rw [← hN.out]; exact nmV_lt 1 (l, false)
        obtain ⟨Y, hY⟩ : ∃ Y, Hid (tkS 1 (l, false) = Y) := ⟨_, rfl⟩
        rw [hN.out, hY.out] at hn
        obtain ⟨T, hT⟩ : ∃ T, Hid (tkB N Y = T) := ⟨_, rfl⟩
        obtain ⟨S, hS'⟩ : ∃ S, Hid (tkS N Y = S) := ⟨_, rfl⟩
        rw [hT.out, hS'.out] at hn
        have hTl : T.length ≤ 256 := by rw [← hT.out]; have := tkB_len N Y; omega
        have hacc : acc.length ≤ 255 := by have h1 : acc.length ≤ k := hpl.out; have h2 : k ≤ M := hkM.out; omega
        have Hacc := Lib.hid hacc
        clear done hp hacc
        obtain ⟨vA, vc, rfl⟩ := hown.form
        go_wp2_with fail
        refine wp_region_p2 (fun w' => Below wr.heap.size wr w') (fun w' => Blk w' w2.heap.size 24 #[.int .i64 V1, .int .i64 V2, .slice vA acc.length vc]) [9, 10] (.q 0 (.q 1 (.q 2 (.q 3 (.l 4 (.l 5 (.l 6 (.l 7 (.l 8 (.qc 9 (.l 10 .nil))))))))))) (by kernel_rfl) (by kernel_rfl) (fun _ _ d _ _ h => by cases d <;> exact h) rfl (by kernel_rfl) ?_ ?_
        · exact ⟨below_drew _, hBx.kept (below_drew _)⟩
        intro W hS0 hS
        have hsr0 := hsr.kept hS0
        have hown0 := hown.kept hS0
        have hzW := hS0.size
        clear hB g1c
        repeat (first
          | (refine pl_q (by assumption) rfl rfl ?_; apply Exists.intro; refine ⟨fun w' hS => ?_, ?_⟩; (· (have h0 := hS.cell 0; have h1 := hS.cell 1; have h2 := hS.cell 2; simp at h0 h1 h2; go_simp; exact rfl)); simp only [List.getElem_toArray, List.getElem_cons_zero, List.getElem_cons_succ, Act.put, List.setIfInBounds_toArray, List.set_cons_zero, List.set_cons_succ])
          | (refine pl_qc rfl rfl ?_; apply Exists.intro; refine ⟨fun w' _ => ?_, ?_⟩; (· (go_simp; exact rfl)); simp only [List.getElem_toArray, List.getElem_cons_zero, List.getElem_cons_succ, Act.put, List.setIfInBounds_toArray, List.set_cons_zero, List.set_cons_succ])
          | (refine pl_skip (by assumption) rfl rfl ?_; simp only [List.getElem_toArray, List.getElem_cons_zero, List.getElem_cons_succ, Act.put, List.setIfInBounds_toArray, List.set_cons_zero, List.set_cons_succ])
          | (refine pl_skipl (by assumption) rfl rfl ?_; simp only [List.getElem_toArray, List.getElem_cons_zero, List.getElem_cons_succ, Act.put, List.setIfInBounds_toArray, List.set_cons_zero, List.set_cons_succ]))
        first
          | refine pl_do rfl rfl (fun K hK => ?_)
          | refine op_do rfl rfl (fun K hK => ?_)
        try simp only [List.getElem_toArray, List.getElem_cons_zero, List.getElem_cons_succ]
        go_simp
        refine (number_any w0 g 1 1 (l, false) _ rfl (by decide) hsr0).mono ?_
        rintro e w5 ⟨rfl, hg5, hs5⟩
        rw [hN.out]
        rw [hY.out] at hs5
        have hX5 := (hBx.kept hS0).grown hg5 (by simp; omega)
        have hown5 := hown0.grown hg5 hgB.out
        refine hK.out _ _ (hX5) (fun hS => ?_)
        clear hK K
        try simp only [List.getElem_toArray, List.getElem_cons_zero, List.getElem_cons_succ, Act.put, List.setIfInBounds_toArray, List.set_cons_zero, List.set_cons_succ]
        first
          | refine pl_do rfl rfl (fun K hK => ?_)
          | refine op_do rfl rfl (fun K hK => ?_)
        try simp only [List.getElem_toArray, List.getElem_cons_zero, List.getElem_cons_succ]
        go_simp
        refine (take_any w0 g N N Y _ rfl (by omega) hs5).mono ?_
        rintro e w6 ⟨d, rfl, hg6, hs6, hr6⟩
        rw [hS'.out] at hs6
        rw [hT.out] at hr6
        have hX6 := hX5.grown hg6 (by simp; omega)
        have hown6 := hown5.grown hg6 hgB.out
        have hstr := run_toStr (hr6.mono (View.from_le _ _))
        obtain ⟨dA, dc, rfl, hfd⟩ := id hr6
        clear hfd
        have hz6 := hg6.size
        have hz5 := hg5.size
        refine hK.out _ _ (hX6) (fun hS => ?_)
        clear hK K
        try simp only [List.getElem_toArray, List.getElem_cons_zero, List.getElem_cons_succ, Act.put, List.setIfInBounds_toArray, List.set_cons_zero, List.set_cons_succ]
        first
          | refine pl_do rfl rfl (fun K hK => ?_)
          | refine op_do rfl rfl (fun K hK => ?_)
        try simp only [List.getElem_toArray, List.getElem_cons_zero, List.getElem_cons_succ]
        go_simp
        refine hK.out _ _ (hX6) (fun hS => ?_)
        clear hK K
        try simp only [List.getElem_toArray, List.getElem_cons_zero, List.getElem_cons_succ, Act.put, List.setIfInBounds_toArray, List.set_cons_zero, List.set_cons_succ]
        first
          | refine pl_do rfl rfl (fun K hK => ?_)
          | refine op_do rfl rfl (fun K hK => ?_)
        try simp only [List.getElem_toArray, List.getElem_cons_zero, List.getElem_cons_succ]
        go_simp
        have hb7 := below_one w6 (.cells #[.string (bstr T)] 9)
        have hn7 : (w6.alloc (.cells #[.string (bstr T)] 9)).cell? ⟨w6.heap.size, 0, none⟩ = some (encS (bstr T)) := (Blk.new w6 9 #[.string (bstr T)]).cell 0
        have hX7 := hX6.kept hb7
        have hown7 := hown6.kept hb7
        have hs7 := hs6.kept hb7
        have hgw7 : wr.grownBy (w6.alloc (.cells #[.string (bstr T)] 9)) (some g) := grownBy_trans (grownBy_trans (grownBy_trans (grownBy_below _ hS0) hg5) hg6) (grownBy_below _ hb7)
        have hz7 := hgw7.size
        refine hK.out _ _ (hX7) (fun hS => ?_)
        clear hK K
        try simp only [List.getElem_toArray, List.getElem_cons_zero, List.getElem_cons_succ, Act.put, List.setIfInBounds_toArray, List.set_cons_zero, List.set_cons_succ]
        first
          | refine pl_do rfl rfl (fun K hK => ?_)
          | refine op_do rfl rfl (fun K hK => ?_)
        try simp only [List.getElem_toArray, List.getElem_cons_zero, List.getElem_cons_succ]
        have hlto := hown7.own.lt
        refine wp_append_at (n := 140737488355328) (ys := [bstr T]) elemStr encS_one _ _ rfl rfl hown7 (by simp; omega) rfl (RVec.one (bstr T) hn7 (by decide)) (by decide) (by have := Hacc.out; simp; omega) (by have := Hacc.out; simp; omega) (fun v8 w8 ho8 hg8 hloc => ?_)
        clear hloc
        have hneo : ∀ q, (Value.slice vA acc.length vc).ownBlock = some q → w4.heap.size ≤ q := fun q hq => (hlto q hq).1
        have hX8 := hX7.grown hg8 (fun e => by have := hneo _ e.symm; omega)
        have hs8 := hs7.step hg8 (fun q hq => by have := hneo q hq; omega)
        obtain ⟨v8A, v8c, rfl⟩ := ho8.form
        refine hK.out _ _ (hX8) (fun hS => ?_)
        clear hK K
        try simp only [List.getElem_toArray, List.getElem_cons_zero, List.getElem_cons_succ, Act.put, List.setIfInBounds_toArray, List.set_cons_zero, List.set_cons_succ]
        repeat (first
          | (refine pl_q (by assumption) rfl rfl ?_; apply Exists.intro; refine ⟨fun w' hS => ?_, ?_⟩; (· (skip; go_simp; exact rfl)); simp only [List.getElem_toArray, List.getElem_cons_zero, List.getElem_cons_succ, Act.put, List.setIfInBounds_toArray, List.set_cons_zero, List.set_cons_succ])
          | (refine pl_qc rfl rfl ?_; apply Exists.intro; refine ⟨fun w' _ => ?_, ?_⟩; (· (go_simp; exact rfl)); simp only [List.getElem_toArray, List.getElem_cons_zero, List.getElem_cons_succ, Act.put, List.setIfInBounds_toArray, List.set_cons_zero, List.set_cons_succ])
          | (refine pl_skip (by assumption) rfl rfl ?_; simp only [List.getElem_toArray, List.getElem_cons_zero, List.getElem_cons_succ, Act.put, List.setIfInBounds_toArray, List.set_cons_zero, List.set_cons_succ])
          | (refine pl_skipl (by assumption) rfl rfl ?_; simp only [List.getElem_toArray, List.getElem_cons_zero, List.getElem_cons_succ, Act.put, List.setIfInBounds_toArray, List.set_cons_zero, List.set_cons_succ]))
        first
          | refine pl_close rfl rfl rfl (fun K hK => ?_)
          | refine op_close rfl rfl rfl (fun K hK => ?_)
        try simp only [List.getElem_toArray, List.getElem_cons_zero, List.getElem_cons_succ]
        refine wp_store_blk (n := 1) rfl rfl rfl (by kernel_rfl) rfl hX8 (by simp) rfl ?_
        intro w9 hX9 hg9
        have hX9 : Blk w9 w2.heap.size 24 #[.int .i64 V1, .int .i64 V2, .slice v8A (acc ++ [bstr T]).length v8c] := hX9
        have hs9 := hs8.step hg9 (fun q hq => by injection hq; omega)
        have ho9 := ho8.grown hg9 (by omega)
        have hch9 : Chg [g, w2.heap.size] w4 w9 := ((hch.new hgw7 (fun q hq => .inl (by injection hq with hq; subst hq; simp))).new hg8 (fun q hq => .inr (hneo q hq))).new hg9 (fun q hq => .inl (by injection hq with hq; subst hq; simp))
        have hzw : IntKind.i64.wrap (z - 1) = z - 1 := by rw [IntKind.wrap_i64]; omega
        refine hK.out _ _ ?_
        clear hK K
        try simp only [List.getElem_toArray, List.getElem_cons_zero, List.getElem_cons_succ, Act.put, List.setIfInBounds_toArray, List.set_cons_zero, List.set_cons_succ]
        refine pl_nil ?_
        go_wp2
        go_roundw
        case rel => exact ⟨k + 1, z - 1, (acc ++ [bstr T], S), _, rfl, by show _ = _; have := hz.out; omega, by show _ ≤ _; have := hz.out; omega, by omega, by omega, hn, by show _ ≤ _; have := hpl.out; simp at this ⊢; omega, hX9, ho9, hs9, hch9⟩
        case measure => simp [intOf]; omega
      · have hX2 := done (by rw [it_stop hkM.out (by rw [hp.out]; rfl), hp.out])
        have hacc : acc.length ≤ 255 := by have h1 : acc.length ≤ k := hpl.out; have h2 : k ≤ M := hkM.out; omega
        have hrd := hown.from_ (bs := 16) (b0 := w4.heap.size) (by omega) (Nat.le_refl _)
        obtain ⟨oA, oc, rfl⟩ := hown.form
        have hkr := hk4.chg hch (by simp; omega)
        have x0 := hBx.cell 0; have x1 := hBx.cell 1; have x2 := hBx.cell 2
        simp at x0 x1 x2
        have hgr : w.grownBy wr (some g) := ⟨hch.os.trans hgw4.os, hch.tape.trans hgw4.tape, hch.output.trans hgw4.output, Nat.le_trans hgw4.size hch.size, fun i hi hn => (hch.block i (Nat.lt_of_lt_of_le hi hgw4.size) (by simp; exact ⟨fun e => hn (by rw [e]), by omega⟩)).trans (hgw4.block i hi hn)⟩
        have hzw4 := hgw4.size
        clear done hp hown hch
        go_wp2_with (refine wpList_store_whole (n := 3) rfl rfl rfl rfl (by kernel_rfl) rfl hkr rfl rfl ?_)
        intro w8 hB8 hg8
        have hs8 := hsr.step hg8 (fun q hq => by injection hq with hq; omega)
        have hgw8 : w.grownBy w8 (some g) := grown_new hgr hg8 (fun q hq => by injection hq with hq; omega)
        have hrd8 := (hrd.mono (from_past hg8 (by have := hgw4.size; omega))).mono (from_down (by have := hgw4.size; omega))
        go_wp2
        refine bodyPost_ret (results_blk rfl rfl (by kernel_rfl) (by kernel_rfl) hB8 rfl) rfl ?_
        rw [HR.out, hX2.out]
        exact ⟨.slice oA acc.length oc, rfl, hgw8, hs8, hrd8⟩
    · have hX2 := done (by rw [show M = k by have := hz.out; have := hkM.out; omega, hp.out])
      have hacc : acc.length ≤ 255 := by have h1 : acc.length ≤ k := hpl.out; have h2 : k ≤ M := hkM.out; omega
      have hrd := hown.from_ (bs := 16) (b0 := w4.heap.size) (by omega) (Nat.le_refl _)
      obtain ⟨oA, oc, rfl⟩ := hown.form
      have hkr := hk4.chg hch (by simp; omega)
      have x0 := hBx.cell 0; have x1 := hBx.cell 1; have x2 := hBx.cell 2
      simp at x0 x1 x2
      have hgr : w.grownBy wr (some g) := ⟨hch.os.trans hgw4.os, hch.tape.trans hgw4.tape, hch.output.trans hgw4.output, Nat.le_trans hgw4.size hch.size, fun i hi hn => (hch.block i (Nat.lt_of_lt_of_le hi hgw4.size) (by simp; exact ⟨fun e => hn (by rw [e]), by omega⟩)).trans (hgw4.block i hi hn)⟩
      have hzw4 := hgw4.size
      clear done hp hown hch
      go_wp2_with (refine wpList_store_whole (n := 3) rfl rfl rfl rfl (by kernel_rfl) rfl hkr rfl rfl ?_)
      intro w8 hB8 hg8
      have hs8 := hsr.step hg8 (fun q hq => by injection hq with hq; omega)
      have hgw8 : w.grownBy w8 (some g) := grown_new hgr hg8 (fun q hq => by injection hq with hq; omega)
      have hrd8 := (hrd.mono (from_past hg8 (by have := hgw4.size; omega))).mono (from_down (by have := hgw4.size; omega))
      go_wp2
      refine bodyPost_ret (results_blk rfl rfl (by kernel_rfl) (by kernel_rfl) hB8 rfl) rfl ?_
      rw [HR.out, hX2.out]
      exact ⟨.slice oA acc.length oc, rfl, hgw8, hs8, hrd8⟩
end Go.Proofs.Ytedealljhmokoaa

namespace Go.Proofs.Ytedealljhmokoaa
open Go.ChangeShapes Go.WideShapes Go.ChangeAt Go.RowKit
set_option linter.unusedVariables false
set_option linter.unusedSimpArgs false
theorem nilDs (h : View) : RDigs h (.slice none 0 0) [] := ⟨none, 0, rfl, Nat.le_refl _, Nat.zero_le _, by simp, fun _ => rfl, fun h => by simp at h⟩
theorem RMsg.nils (h : View) : RMsg h msg0 (.slice none 0 0) (.slice none 0 0) (.slice none 0 0) (.slice none 0 0) (.slice none 0 0) (.slice none 0 0) (.slice none 0 0) :=
  ⟨RVec.nil _ _ _, nilDs _, nilDs _, RVec.nil _ _ _, nilDs _, nilDs _, RVec.nil _ _ _⟩
def nilC : Value := .slice none 0 0
theorem txs_small : ∀ (n : Nat) (p : List ByteArray × RS), (∀ s ∈ p.1, s.size ≤ 140737488355328) → ∀ s ∈ (it stepT n p).1, s.size ≤ 140737488355328
  | 0, _, h => h
  | n + 1, p, h => by
    have ih := txs_small n p h
    show ∀ s ∈ (stepT (it stepT n p)).1, _
    generalize it stepT n p = q at ih ⊢
    unfold stepT
    split
    · exact ih
    · intro s hs
      rcases List.mem_append.1 hs with h1 | h1
      · exact ih s h1
      · rw [List.mem_singleton.1 h1, bstr_size]
        have h2 := tkB_len (nmV 1 q.2) (tkS 1 q.2)
        have h3 := nmV_lt 1 q.2
        omega
theorem bodR_small (a b k : Int) (s : RS) : ∀ t ∈ (bodR a b k s).1.bat.txs, t.size ≤ 140737488355328 := by
  have h0 : ∀ t ∈ bat0.txs, t.size ≤ 140737488355328 := fun t ht => by cases ht
  unfold bodR
  split
  · exact txs_small _ _ (fun t ht => by cases ht)
  repeat' split
  all_goals exact h0
set_option maxHeartbeats 4000000 in
set_option maxRecDepth 100000 in
theorem decode_any (v : Value) (b : List UInt8) (w : World) (hr : RBytes w.cell? v b) :
    Calls Try.prog 18 #[v] w fun e w' => ∃ vt vb vp vd cb cp cv, e = .returned (.tuple #[.agg (msgC (decM b) vt vb vp vd cb cp cv), .int .i64 (decE b)]) ∧ Below w.heap.size w w' ∧ RMsg (View.from w'.cell? w.heap.size) (decM b) vt vb vp vd cb cp cv := by
  obtain ⟨A, c, rfl, hf⟩ := id hr
  clear hf
  obtain ⟨M, hM⟩ : ∃ M, Hid (decM b = M) := ⟨_, rfl⟩
  obtain ⟨E, hE⟩ : ∃ E, Hid (decE b = E) := ⟨_, rfl⟩
  rw [hM.out, hE.out]
  go_enter Try.func18, Try.ntmps18
  go_upto_region 1 with fail
  refine one_block _ _ _ (fun W => Code.wp _ _ _ _ W) (fun W hk hszW hbW => ?_)
  have hzW : w.heap.size + 1 ≤ W.heap.size := by omega
  clear hszW
  by_cases hbig : (4000 : Int) < b.length
  · have HE : Hid (E = 1) := by show _ = _; rw [← hE.out]; unfold decE; rw [if_pos (by omega)]
    have HM : Hid (M = msg0) := by show _ = _; rw [← hM.out]; unfold decM; rw [if_neg (by rw [hE.out, HE.out]; decide)]
    go_wp2_with (refine wpList_store_whole (n := 19) rfl rfl rfl rfl (by kernel_rfl) rfl hk rfl rfl ?_)
    intro w8 hB8 hg8
    go_wp2
    refine bodyPost_ret (results_blk_tmp rfl rfl (by kernel_rfl) (by kernel_rfl) hB8 rfl) rfl ?_
    rw [HM.out, HE.out]
    exact ⟨nilC, nilC, nilC, nilC, nilC, nilC, nilC, rfl, below_grownBy hbW hbW.size hg8 (by intro k e; injection e; omega), RMsg.nils _⟩
  go_upto_region 4 with fail
  refine one_block _ _ _ (fun W => Code.wp _ _ _ _ W) (fun W1 hB hszB hbB => ?_)
  have hltB := hB.lt
  have hbB1 := hbW.trans (hbB.mono hbW.size)
  have hk1 := hk.kept hbB
  have hs1 : RdS W1 W1 W.heap.size (b, false) := ⟨⟨_, hB, hr.mono (vle_below_but hbB1 (by omega))⟩, grownBy_below _ (Below.refl _ _), hltB⟩
  obtain ⟨g, hg⟩ : ∃ g, g = W.heap.size := ⟨_, rfl⟩
  rw [← hg] at hs1 hB hltB ⊢
  have hgl : w.heap.size + 1 ≤ g := by omega
  clear hszB hg
  obtain ⟨V0, hV0⟩ : ∃ V, Hid (nmV 1 (b, false) = V) := ⟨_, rfl⟩
  obtain ⟨S0, hS0⟩ : ∃ S, Hid (tkS 1 (b, false) = S) := ⟨_, rfl⟩
  go_wp2_with fail
  refine (number_any W1 g 1 1 (b, false) W1 rfl (by decide) hs1).mono ?_
  rintro e w2 ⟨rfl, hg2, hs2⟩
  rw [hV0.out]
  rw [hS0.out] at hs2
  have hk2 := hk1.grown hg2 (by simp; omega)
  have hz2 := hg2.size
  have hgw2 := hg2
  clear hs1 hB hk1
  have hn := Blk.new w2 35 #[.int .i64 0, .int .i64 0, .int .i64 0, .int .i64 0, .int .i64 0, .slice none 0 0, .int .i64 0, .int .i64 0, .slice none 0 0, .slice none 0 0, .int .i64 0, .int .i64 0, .slice none 0 0, .int .i64 0, .int .i64 0, .slice none 0 0, .slice none 0 0, .slice none 0 0, .int .i64 0]
  have hbn := below_one w2 (.cells #[.int .i64 0, .int .i64 0, .int .i64 0, .int .i64 0, .int .i64 0, .slice none 0 0, .int .i64 0, .int .i64 0, .slice none 0 0, .slice none 0 0, .int .i64 0, .int .i64 0, .slice none 0 0, .int .i64 0, .int .i64 0, .slice none 0 0, .slice none 0 0, .slice none 0 0, .int .i64 0] 35)
  go_wp2_with (refine wpList_store_whole (n := 19) rfl rfl rfl rfl (by kernel_rfl) rfl hn rfl rfl ?_)
  intro W3 hX hg3
  have hX : Blk W3 w2.heap.size 35 #[.int .i64 0, .int .i64 0, .int .i64 V0, .int .i64 0, .int .i64 0, .slice none 0 0, .int .i64 0, .int .i64 0, .slice none 0 0, .slice none 0 0, .int .i64 0, .int .i64 0, .slice none 0 0, .int .i64 0, .int .i64 0, .slice none 0 0, .slice none 0 0, .slice none 0 0, .int .i64 0] := hX
  have hbX := below_grownBy hbn hbn.size hg3 (by intro k e; injection e; omega)
  have hltX := hX.lt
  clear hn hbn hg3
  have hk3 := hk2.kept hbX
  have hs3 := hs2.kept hbX
  have hgw3 : W1.grownBy W3 (some g) := grownBy_trans hgw2 (grownBy_below _ hbX)
  clear hs2 hk2
  have hbl3 : Below w.heap.size w W3 := by
    have h1 := below_grownBy hbB1 hbB1.size hgw3 (by intro k e; injection e; omega)
    exact h1
  have x2 := hX.cell 2
  simp at x2
  by_cases hemp : b.length = 0
  · have hb0 : b = [] := List.eq_nil_of_length_eq_zero hemp
    subst hb0
    have HE : Hid (E = 5) := by show _ = _; rw [← hE.out]; rfl
    have HM : Hid (M = msg0) := by show _ = _; rw [← hM.out]; unfold decM; rw [if_neg (by rw [hE.out, HE.out]; decide)]
    have hV00 : V0 = 0 := by rw [← hV0.out]; rfl
    have hS00 : S0 = ([], true) := by rw [← hS0.out]; rfl
    subst hV00 hS00
    go_wp2_with fail
    refine (number_any W1 g 1 1 ([], true) W3 rfl (by decide) hs3).mono ?_
    rintro e w4 ⟨rfl, hg4, hs4⟩
    go_wp2_with fail
    refine (number_any W1 g 1 1 ([], true) w4 rfl (by decide) hs4).mono ?_
    rintro e w5 ⟨rfl, hg5, hs5⟩
    have hX5 := (hX.grown hg4 (by simp; omega)).grown hg5 (by simp; omega)
    have hk5 := (hk3.grown hg4 (by simp; omega)).grown hg5 (by simp; omega)
    have hnv : nmV 1 (([], true) : RS) = 0 := rfl
    have htk : tkS 1 (([], true) : RS) = ([], true) := rfl
    rw [htk] at hs4 hs5
    simp only [hnv]
    clear hnv htk x2 hX hk3
    go_wp2_with (refine wpList_store_blk (n := 1) rfl rfl rfl rfl (by kernel_rfl) rfl hX5 (by simp) rfl ?_)
    intro w6 hX6 hg6
    go_wp2_with (refine wpList_store_blk (n := 1) rfl rfl rfl rfl (by kernel_rfl) rfl hX6 (by simp) rfl ?_)
    intro w7 hX7 hg7
    have hX7 : Blk w7 w2.heap.size 35 #[.int .i64 0, .int .i64 0, .int .i64 0, .int .i64 0, .int .i64 0, .slice none 0 0, .int .i64 0, .int .i64 0, .slice none 0 0, .slice none 0 0, .int .i64 0, .int .i64 0, .slice none 0 0, .int .i64 0, .int .i64 0, .slice none 0 0, .slice none 0 0, .slice none 0 0, .int .i64 0] := hX7
    have hk7 := (hk5.grown hg6 (by simp; omega)).grown hg7 (by simp; omega)
    have hs7 := (hs5.step hg6 (fun q hq => by injection hq with hq; omega)).step hg7 (fun q hq => by injection hq with hq; omega)
    have x2 := hX7.cell 2
    simp at x2
    obtain ⟨vr, hB7, _⟩ := hs7.blk
    have g1 := hB7.cell 1
    simp at g1
    have hbl7 : Below w.heap.size w w7 := below_grownBy (below_grownBy (below_grownBy (below_grownBy hbl3 hbl3.size hg4 (by intro k e; injection e; omega)) (by have := hg4.size; omega) hg5 (by intro k e; injection e; omega)) (by have := hg4.size; have := hg5.size; omega) hg6 (by intro k e; injection e; omega)) (by have := hg4.size; have := hg5.size; have := hg6.size; omega) hg7 (by intro k e; injection e; omega)
    go_wp2_with (refine wpList_store_whole (n := 19) rfl rfl rfl rfl (by kernel_rfl) rfl hk7 rfl rfl ?_)
    intro w8 hB8 hg8
    go_wp2
    refine bodyPost_ret (results_blk_tmp rfl rfl (by kernel_rfl) (by kernel_rfl) hB8 rfl) rfl ?_
    rw [HM.out, HE.out]
    exact ⟨nilC, nilC, nilC, nilC, nilC, nilC, nilC, rfl, below_grownBy hbl7 hbl7.size hg8 (by intro k e; injection e; omega), RMsg.nils _⟩
  by_cases hbad : V0 < 1 ∨ 5 < V0
  · have HE : Hid (E = 3) := by show _ = _; rw [← hE.out]; unfold decE; rw [hV0.out, if_neg (by omega), if_neg (by omega), if_pos hbad]
    have HM : Hid (M = msg0) := by show _ = _; rw [← hM.out]; unfold decM; rw [if_neg (by rw [hE.out, HE.out]; decide)]
    have hlp : (0 : Int) < b.length := by omega
    by_cases hlo : V0 < 1
    · have hkb : (V0 : Int) < 1 := by omega
      go_wp2_with (refine wpList_store_whole (n := 19) rfl rfl rfl rfl (by kernel_rfl) rfl hk3 rfl rfl ?_)
      intro w8 hB8 hg8
      go_wp2
      refine bodyPost_ret (results_blk_tmp rfl rfl (by kernel_rfl) (by kernel_rfl) hB8 rfl) rfl ?_
      rw [HM.out, HE.out]
      exact ⟨nilC, nilC, nilC, nilC, nilC, nilC, nilC, rfl, below_grownBy hbl3 hbl3.size hg8 (by intro k e; injection e; omega), RMsg.nils _⟩
    · have hkb : ¬ (V0 : Int) < 1 := by omega
      have hkb2 : (5 : Int) < V0 := by omega
      go_wp2_with (refine wpList_store_whole (n := 19) rfl rfl rfl rfl (by kernel_rfl) rfl hk3 rfl rfl ?_)
      intro w8 hB8 hg8
      go_wp2
      refine bodyPost_ret (results_blk_tmp rfl rfl (by kernel_rfl) (by kernel_rfl) hB8 rfl) rfl ?_
      rw [HM.out, HE.out]
      exact ⟨nilC, nilC, nilC, nilC, nilC, nilC, nilC, rfl, below_grownBy hbl3 hbl3.size hg8 (by intro k e; injection e; omega), RMsg.nils _⟩
  have hlp : (0 : Int) < b.length := by omega
  have hkl : ¬ (V0 : Int) < 1 := by omega
  have hkh : ¬ (5 : Int) < V0 := by omega
  obtain ⟨V1, hV1⟩ : ∃ V, Hid (nmV 1 S0 = V) := ⟨_, rfl⟩
  obtain ⟨S1, hS1⟩ : ∃ S, Hid (tkS 1 S0 = S) := ⟨_, rfl⟩
  obtain ⟨V2, hV2⟩ : ∃ V, Hid (nmV 1 S1 = V) := ⟨_, rfl⟩
  obtain ⟨S2, hS2⟩ : ∃ S, Hid (tkS 1 S1 = S) := ⟨_, rfl⟩
  obtain ⟨⟨MR, SR⟩, hMR⟩ : ∃ p, Hid (bodR V1 V2 V0 S2 = p) := ⟨_, rfl⟩
  have HR : Hid (msgR b = (MR, SR)) := by show _ = _; rw [← hMR.out]; unfold msgR; rw [hS0.out, hS1.out, hS2.out, hV0.out, hV1.out, hV2.out]
  have HE : Hid (E = if SR.2 then 5 else if 0 < SR.1.length then 4 else msgF MR) := by
    show _ = _
    rw [← hE.out]
    unfold decE
    rw [hV0.out, HR.out, if_neg (by omega), if_neg (by omega), if_neg hbad]
  have HM : Hid (M = if E = 0 then MR else msg0) := by show _ = _; rw [← hM.out]; unfold decM; rw [hE.out, HR.out]
  have hsmall := Lib.hid (bodR_small V1 V2 V0 S2)
  rw [hMR.out] at hsmall
  clear HR hM hE
  go_wp2_with fail
  refine (number_any W1 g 1 1 S0 W3 rfl (by decide) hs3).mono ?_
  rintro e w4 ⟨rfl, hg4, hs4⟩
  rw [hV1.out]
  rw [hS1.out] at hs4
  have hX4 := hX.grown hg4 (by simp; omega)
  have hk4 := hk3.grown hg4 (by simp; omega)
  clear hs3 hX hk3 x2
  go_wp2_with fail
  refine (number_any W1 g 1 1 S1 w4 rfl (by decide) hs4).mono ?_
  rintro e w5 ⟨rfl, hg5, hs5⟩
  rw [hV2.out]
  rw [hS2.out] at hs5
  have hX5 := hX4.grown hg5 (by simp; omega)
  have hk5 := hk4.grown hg5 (by simp; omega)
  clear hs4 hX4 hk4
  go_wp2_with (refine wpList_store_blk (n := 1) rfl rfl rfl rfl (by kernel_rfl) rfl hX5 (by simp) rfl ?_)
  intro w6 hX6 hg6
  go_wp2_with (refine wpList_store_blk (n := 1) rfl rfl rfl rfl (by kernel_rfl) rfl hX6 (by simp) rfl ?_)
  intro w7 hX7 hg7
  have hX7 : Blk w7 w2.heap.size 35 #[.int .i64 V1, .int .i64 V2, .int .i64 V0, .int .i64 0, .int .i64 0, .slice none 0 0, .int .i64 0, .int .i64 0, .slice none 0 0, .slice none 0 0, .int .i64 0, .int .i64 0, .slice none 0 0, .int .i64 0, .int .i64 0, .slice none 0 0, .slice none 0 0, .slice none 0 0, .int .i64 0] := hX7
  have hk7 := (hk5.grown hg6 (by simp; omega)).grown hg7 (by simp; omega)
  have hs7 := (hs5.step hg6 (fun q hq => by injection hq with hq; omega)).step hg7 (fun q hq => by injection hq with hq; omega)
  have hbl7 : Below w.heap.size w w7 := below_grownBy (below_grownBy (below_grownBy (below_grownBy hbl3 hbl3.size hg4 (by intro k e; injection e; omega)) (by have := hg4.size; omega) hg5 (by intro k e; injection e; omega)) (by have := hg4.size; have := hg5.size; omega) hg6 (by intro k e; injection e; omega)) (by have := hg4.size; have := hg5.size; have := hg6.size; omega) hg7 (by intro k e; injection e; omega)
  have hltX7 := hX7.lt
  have hltg7 : g < w7.heap.size := by have := hg4.size; have := hg5.size; have := hg6.size; have := hg7.size; omega
  have hgX : g ≠ w2.heap.size := by omega
  have hXg : w2.heap.size ≠ g := by omega
  clear hX5 hk5 hs5 hX6 hg4 hg5 hg6 hg7 hS0 hS1 hS2 hV1 hV2
  have x2 := hX7.cell 2
  simp at x2
  go_upto_block 0 with fail
  go_cut [6, 39] (fun _ _ w' => ∃ vt vb vp vd cb cp cv, Blk w' w2.heap.size 35 (msgC MR vt vb vp vd cb cp cv) ∧ RMsg (View.from w'.cell? w7.heap.size) MR vt vb vp vd cb cp cv ∧ RdS W1 w' g SR ∧ Chg [g, w2.heap.size] w7 w')
  case first =>
    have hch0 := Chg.refl [g, w2.heap.size] w7
    have hin1 : ∀ q, some g = some q → q ∈ [g, w2.heap.size] ∨ w7.heap.size ≤ q := fun q hq => .inl (by injection hq with hq; subst hq; simp)
    have hin2 : ∀ q, some w2.heap.size = some q → q ∈ [g, w2.heap.size] ∨ w7.heap.size ≤ q := fun q hq => .inl (by injection hq with hq; subst hq; simp)
    have hXnew : ∀ q, some w2.heap.size = some q → W1.heap.size ≤ q := fun q hq => by injection hq with hq; omega
    rcases (show V0 = 1 ∨ V0 = 2 ∨ V0 = 3 ∨ V0 = 4 ∨ V0 = 5 by omega) with rfl | rfl | rfl | rfl | rfl
    · obtain ⟨⟨Bt, St⟩, hBt⟩ : ∃ p, Hid (batR S2 = p) := ⟨_, rfl⟩
      have HMR : Hid (MR = ⟨V1, V2, 1, Bt, hdr0, slt0, crt0, 0⟩ ∧ SR = St) := by
        have h := hMR.out
        simp [bodR, hBt.out] at h
        exact ⟨h.1.symm, h.2.symm⟩
      clear hMR hkl hkh
      go_wp2_with fail
      refine (readBat_any W1 g S2 w7 hs7).mono ?_
      rintro e w8 ⟨vt, rfl, hg8, hs8, hr8⟩
      rw [hBt.out] at hs8 hr8 ⊢
      have hX8 := hX7.grown hg8 (by simp; omega)
      obtain ⟨tA, tc, rfl, hf⟩ := id hr8
      clear hf hs7 hX7 x2
      go_wp2_with (refine wpList_store_blk (n := 3) rfl rfl rfl rfl (by kernel_rfl) rfl hX8 (by simp) rfl ?_)
      intro w9 hX9 hg9
      go_wp2
      go_meet
      rw [HMR.out.1, HMR.out.2]
      refine ⟨_, nilC, nilC, nilC, nilC, nilC, nilC, hX9, ?_, hs8.step hg9 hXnew, (hch0.new hg8 hin1).new hg9 hin2⟩
      have hn := RMsg.nils (View.from w9.cell? w7.heap.size)
      exact ⟨hr8.mono (from_past hg9 (by omega)), hn.bats, hn.pars, hn.dig, hn.cbats, hn.cpars, hn.vots⟩
    · obtain ⟨⟨Ht, St⟩, hHt⟩ : ∃ p, Hid (hdrR S2 = p) := ⟨_, rfl⟩
      have HMR : Hid (MR = ⟨V1, V2, 2, bat0, Ht, slt0, crt0, 0⟩ ∧ SR = St) := by
        have h := hMR.out
        simp [bodR, hHt.out] at h
        exact ⟨h.1.symm, h.2.symm⟩
      clear hMR hkl hkh
      go_wp2_with fail
      refine (readHdr_any W1 g S2 w7 hs7).mono ?_
      rintro e w8 ⟨vb, vp, rfl, hg8, hs8, hb8, hp8⟩
      rw [hHt.out] at hs8 hb8 hp8 ⊢
      have hX8 := hX7.grown hg8 (by simp; omega)
      obtain ⟨bA, bc, rfl, hf⟩ := id hb8
      clear hf
      obtain ⟨pA, pc, rfl, hf⟩ := id hp8
      clear hf hs7 hX7 x2
      go_wp2_with (refine wpList_store_blk (n := 4) rfl rfl rfl rfl (by kernel_rfl) rfl hX8 (by simp) rfl ?_)
      intro w9 hX9 hg9
      go_wp2
      go_meet
      rw [HMR.out.1, HMR.out.2]
      refine ⟨nilC, _, _, nilC, nilC, nilC, nilC, hX9, ?_, hs8.step hg9 hXnew, (hch0.new hg8 hin1).new hg9 hin2⟩
      have hn := RMsg.nils (View.from w9.cell? w7.heap.size)
      exact ⟨hn.txs, hb8.mono RDig.mono (from_past hg9 (by omega)), hp8.mono RDig.mono (from_past hg9 (by omega)), hn.dig, hn.cbats, hn.cpars, hn.vots⟩
    · obtain ⟨Y1, hY1⟩ : ∃ Y, Hid (nmV 1 S2 = Y) := ⟨_, rfl⟩
      obtain ⟨Z1, hZ1⟩ : ∃ Y, Hid (tkS 1 S2 = Y) := ⟨_, rfl⟩
      obtain ⟨Y2, hY2⟩ : ∃ Y, Hid (nmV 3 Z1 = Y) := ⟨_, rfl⟩
      obtain ⟨Z2, hZ2⟩ : ∃ Y, Hid (tkS 3 Z1 = Y) := ⟨_, rfl⟩
      obtain ⟨Y3, hY3⟩ : ∃ Y, Hid (tkB 32 Z2 = Y) := ⟨_, rfl⟩
      obtain ⟨Z3, hZ3⟩ : ∃ Y, Hid (tkS 32 Z2 = Y) := ⟨_, rfl⟩
      have HMR : Hid (MR = ⟨V1, V2, 3, bat0, hdr0, ⟨Y1, Y2, Y3⟩, crt0, 0⟩ ∧ SR = Z3) := by
        have h := hMR.out
        simp [bodR, sltR, hY1.out, hY2.out, hY3.out, hZ1.out, hZ2.out, hZ3.out] at h
        exact ⟨h.1.symm, h.2.symm⟩
      clear hMR hkl hkh
      go_wp2_with fail
      refine (number_any W1 g 1 1 S2 w7 rfl (by decide) hs7).mono ?_
      rintro e w8 ⟨rfl, hg8, hs8⟩
      rw [hY1.out]
      rw [hZ1.out] at hs8
      have hX8 := hX7.grown hg8 (by simp; omega)
      clear hs7 hX7 x2
      go_wp2_with fail
      refine (number_any W1 g 3 3 Z1 w8 rfl (by decide) hs8).mono ?_
      rintro e w9 ⟨rfl, hg9, hs9⟩
      rw [hY2.out]
      rw [hZ2.out] at hs9
      have hX9 := hX8.grown hg9 (by simp; omega)
      clear hs8 hX8
      go_wp2_with fail
      refine (take_any W1 g 32 32 Z2 w9 rfl (by decide) hs9).mono ?_
      rintro e w10 ⟨d, rfl, hg10, hs10, hr10⟩
      rw [hZ3.out] at hs10
      rw [hY3.out] at hr10
      have hX10 := hX9.grown hg10 (by simp; omega)
      obtain ⟨dA, dc, rfl, hf⟩ := id hr10
      clear hf hs9 hX9
      go_wp2_with (refine wpList_store_blk (n := 3) rfl rfl rfl rfl (by kernel_rfl) rfl hX10 (by simp) rfl ?_)
      intro w11 hX11 hg11
      go_wp2
      go_meet
      rw [HMR.out.1, HMR.out.2]
      refine ⟨nilC, nilC, nilC, _, nilC, nilC, nilC, hX11, ?_, hs10.step hg11 hXnew, (((hch0.new hg8 hin1).new hg9 hin1).new hg10 hin1).new hg11 hin2⟩
      have hn := RMsg.nils (View.from w11.cell? w7.heap.size)
      exact ⟨hn.txs, hn.bats, hn.pars, (hr10.mono (from_down (by have := hg8.size; have := hg9.size; omega))).mono (from_past hg11 (by omega)), hn.cbats, hn.cpars, hn.vots⟩
    · obtain ⟨⟨Ht, St⟩, hHt⟩ : ∃ p, Hid (hdrR S2 = p) := ⟨_, rfl⟩
      obtain ⟨N, hN⟩ : ∃ Y, Hid (nmV 1 St = Y) := ⟨_, rfl⟩
      have hN256 : N < 256 := by rw [← hN.out]; exact nmV_lt 1 St
      obtain ⟨s1, hs1'⟩ : ∃ Y, Hid (tkS 1 St = Y) := ⟨_, rfl⟩
      obtain ⟨X, hXX⟩ : ∃ X, Hid (it stepV N ([], s1) = X) := ⟨_, rfl⟩
      have HMR : Hid (MR = ⟨V1, V2, 4, bat0, hdr0, slt0, ⟨Ht, X.1⟩, 0⟩ ∧ SR = X.2) := by
        have h := hMR.out
        have hv : votsR St = X := by rw [← hXX.out, ← hN.out, ← hs1'.out]; rfl
        simp [bodR, crtR, hHt.out, hv] at h
        exact ⟨h.1.symm, h.2.symm⟩
      clear hMR hkl hkh
      go_wp2_with fail
      refine (readHdr_any W1 g S2 w7 hs7).mono ?_
      rintro e w8 ⟨vb, vp, rfl, hg8, hs8, hb8, hp8⟩
      rw [hHt.out] at hs8 hb8 hp8 ⊢
      have hX8 := hX7.grown hg8 (by simp; omega)
      obtain ⟨bA, bc, rfl, hf⟩ := id hb8
      clear hf
      obtain ⟨pA, pc, rfl, hf⟩ := id hp8
      clear hf hs7 hX7 x2
      go_wp2_with (refine wpList_store_blk (n := 4) rfl rfl rfl rfl (by kernel_rfl) rfl hX8 (by simp) rfl ?_)
      intro w9 hX9 hg9
      have hX9 : Blk w9 w2.heap.size 35 #[.int .i64 V1, .int .i64 V2, .int .i64 4, .int .i64 0, .int .i64 0, .slice none 0 0, .int .i64 0, .int .i64 0, .slice none 0 0, .slice none 0 0, .int .i64 0, .int .i64 0, .slice none 0 0, .int .i64 Ht.author, .int .i64 Ht.round, .slice bA Ht.batches.length bc, .slice pA Ht.parents.length pc, .slice none 0 0, .int .i64 0] := hX9
      have hs9 := hs8.step hg9 hXnew
      have hb9 := hb8.mono RDig.mono (from_past hg9 (by omega))
      have hp9 := hp8.mono RDig.mono (from_past hg9 (by omega))
      have hch9 := (hch0.new hg8 hin1).new hg9 hin2
      have hz9 := hch9.size
      clear hs8 hX8 hb8 hp8
      go_wp2_with fail
      refine (number_any W1 g 1 1 St w9 rfl (by decide) hs9).mono ?_
      rintro e w10 ⟨rfl, hg10, hs10⟩
      rw [hN.out]
      rw [hs1'.out] at hs10
      have hX10 := hX9.grown hg10 (by simp; omega)
      have hb10 := hb9.mono RDig.mono (from_past hg10 (by omega))
      have hp10 := hp9.mono RDig.mono (from_past hg10 (by omega))
      have hch10 := hch9.new hg10 hin1
      have hz10 := hch10.size
      clear hs9 hX9 hb9 hp9 hN hs1'
      go_wp2_with fail
      go_loopw [6] (fun i wr => ∃ (k : Nat) (z : Int) (p : List Int × RS) (v : Value), i = .int .i64 z ∧ Hid (z = (N : Int) - k) ∧ Hid (k ≤ N) ∧ 0 ≤ z ∧ z ≤ 255 ∧ Hid (it stepV k ([], s1) = p) ∧ Hid (p.1.length ≤ k) ∧ Blk wr w2.heap.size 35 #[.int .i64 V1, .int .i64 V2, .int .i64 4, .int .i64 0, .int .i64 0, .slice none 0 0, .int .i64 0, .int .i64 0, .slice none 0 0, .slice none 0 0, .int .i64 0, .int .i64 0, .slice none 0 0, .int .i64 Ht.author, .int .i64 Ht.round, .slice bA Ht.batches.length bc, .slice pA Ht.parents.length pc, v, .int .i64 0] ∧ OwnI wr w10.heap.size v p.1 ∧ RdS W1 wr g p.2 ∧ Chg [g, w2.heap.size] w10 wr) (fun i _ => (intOf i).toNat)
      case atStart => exact ⟨0, (N : Int), ([], s1), _, rfl, by show _ = _; omega, Nat.zero_le _, by omega, by omega, rfl, Nat.zero_le _, hX10, OwnVec.nil _ _ _ _, hs10, .of_below (Below.refl _ _) (Nat.le_refl _)⟩
      case round =>
        obtain ⟨k, z, p, v, rfl, hz, hkM, hz0, hz255, hp, hpl, hBx, hown, hsr, hch⟩ := hrel
        obtain ⟨acc, l, sh⟩ := p
        replace hown : OwnI wr w10.heap.size v acc := hown
        have done : (it stepV N ([], s1) = (acc, (l, sh))) → Hid (X = (acc, (l, sh))) := fun h => by show _ = _; rw [← hXX.out, h]
        obtain ⟨vr, hB, hrr⟩ := hsr.blk
        clear hrr
        have g1c := hB.cell 1
        simp at g1c
        have hzr := hch.size
        have hgB : Hid (g < w10.heap.size) := by show _ < _; omega
        by_cases hzp : 0 < z
        · cases sh
          · have hn : Hid (it stepV (k + 1) ([], s1) = (acc ++ [(nmV 1 (l, false) : Int)], tkS 1 (l, false))) := by
              show stepV (it stepV k ([], s1)) = _
              rw [hp.out]
              rfl
            obtain ⟨N1, hN1⟩ : ∃ N, Hid (nmV 1 (l, false) = N) := ⟨_, rfl⟩
            obtain ⟨Y, hY⟩ : ∃ Y, Hid (tkS 1 (l, false) = Y) := ⟨_, rfl⟩
            rw [hN1.out, hY.out] at hn
            have hacc : acc.length ≤ 255 := by have h1 : acc.length ≤ k := hpl.out; have h2 : k ≤ N := hkM.out; omega
            have Hacc := Lib.hid hacc
            clear done hp hacc
            obtain ⟨vA, vc, rfl⟩ := hown.form
            go_wp2_with fail
            refine wp_region_p2 (fun w' => Below wr.heap.size wr w') (fun w' => Blk w' w2.heap.size 35 #[.int .i64 V1, .int .i64 V2, .int .i64 4, .int .i64 0, .int .i64 0, .slice none 0 0, .int .i64 0, .int .i64 0, .slice none 0 0, .slice none 0 0, .int .i64 0, .int .i64 0, .slice none 0 0, .int .i64 Ht.author, .int .i64 Ht.round, .slice bA Ht.batches.length bc, .slice pA Ht.parents.length pc, .slice vA acc.length vc, .int .i64 0]) [7, 8, 9] (.q 0 (.q 1 (.q 2 (.q 3 (.l 4 (.l 5 (.l 6 (.qc 7 (.qc 8 (.l 9 .nil)))))))))) (by kernel_rfl) (by kernel_rfl) (fun _ _ d _ _ h => by cases d <;> exact h) rfl (by kernel_rfl) ?_ ?_
            · exact ⟨below_drew _, hBx.kept (below_drew _)⟩
            intro W' hS0 hS
            have hsr0 := hsr.kept hS0
            have hown0 := hown.kept hS0
            have hzW' := hS0.size
            clear hB g1c
            repeat (first
              | (refine pl_q (by assumption) rfl rfl ?_; apply Exists.intro; refine ⟨fun w' hS => ?_, ?_⟩; (· (have h17 := hS.cell 17; simp at h17; go_simp; exact rfl)); simp only [List.getElem_toArray, List.getElem_cons_zero, List.getElem_cons_succ, Act.put, List.setIfInBounds_toArray, List.set_cons_zero, List.set_cons_succ])
              | (refine pl_qc rfl rfl ?_; apply Exists.intro; refine ⟨fun w' _ => ?_, ?_⟩; (· (go_simp; exact rfl)); simp only [List.getElem_toArray, List.getElem_cons_zero, List.getElem_cons_succ, Act.put, List.setIfInBounds_toArray, List.set_cons_zero, List.set_cons_succ])
              | (refine pl_skip (by assumption) rfl rfl ?_; simp only [List.getElem_toArray, List.getElem_cons_zero, List.getElem_cons_succ, Act.put, List.setIfInBounds_toArray, List.set_cons_zero, List.set_cons_succ])
              | (refine pl_skipl (by assumption) rfl rfl ?_; simp only [List.getElem_toArray, List.getElem_cons_zero, List.getElem_cons_succ, Act.put, List.setIfInBounds_toArray, List.set_cons_zero, List.set_cons_succ]))
            first
              | refine pl_do rfl rfl (fun K hK => ?_)
              | refine op_do rfl rfl (fun K hK => ?_)
            try simp only [List.getElem_toArray, List.getElem_cons_zero, List.getElem_cons_succ]
            go_simp
            refine (number_any W1 g 1 1 (l, false) _ rfl (by decide) hsr0).mono ?_
            rintro e w11 ⟨rfl, hg11, hs11⟩
            rw [hN1.out]
            rw [hY.out] at hs11
            have hX11 := (hBx.kept hS0).grown hg11 (by simp; omega)
            have hown11 := hown0.grown hg11 hgB.out
            have hz11 := hg11.size
            refine hK.out _ _ (hX11) (fun hS => ?_)
            clear hK K
            try simp only [List.getElem_toArray, List.getElem_cons_zero, List.getElem_cons_succ, Act.put, List.setIfInBounds_toArray, List.set_cons_zero, List.set_cons_succ]
            first
              | refine pl_do rfl rfl (fun K hK => ?_)
              | refine op_do rfl rfl (fun K hK => ?_)
            try simp only [List.getElem_toArray, List.getElem_cons_zero, List.getElem_cons_succ]
            go_simp
            have hb12 := below_one w11 (.cells #[.int .i64 N1] 3)
            have hn12 : (w11.alloc (.cells #[.int .i64 N1] 3)).cell? ⟨w11.heap.size, 0, none⟩ = some (encI N1) := (Blk.new w11 3 #[.int .i64 N1]).cell 0
            have hX12 := hX11.kept hb12
            have hown12 := hown11.kept hb12
            have hs12 := hs11.kept hb12
            have hgw12 : wr.grownBy (w11.alloc (.cells #[.int .i64 N1] 3)) (some g) := grownBy_trans (grownBy_trans (grownBy_below _ hS0) hg11) (grownBy_below _ hb12)
            have hz12 := hgw12.size
            refine hK.out _ _ (hX12) (fun hS => ?_)
            clear hK K
            try simp only [List.getElem_toArray, List.getElem_cons_zero, List.getElem_cons_succ, Act.put, List.setIfInBounds_toArray, List.set_cons_zero, List.set_cons_succ]
            first
              | refine pl_do rfl rfl (fun K hK => ?_)
              | refine op_do rfl rfl (fun K hK => ?_)
            try simp only [List.getElem_toArray, List.getElem_cons_zero, List.getElem_cons_succ]
            have hlto := hown12.own.lt
            refine wp_append_at (n := 140737488355328) (ys := [(N1 : Int)]) elemI encI_one _ _ rfl rfl hown12 (by simp; omega) rfl (RVec.one (N1 : Int) hn12 (by decide)) (by decide) (by have := Hacc.out; simp; omega) (by have := Hacc.out; simp; omega) (fun v13 w13 ho13 hg13 hloc => ?_)
            clear hloc
            have hneo : ∀ q, (Value.slice vA acc.length vc).ownBlock = some q → w10.heap.size ≤ q := fun q hq => (hlto q hq).1
            have hX13 := hX12.grown hg13 (fun e => by have := hneo _ e.symm; omega)
            have hs13 := hs12.step hg13 (fun q hq => by have := hneo q hq; omega)
            obtain ⟨v13A, v13c, rfl⟩ := ho13.form
            refine hK.out _ _ (hX13) (fun hS => ?_)
            clear hK K
            try simp only [List.getElem_toArray, List.getElem_cons_zero, List.getElem_cons_succ, Act.put, List.setIfInBounds_toArray, List.set_cons_zero, List.set_cons_succ]
            repeat (first
              | (refine pl_q (by assumption) rfl rfl ?_; apply Exists.intro; refine ⟨fun w' hS => ?_, ?_⟩; (· (skip; go_simp; exact rfl)); simp only [List.getElem_toArray, List.getElem_cons_zero, List.getElem_cons_succ, Act.put, List.setIfInBounds_toArray, List.set_cons_zero, List.set_cons_succ])
              | (refine pl_qc rfl rfl ?_; apply Exists.intro; refine ⟨fun w' _ => ?_, ?_⟩; (· (go_simp; exact rfl)); simp only [List.getElem_toArray, List.getElem_cons_zero, List.getElem_cons_succ, Act.put, List.setIfInBounds_toArray, List.set_cons_zero, List.set_cons_succ])
              | (refine pl_skip (by assumption) rfl rfl ?_; simp only [List.getElem_toArray, List.getElem_cons_zero, List.getElem_cons_succ, Act.put, List.setIfInBounds_toArray, List.set_cons_zero, List.set_cons_succ])
              | (refine pl_skipl (by assumption) rfl rfl ?_; simp only [List.getElem_toArray, List.getElem_cons_zero, List.getElem_cons_succ, Act.put, List.setIfInBounds_toArray, List.set_cons_zero, List.set_cons_succ]))
            first
              | refine pl_close rfl rfl rfl (fun K hK => ?_)
              | refine op_close rfl rfl rfl (fun K hK => ?_)
            try simp only [List.getElem_toArray, List.getElem_cons_zero, List.getElem_cons_succ]
            refine wp_store_blk (n := 1) rfl rfl rfl (by kernel_rfl) rfl hX13 (by simp) rfl ?_
            intro w14 hX14 hg14
            have hX14 : Blk w14 w2.heap.size 35 #[.int .i64 V1, .int .i64 V2, .int .i64 4, .int .i64 0, .int .i64 0, .slice none 0 0, .int .i64 0, .int .i64 0, .slice none 0 0, .slice none 0 0, .int .i64 0, .int .i64 0, .slice none 0 0, .int .i64 Ht.author, .int .i64 Ht.round, .slice bA Ht.batches.length bc, .slice pA Ht.parents.length pc, .slice v13A (acc ++ [(N1 : Int)]).length v13c, .int .i64 0] := hX14
            have hs14 := hs13.step hg14 hXnew
            have ho14 := ho13.grown hg14 (by omega)
            have hch14 : Chg [g, w2.heap.size] w10 w14 := ((hch.new hgw12 (fun q hq => .inl (by injection hq with hq; subst hq; simp))).new hg13 (fun q hq => .inr (hneo q hq))).new hg14 (fun q hq => .inl (by injection hq with hq; subst hq; simp))
            have hzw : IntKind.i64.wrap (z - 1) = z - 1 := by rw [IntKind.wrap_i64]; omega
            refine hK.out _ _ ?_
            clear hK K
            try simp only [List.getElem_toArray, List.getElem_cons_zero, List.getElem_cons_succ, Act.put, List.setIfInBounds_toArray, List.set_cons_zero, List.set_cons_succ]
            refine pl_nil ?_
            go_wp2
            go_roundw
            case rel => exact ⟨k + 1, z - 1, (acc ++ [(N1 : Int)], Y), _, rfl, by show _ = _; have := hz.out; omega, by show _ ≤ _; have := hz.out; omega, by omega, by omega, hn, by show _ ≤ _; have := hpl.out; simp at this ⊢; omega, hX14, ho14, hs14, hch14⟩
            case measure => simp [intOf]; omega
          · have hX2 := done (by rw [it_stop hkM.out (by rw [hp.out]; rfl), hp.out])
            have hacc : acc.length ≤ 255 := by have h1 : acc.length ≤ k := hpl.out; have h2 : k ≤ N := hkM.out; omega
            have hrd := hown.from_ (bs := 8) (b0 := w7.heap.size) (by omega) hz10
            obtain ⟨oA, oc, rfl⟩ := hown.form
            have hle := vle_chg (B := w7.heap.size) hch (fun q hq => by simp at hq; rcases hq with rfl | rfl <;> omega)
            clear done hp hown
            go_wp2
            go_meet
            rw [HMR.out.1, HMR.out.2, hX2.out]
            refine ⟨nilC, nilC, nilC, nilC, .slice bA Ht.batches.length bc, .slice pA Ht.parents.length pc, .slice oA acc.length oc, hBx, ?_, hsr, hch10.trans hch⟩
            have hn := RMsg.nils (View.from wr.cell? w7.heap.size)
            exact ⟨hn.txs, hn.bats, hn.pars, hn.dig, hb10.mono RDig.mono hle, hp10.mono RDig.mono hle, hrd⟩
        · have hX2 := done (by rw [show N = k by have := hz.out; have := hkM.out; omega, hp.out])
          have hacc : acc.length ≤ 255 := by have h1 : acc.length ≤ k := hpl.out; have h2 : k ≤ N := hkM.out; omega
          have hrd := hown.from_ (bs := 8) (b0 := w7.heap.size) (by omega) hz10
          obtain ⟨oA, oc, rfl⟩ := hown.form
          have hle := vle_chg (B := w7.heap.size) hch (fun q hq => by simp at hq; rcases hq with rfl | rfl <;> omega)
          clear done hp hown
          go_wp2
          go_meet
          rw [HMR.out.1, HMR.out.2, hX2.out]
          refine ⟨nilC, nilC, nilC, nilC, .slice bA Ht.batches.length bc, .slice pA Ht.parents.length pc, .slice oA acc.length oc, hBx, ?_, hsr, hch10.trans hch⟩
          have hn := RMsg.nils (View.from wr.cell? w7.heap.size)
          exact ⟨hn.txs, hn.bats, hn.pars, hn.dig, hb10.mono RDig.mono hle, hp10.mono RDig.mono hle, hrd⟩
    · obtain ⟨Y1, hY1⟩ : ∃ Y, Hid (nmV 3 S2 = Y) := ⟨_, rfl⟩
      obtain ⟨Z1, hZ1⟩ : ∃ Y, Hid (tkS 3 S2 = Y) := ⟨_, rfl⟩
      have HMR : Hid (MR = ⟨V1, V2, 5, bat0, hdr0, slt0, crt0, Y1⟩ ∧ SR = Z1) := by
        have h := hMR.out
        simp [bodR, hY1.out, hZ1.out] at h
        exact ⟨h.1.symm, h.2.symm⟩
      clear hMR hkl hkh
      go_wp2_with fail
      refine (number_any W1 g 3 3 S2 w7 rfl (by decide) hs7).mono ?_
      rintro e w8 ⟨rfl, hg8, hs8⟩
      rw [hY1.out]
      rw [hZ1.out] at hs8
      have hX8 := hX7.grown hg8 (by simp; omega)
      clear hs7 hX7 x2
      go_wp2_with (refine wpList_store_blk (n := 1) rfl rfl rfl rfl (by kernel_rfl) rfl hX8 (by simp) rfl ?_)
      intro w9 hX9 hg9
      go_wp2
      go_meet
      rw [HMR.out.1, HMR.out.2]
      refine ⟨nilC, nilC, nilC, nilC, nilC, nilC, nilC, hX9, ?_, hs8.step hg9 hXnew, (hch0.new hg8 hin1).new hg9 hin2⟩
      have hn := RMsg.nils (View.from w9.cell? w7.heap.size)
      exact ⟨hn.txs, hn.bats, hn.pars, hn.dig, hn.cbats, hn.cpars, hn.vots⟩
  case rest =>
    obtain ⟨vt, vb, vp, vd, cb, cp, cv, hXc, hrc, hsc, hch⟩ := hcut
    obtain ⟨sl, sh⟩ := SR
    have hkc := hk7.chg hch (by simp; omega)
    have hblc : Below w.heap.size w wc := ⟨hch.os.trans hbl7.os, hch.tape.trans hbl7.tape, hch.output.trans hbl7.output, Nat.le_trans hbl7.size hch.size, fun i hi => (hch.block i (Nat.lt_of_lt_of_le hi hbl7.size) (by simp; omega)).trans (hbl7.block i hi)⟩
    have hzc := hblc.size
    have hz7 := hbl7.size
    obtain ⟨vr, hBc, hrr⟩ := hsc.blk
    obtain ⟨rA, rc, rfl, hf⟩ := id hrr
    have hBc : Blk wc g 78 #[.slice rA sl.length rc, .bool sh] := hBc
    have g0 := hBc.cell 0; have g1 := hBc.cell 1
    simp at g0 g1
    clear hf hrr hkl hkh hX7 hk7 hs7 x2 hMR
    have hlp2 : ¬ (b.length : Int) = 0 := by omega
    cases sh
    rotate_left
    · have HE5 : Hid (E = 5) := HE.out.trans (if_pos rfl)
      have HM5 : Hid (M = msg0) := by show _ = _; rw [HM.out, HE5.out]; rfl
      go_wp2_with (refine wpList_store_whole (n := 19) rfl rfl rfl rfl (by kernel_rfl) rfl hkc rfl rfl ?_)
      intro w8 hB8 hg8
      go_wp2
      refine bodyPost_ret (results_blk_tmp rfl rfl (by kernel_rfl) (by kernel_rfl) hB8 rfl) rfl ?_
      rw [HM5.out, HE5.out]
      exact ⟨nilC, nilC, nilC, nilC, nilC, nilC, nilC, rfl, below_grownBy hblc hblc.size hg8 (by intro k e; injection e; omega), RMsg.nils _⟩
    by_cases hleft : 0 < sl.length
    · have HE4 : Hid (E = 4) := by
        show _ = _
        rw [HE.out]
        exact (if_neg (by simp)).trans (if_pos hleft)
      have HM4 : Hid (M = msg0) := by show _ = _; rw [HM.out, HE4.out]; rfl
      have hle : (0 : Int) < sl.length := by omega
      go_wp2_with (refine wpList_store_whole (n := 19) rfl rfl rfl rfl (by kernel_rfl) rfl hkc rfl rfl ?_)
      intro w8 hB8 hg8
      go_wp2
      refine bodyPost_ret (results_blk_tmp rfl rfl (by kernel_rfl) (by kernel_rfl) hB8 rfl) rfl ?_
      rw [HM4.out, HE4.out]
      exact ⟨nilC, nilC, nilC, nilC, nilC, nilC, nilC, rfl, below_grownBy hblc hblc.size hg8 (by intro k e; injection e; omega), RMsg.nils _⟩
    have HE3 : Hid (E = msgF MR) := by
      show _ = _
      rw [HE.out]
      exact (if_neg (by simp)).trans (if_neg hleft)
    have hle : ¬ (0 : Int) < sl.length := by omega
    obtain ⟨F, hF⟩ : ∃ F, Hid (msgF MR = F) := ⟨_, rfl⟩
    have hEF : E = F := HE3.out.trans hF.out
    subst hEF
    clear HE HE3 hBc hsc
    unfold msgC at hXc
    obtain ⟨⟨tA, tc, rfl⟩, ⟨bA, bc, rfl⟩, ⟨pA, pc, rfl⟩, ⟨dA, dc, rfl⟩, ⟨cA, cc, rfl⟩, ⟨qA, qc, rfl⟩, ⟨vA, vc, rfl⟩⟩ := hrc.forms
    go_wp2_with (refine wpList_load_row rfl 35 _ rfl _ rfl _ _ _ _ hXc Try.underlying35 rfl (by kernel_rfl) ?_)
    refine (check_any MR _ _ _ _ _ _ _ _ (hrc.mono (View.from_le _ _)) hsmall.out).mono ?_
    rintro e w8 ⟨rfl, hb8⟩
    rw [hF.out]
    have hX8 := hXc.kept hb8
    have hk8 := hkc.kept hb8
    have hbl8 := hblc.trans (hb8.mono hzc)
    have hr8 := hrc.mono (vle_from _ (vle_below hb8))
    clear hXc hkc hrc g0 g1 hF
    by_cases h0 : E = 0
    · subst h0
      have HM0 : Hid (M = MR) := HM.out.trans (if_pos rfl)
      go_wp2_with (first | (refine wpList_load_row rfl 35 _ rfl _ rfl _ _ _ _ hX8 Try.underlying35 rfl (by kernel_rfl) ?_) | (refine wpList_store_whole (n := 19) rfl rfl rfl rfl (by kernel_rfl) rfl hk8 rfl rfl ?_))
      intro w9 hB9 hg9
      go_wp2
      refine bodyPost_ret (results_blk_tmp rfl rfl (by kernel_rfl) (by kernel_rfl) hB9 rfl) rfl ?_
      rw [HM0.out]
      exact ⟨_, _, _, _, _, _, _, rfl, below_grownBy hbl8 hbl8.size hg9 (by intro k e; injection e; omega), (hr8.mono (from_past hg9 (by omega))).mono (from_down hz7)⟩
    · have HM0 : Hid (M = msg0) := HM.out.trans (if_neg h0)
      go_wp2_with (refine wpList_store_whole (n := 19) rfl rfl rfl rfl (by kernel_rfl) rfl hk8 rfl rfl ?_)
      intro w9 hB9 hg9
      go_wp2
      refine bodyPost_ret (results_blk_tmp rfl rfl (by kernel_rfl) (by kernel_rfl) hB9 rfl) rfl ?_
      rw [HM0.out]
      exact ⟨nilC, nilC, nilC, nilC, nilC, nilC, nilC, rfl, below_grownBy hbl8 hbl8.size hg9 (by intro k e; injection e; omega), RMsg.nils _⟩
end Go.Proofs.Ytedealljhmokoaa

namespace Go.Proofs.Ytedealljhmokoaa
open Go.ChangeShapes Go.WideShapes Go.ChangeAt Go.RowKit
set_option linter.unusedVariables false
set_option linter.unusedSimpArgs false
theorem nmV_one {b : List UInt8} (h : 0 < b.length) : nmV 1 (b, false) = b[0].toNat := by
  cases b with
  | nil => simp at h
  | cons x b => simp [nmV, tkB, beN]
theorem inB_15 (V : Nat) : inB (V : Int) 1 5 = !decide (V < 1 ∨ 5 < V) := by
  unfold inB
  by_cases h : V < 1 ∨ 5 < V
  · rw [decide_eq_true h]; simp; omega
  · rw [decide_eq_false h]; simp; omega
/-- what the switch leaves -/
structure Left (w0 w7 w' : World) (g X : Nat) (b : List UInt8) (MR : Msg) (SR : RS) : Prop where
  left : ∃ m vt vb vp vd cb cp cv a', Blk w' X 35 (msgC m vt vb vp vd cb cp cv) ∧ RMsg (View.from w'.cell? w7.heap.size) m vt vb vp vd cb cp cv ∧ (∀ s ∈ m.bat.txs, s.size ≤ 140737488355328) ∧ a' ≤ 200000 ∧ SkS w0 w' g b a' SR ∧ Chg [g, X] w7 w' ∧ (SR.2 = false → m = MR)
set_option maxHeartbeats 4000000 in
set_option maxRecDepth 100000 in
theorem messageOf_any (v : Value) (b : List UInt8) (w : World) (hr : RBytes w.cell? v b) :
    Calls Try.prog 20 #[v] w fun e w' => ∃ vt vb vp vd cb cp cv, e = .returned (.tuple #[.agg (msgC (decM b) vt vb vp vd cb cp cv), .int .i64 (decE b)]) ∧ Below w.heap.size w w' ∧ RMsg (View.from w'.cell? w.heap.size) (decM b) vt vb vp vd cb cp cv := by
  obtain ⟨A, c, rfl, hf⟩ := id hr
  clear hf
  obtain ⟨M, hM⟩ : ∃ M, Hid (decM b = M) := ⟨_, rfl⟩
  obtain ⟨E, hE⟩ : ∃ E, Hid (decE b = E) := ⟨_, rfl⟩
  rw [hM.out, hE.out]
  go_enter Try.func20, Try.ntmps20
  go_upto_region 1 with fail
  refine one_block _ _ _ (fun W => Code.wp _ _ _ _ W) (fun W hk hszW hbW => ?_)
  have hzW : w.heap.size + 1 ≤ W.heap.size := by omega
  clear hszW
  by_cases hbig : (4000 : Int) < b.length
  · have HE : Hid (E = 1) := by show _ = _; rw [← hE.out]; unfold decE; rw [if_pos (by omega)]
    have HM : Hid (M = msg0) := by show _ = _; rw [← hM.out]; unfold decM; rw [if_neg (by rw [hE.out, HE.out]; decide)]
    go_wp2_with (refine wpList_store_whole (n := 19) rfl rfl rfl rfl (by kernel_rfl) rfl hk rfl rfl ?_)
    intro w8 hB8 hg8
    go_wp2
    refine bodyPost_ret (results_blk_tmp rfl rfl (by kernel_rfl) (by kernel_rfl) hB8 rfl) rfl ?_
    rw [HM.out, HE.out]
    exact ⟨nilC, nilC, nilC, nilC, nilC, nilC, nilC, rfl, below_grownBy hbW hbW.size hg8 (by intro k e; injection e; omega), RMsg.nils _⟩
  have hb4 : b.length ≤ 4000 := by omega
  by_cases hemp : b.length = 0
  · have HE : Hid (E = 5) := by show _ = _; rw [← hE.out]; unfold decE; rw [if_neg (by omega), if_pos hemp]
    have HM : Hid (M = msg0) := by show _ = _; rw [← hM.out]; unfold decM; rw [if_neg (by rw [hE.out, HE.out]; decide)]
    have hlz : (b.length : Int) = 0 := by omega
    go_wp2_with (refine wpList_store_whole (n := 19) rfl rfl rfl rfl (by kernel_rfl) rfl hk rfl rfl ?_)
    intro w8 hB8 hg8
    go_wp2
    refine bodyPost_ret (results_blk_tmp rfl rfl (by kernel_rfl) (by kernel_rfl) hB8 rfl) rfl ?_
    rw [HM.out, HE.out]
    exact ⟨nilC, nilC, nilC, nilC, nilC, nilC, nilC, rfl, below_grownBy hbW hbW.size hg8 (by intro k e; injection e; omega), RMsg.nils _⟩
  have hlz : ¬ (b.length : Int) = 0 := by omega
  have hlp : 0 < b.length := by omega
  have hlp' : (0 : Int) < b.length := by omega
  obtain ⟨b0, o0, rfl, e0⟩ : ∃ b0 o0, A = some ⟨b0, o0, none⟩ ∧ w.cell? ⟨b0, o0, none⟩ = some (.int .u8 b[0].toNat) := by
    obtain ⟨_, _, e, _, _, _, _, h⟩ := id hr
    injection e with e1 e2 e3
    subst e1 e3
    obtain ⟨b0, o0, ea, h1⟩ := h hlp
    exact ⟨b0, o0, ea, h1 0 hlp⟩
  obtain ⟨V0, hV0⟩ : ∃ V, Hid (nmV 1 (b, false) = V) := ⟨_, rfl⟩
  obtain ⟨S0, hS0⟩ : ∃ S, Hid (tkS 1 (b, false) = S) := ⟨_, rfl⟩
  rw [show b[0].toNat = V0 by rw [← hV0.out]; exact (nmV_one hlp).symm] at e0
  have c0 := vle_below hbW _ _ e0
  have hin := inB_15 V0
  have hV256 : V0 < 256 := by rw [← hV0.out]; exact nmV_lt 1 _
  have hwr : wrap64 (V0 : Int) = V0 := by unfold wrap64; omega
  by_cases hbad : V0 < 1 ∨ 5 < V0
  · have HE : Hid (E = 3) := by show _ = _; rw [← hE.out]; unfold decE; rw [hV0.out, if_neg (by omega), if_neg (by omega), if_pos hbad]
    have HM : Hid (M = msg0) := by show _ = _; rw [← hM.out]; unfold decM; rw [if_neg (by rw [hE.out, HE.out]; decide)]
    rw [decide_eq_true hbad] at hin
    replace hin : inB (V0 : Int) 1 5 = false := hin
    go_wp2_with (first | (go_at_call 46; refine (in_any _ _ _ _).mono ?_; rintro e w' ⟨rfl, rfl⟩) | (refine wpList_store_whole (n := 19) rfl rfl rfl rfl (by kernel_rfl) rfl hk rfl rfl ?_))
    intro w8 hB8 hg8
    go_wp2
    refine bodyPost_ret (results_blk_tmp rfl rfl (by kernel_rfl) (by kernel_rfl) hB8 rfl) rfl ?_
    rw [HM.out, HE.out]
    exact ⟨nilC, nilC, nilC, nilC, nilC, nilC, nilC, rfl, below_grownBy hbW hbW.size hg8 (by intro k e; injection e; omega), RMsg.nils _⟩
  rw [decide_eq_false hbad] at hin
  replace hin : inB (V0 : Int) 1 5 = true := hin
  go_upto_region 8 with (first | (go_at_call 46; refine (in_any _ _ _ _).mono ?_; rintro e w' ⟨rfl, rfl⟩) | fail)
  refine one_block _ _ _ (fun W => Code.wp _ _ _ _ W) (fun W1 hB hszB hbB => ?_)
  have hltB := hB.lt
  have hbB1 := hbW.trans (hbB.mono hbW.size)
  have hk1 := hk.kept hbB
  have hs1 : SkS W1 W1 W.heap.size b 0 (b, false) := ⟨⟨_, hB, hr.mono (vle_below_but hbB1 (by omega))⟩, SkR.start b, grownBy_below _ (Below.refl _ _), hltB⟩
  obtain ⟨g, hg⟩ : ∃ g, g = W.heap.size := ⟨_, rfl⟩
  rw [← hg] at hs1 hB hltB ⊢
  have hgl : w.heap.size + 1 ≤ g := by omega
  clear hszB hg hB c0 e0 hin hk
  have hn := Blk.new W1 35 #[.int .i64 0, .int .i64 0, .int .i64 0, .int .i64 0, .int .i64 0, .slice none 0 0, .int .i64 0, .int .i64 0, .slice none 0 0, .slice none 0 0, .int .i64 0, .int .i64 0, .slice none 0 0, .int .i64 0, .int .i64 0, .slice none 0 0, .slice none 0 0, .slice none 0 0, .int .i64 0]
  have hbn := below_one W1 (.cells #[.int .i64 0, .int .i64 0, .int .i64 0, .int .i64 0, .int .i64 0, .slice none 0 0, .int .i64 0, .int .i64 0, .slice none 0 0, .slice none 0 0, .int .i64 0, .int .i64 0, .slice none 0 0, .int .i64 0, .int .i64 0, .slice none 0 0, .slice none 0 0, .slice none 0 0, .int .i64 0] 35)
  go_wp2_with (refine wpList_store_whole (n := 19) rfl rfl rfl rfl (by kernel_rfl) rfl hn rfl rfl ?_)
  intro W3 hX hg3
  have hbX := below_grownBy hbn hbn.size hg3 (by intro k e; injection e; omega)
  have hltX := hX.lt
  obtain ⟨X, hXe⟩ : ∃ X, X = W1.heap.size := ⟨_, rfl⟩
  rw [← hXe] at hX hltX ⊢
  have hX1 : W1.heap.size ≤ X := by omega
  have hk3 := hk1.kept hbX
  have hs3 := hs1.kept hbX
  have hbl3 := hbB1.trans (hbX.mono hbB1.size)
  have hgX : g ≠ X := by omega
  have hXg : X ≠ g := by omega
  have hwX : w.heap.size ≠ X := by omega
  have hwg : w.heap.size ≠ g := by omega
  clear hn hbn hg3 hXe hk1 hs1
  have hkl : ¬ (V0 : Int) < 1 := by omega
  have hkh : ¬ (5 : Int) < V0 := by omega
  obtain ⟨V1, hV1⟩ : ∃ V, Hid (nmV 1 S0 = V) := ⟨_, rfl⟩
  obtain ⟨S1, hS1⟩ : ∃ S, Hid (tkS 1 S0 = S) := ⟨_, rfl⟩
  obtain ⟨V2, hV2⟩ : ∃ V, Hid (nmV 1 S1 = V) := ⟨_, rfl⟩
  obtain ⟨S2, hS2⟩ : ∃ S, Hid (tkS 1 S1 = S) := ⟨_, rfl⟩
  obtain ⟨⟨MR, SR⟩, hMR⟩ : ∃ p, Hid (bodR V1 V2 V0 S2 = p) := ⟨_, rfl⟩
  have HR : Hid (msgR b = (MR, SR)) := by show _ = _; rw [← hMR.out]; unfold msgR; rw [hS0.out, hS1.out, hS2.out, hV0.out, hV1.out, hV2.out]
  have HE : Hid (E = if SR.2 then 5 else if 0 < SR.1.length then 4 else msgF MR) := by
    show _ = _
    rw [← hE.out]
    unfold decE
    rw [hV0.out, HR.out, if_neg (by omega), if_neg (by omega), if_neg hbad]
  have HM : Hid (M = if E = 0 then MR else msg0) := by show _ = _; rw [← hM.out]; unfold decM; rw [hE.out, HR.out]
  clear HR hM hE
  have hXs : ∀ q, some X = some q → W1.heap.size ≤ q := fun q hq => by injection hq with hq; omega
  go_wp2_with fail
  refine (num_any W1 g (0) 1 1 b (b, false) W3 rfl (by decide) (by omega) hs3 hb4).mono ?_
  rintro e w4 ⟨rfl, hg4, hs4⟩
  rw [hV0.out]
  rw [hS0.out] at hs4
  have hX4 := hX.grown hg4 (by simp; omega)
  have hk4 := hk3.grown hg4 (by simp; omega)
  clear hs3 hX hk3
  go_wp2_with (refine wpList_store_blk (n := 1) rfl rfl rfl rfl (by kernel_rfl) rfl hX4 (by simp) rfl ?_)
  intro w5 hX5 hg5
  have hX5 : Blk w5 X 35 #[.int .i64 0, .int .i64 0, .int .i64 V0, .int .i64 0, .int .i64 0, .slice none 0 0, .int .i64 0, .int .i64 0, .slice none 0 0, .slice none 0 0, .int .i64 0, .int .i64 0, .slice none 0 0, .int .i64 0, .int .i64 0, .slice none 0 0, .slice none 0 0, .slice none 0 0, .int .i64 0] := hX5
  have hs5 := hs4.step hg5 hXs
  have hk5 := hk4.grown hg5 (by simp; omega)
  clear hs4 hX4 hk4
  go_wp2_with fail
  refine (num_any W1 g (0 + 1) 1 1 b S0 w5 rfl (by decide) (by omega) hs5 hb4).mono ?_
  rintro e w6 ⟨rfl, hg6, hs6⟩
  rw [hV1.out]
  rw [hS1.out] at hs6
  have hX6 := hX5.grown hg6 (by simp; omega)
  have hk6 := hk5.grown hg6 (by simp; omega)
  clear hs5 hX5 hk5
  go_wp2_with (refine wpList_store_blk (n := 1) rfl rfl rfl rfl (by kernel_rfl) rfl hX6 (by simp) rfl ?_)
  intro w7 hX7 hg7
  have hX7 : Blk w7 X 35 #[.int .i64 V1, .int .i64 0, .int .i64 V0, .int .i64 0, .int .i64 0, .slice none 0 0, .int .i64 0, .int .i64 0, .slice none 0 0, .slice none 0 0, .int .i64 0, .int .i64 0, .slice none 0 0, .int .i64 0, .int .i64 0, .slice none 0 0, .slice none 0 0, .slice none 0 0, .int .i64 0] := hX7
  have hs7 := hs6.step hg7 hXs
  have hk7 := hk6.grown hg7 (by simp; omega)
  clear hs6 hX6 hk6
  go_wp2_with fail
  refine (num_any W1 g (0 + 1 + 1) 1 1 b S1 w7 rfl (by decide) (by omega) hs7 hb4).mono ?_
  rintro e w8 ⟨rfl, hg8, hs8⟩
  rw [hV2.out]
  rw [hS2.out] at hs8
  have hX8 := hX7.grown hg8 (by simp; omega)
  have hk8 := hk7.grown hg8 (by simp; omega)
  clear hs7 hX7 hk7
  go_wp2_with (refine wpList_store_blk (n := 1) rfl rfl rfl rfl (by kernel_rfl) rfl hX8 (by simp) rfl ?_)
  intro w9 hX9 hg9
  have hX9 : Blk w9 X 35 #[.int .i64 V1, .int .i64 V2, .int .i64 V0, .int .i64 0, .int .i64 0, .slice none 0 0, .int .i64 0, .int .i64 0, .slice none 0 0, .slice none 0 0, .int .i64 0, .int .i64 0, .slice none 0 0, .int .i64 0, .int .i64 0, .slice none 0 0, .slice none 0 0, .slice none 0 0, .int .i64 0] := hX9
  have hs9 := hs8.step hg9 hXs
  have hk9 := hk8.grown hg9 (by simp; omega)
  have hz4 := hg4.size
  have hz5 := hg5.size
  have hz6 := hg6.size
  have hz7 := hg7.size
  have hz8 := hg8.size
  have hz9 := hg9.size
  have hz3 := hbl3.size
  have hgn : ∀ k, some g = some k → w.heap.size ≤ k := by intro k e; injection e; omega
  have hXn : ∀ k, some X = some k → w.heap.size ≤ k := by intro k e; injection e; omega
  have hbl9 : Below w.heap.size w w9 := below_grownBy (below_grownBy (below_grownBy (below_grownBy (below_grownBy (below_grownBy hbl3 (by omega) hg4 hgn) (by omega) hg5 hXn) (by omega) hg6 hgn) (by omega) hg7 hXn) (by omega) hg8 hgn) (by omega) hg9 hXn
  have x2 := hX9.cell 2
  simp at x2
  clear hs8 hX8 hk8 hg4 hg5 hg6 hg7 hg8 hg9 hS0 hS1 hS2 hV1 hV2
  go_upto_block 0 with fail
  go_cut [6, 7, 8, 9, 10, 11, 12, 43] (fun _ _ _ _ _ _ _ _ w' => Left W1 w9 w' g X b MR SR)
  case first =>
    have hch0 := Chg.refl [g, X] w9
    have hin1 : ∀ q, some g = some q → q ∈ [g, X] ∨ w9.heap.size ≤ q := fun q hq => .inl (by injection hq with hq; subst hq; simp)
    have hin2 : ∀ q, some X = some q → q ∈ [g, X] ∨ w9.heap.size ≤ q := fun q hq => .inl (by injection hq with hq; subst hq; simp)
    have hsm0 : ∀ s ∈ bat0.txs, s.size ≤ 140737488355328 := fun s hs => by cases hs
    have hltg9 : g < w9.heap.size := by omega
    have hltX9 := hX9.lt
    rcases (show V0 = 1 ∨ V0 = 2 ∨ V0 = 3 ∨ V0 = 4 ∨ V0 = 5 by omega) with rfl | rfl | rfl | rfl | rfl
    · obtain ⟨Y1, hY1⟩ : ∃ Y, Hid (nmV 1 S2 = Y) := ⟨_, rfl⟩
      obtain ⟨Z1, hZ1⟩ : ∃ Y, Hid (tkS 1 S2 = Y) := ⟨_, rfl⟩
      obtain ⟨Y2, hY2⟩ : ∃ Y, Hid (nmV 3 Z1 = Y) := ⟨_, rfl⟩
      obtain ⟨Z2, hZ2⟩ : ∃ Y, Hid (tkS 3 Z1 = Y) := ⟨_, rfl⟩
      obtain ⟨N, hN⟩ : ∃ Y, Hid (nmV 1 Z2 = Y) := ⟨_, rfl⟩
      have hN256 : N < 256 := by rw [← hN.out]; exact nmV_lt 1 Z2
      obtain ⟨s1, hs1'⟩ : ∃ Y, Hid (tkS 1 Z2 = Y) := ⟨_, rfl⟩
      obtain ⟨F, hXX⟩ : ∃ X, Hid (it stepT N ([], s1) = X) := ⟨_, rfl⟩
      have HMR : Hid (MR = ⟨V1, V2, 1, ⟨Y1, Y2, F.1⟩, hdr0, slt0, crt0, 0⟩ ∧ SR = F.2) := by
        have h := hMR.out
        have hv : txsR Z2 = F := by rw [← hXX.out, ← hN.out, ← hs1'.out]; rfl
        simp [bodR, batR, hY1.out, hZ1.out, hY2.out, hZ2.out, hv] at h
        exact ⟨h.1.symm, h.2.symm⟩
      clear hMR hkl hkh
      go_wp2_with fail
      refine (num_any W1 g (0 + 1 + 1 + 1) 1 1 b S2 w9 rfl (by decide) (by omega) hs9 hb4).mono ?_
      rintro e w10 ⟨rfl, hg10, hs10⟩
      rw [hY1.out]
      rw [hZ1.out] at hs10
      have hX10 := hX9.grown hg10 (by simp; omega)
      clear hs9 hX9 x2
      go_wp2_with (refine wpList_store_blk (n := 1) rfl rfl rfl rfl (by kernel_rfl) rfl hX10 (by simp) rfl ?_)
      intro w11 hX11 hg11
      have hs11 := hs10.step hg11 hXs
      clear hs10 hX10
      go_wp2_with fail
      refine (num_any W1 g (0 + 1 + 1 + 1 + 1) 3 3 b Z1 w11 rfl (by decide) (by omega) hs11 hb4).mono ?_
      rintro e w12 ⟨rfl, hg12, hs12⟩
      rw [hY2.out]
      rw [hZ2.out] at hs12
      have hX12 := hX11.grown hg12 (by simp; omega)
      clear hs11 hX11
      go_wp2_with (refine wpList_store_blk (n := 1) rfl rfl rfl rfl (by kernel_rfl) rfl hX12 (by simp) rfl ?_)
      intro w13 hX13 hg13
      have hX13 : Blk w13 X 35 #[.int .i64 V1, .int .i64 V2, .int .i64 1, .int .i64 Y1, .int .i64 Y2, .slice none 0 0, .int .i64 0, .int .i64 0, .slice none 0 0, .slice none 0 0, .int .i64 0, .int .i64 0, .slice none 0 0, .int .i64 0, .int .i64 0, .slice none 0 0, .slice none 0 0, .slice none 0 0, .int .i64 0] := hX13
      have hs13 := hs12.step hg13 hXs
      clear hs12 hX12
      go_wp2_with fail
      refine (num_any W1 g (0 + 1 + 1 + 1 + 1 + 3) 1 1 b Z2 w13 rfl (by decide) (by omega) hs13 hb4).mono ?_
      rintro e w14 ⟨rfl, hg14, hs14⟩
      rw [hN.out]
      rw [hs1'.out] at hs14
      have hX14 := hX13.grown hg14 (by simp; omega)
      have hch14 := ((((hch0.new hg10 hin1).new hg11 hin2).new hg12 hin1).new hg13 hin2).new hg14 hin1
      have hz14 := hch14.size
      clear hs13 hX13 hN hs1'
      go_wp2_with fail
      go_loopw [7, 8, 9] (fun i _ _ wr => ∃ (k a' : Nat) (p : List ByteArray × RS) (L : List ByteArray) (v : Value), i = .int .i64 k ∧ k ≤ N ∧ Hid (it stepT k ([], s1) = p) ∧ a' ≤ 8 + 256 * k ∧ L.length ≤ k ∧ Hid (p.2.2 = false → L = p.1) ∧ Hid (∀ s ∈ L, s.size ≤ 140737488355328) ∧ Blk wr X 35 #[.int .i64 V1, .int .i64 V2, .int .i64 1, .int .i64 Y1, .int .i64 Y2, v, .int .i64 0, .int .i64 0, .slice none 0 0, .slice none 0 0, .int .i64 0, .int .i64 0, .slice none 0 0, .int .i64 0, .int .i64 0, .slice none 0 0, .slice none 0 0, .slice none 0 0, .int .i64 0] ∧ OwnS wr w14.heap.size v L ∧ SkS W1 wr g b a' p.2 ∧ Chg [g, X] w14 wr) (fun i _ _ _ => N - (intOf i).toNat)
      case atStart => exact ⟨0, 8, ([], s1), [], _, rfl, Nat.zero_le _, rfl, by omega, Nat.zero_le _, fun _ => rfl, (by show ∀ s ∈ [], _; intro s hs; cases hs), hX14, OwnVec.nil _ _ _ _, hs14, .of_below (Below.refl _ _) (Nat.le_refl _)⟩
      case round =>
        obtain ⟨k, a', p, L, v, rfl, hkM, hp, ha', hLl, hpl, hLs, hBx, hown, hsr, hch⟩ := hrel
        obtain ⟨acc, l, sh⟩ := p
        have done : (it stepT N ([], s1) = (acc, (l, sh))) → Hid (F = (acc, (l, sh))) := fun h => by show _ = _; rw [← hXX.out, h]
        have hzr := hch.size
        have hgB : Hid (g < w14.heap.size) := by show _ < _; omega
        by_cases hzp : k < N
        · have hzp' : (k : Int) < (N : Int) := by omega
          go_wp2_with fail
          refine (over_any W1 g a' b (l, sh) wr hsr hb4).mono ?_
          rintro e w15 ⟨rfl, hb15⟩
          have hsr15 := hsr.kept hb15
          have hown15 := hown.kept hb15
          have hBx15 := hBx.kept hb15
          have hch15 : Chg [g, X] w14 w15 := hch.trans (.of_below hb15 (Nat.le_refl _))
          have hz15 := hb15.size
          clear hsr hown hBx hch
          cases sh
          · have hDa : Hid (L = acc) := hpl.out rfl
            have hn : Hid (it stepT (k + 1) ([], s1) = (acc ++ [bstr (tkB (nmV 1 (l, false)) (tkS 1 (l, false)))], tkS (nmV 1 (l, false)) (tkS 1 (l, false)))) := by
              show stepT (it stepT k ([], s1)) = _
              rw [hp.out]
              rfl
            obtain ⟨N1, hN1⟩ : ∃ N, Hid (nmV 1 (l, false) = N) := ⟨_, rfl⟩
            have hN1' : N1 < 256 := by rw [← hN1.out]; exact nmV_lt 1 (l, false)
            obtain ⟨Y, hY⟩ : ∃ Y, Hid (tkS 1 (l, false) = Y) := ⟨_, rfl⟩
            rw [hN1.out, hY.out] at hn
            clear done hp hpl
            go_wp2_with fail
            refine (num_any W1 g a' 1 1 b (l, false) w15 rfl (by decide) (by omega) hsr15 hb4).mono ?_
            rintro e w16 ⟨rfl, hg16, hs16⟩
            rw [hN1.out]
            rw [hY.out] at hs16
            have hBx16 := hBx15.grown hg16 (by simp; omega)
            have hown16 := hown15.grown hg16 hgB.out
            have hch16 := hch15.new hg16 (fun q hq => .inl (by injection hq with hq; subst hq; simp))
            have hz16 := hg16.size
            clear hsr15 hown15 hBx15
            go_wp2_with fail
            refine (next_any W1 g (a' + 1) N1 N1 b Y w16 rfl (by omega) (by omega) hs16 hb4).mono ?_
            rintro e w17 ⟨d, rfl, hg17, hs17, T, hr17, hT, _, hTl⟩
            have hpl2 : Hid ((tkS N1 Y).2 = false → L ++ [bstr T] = acc ++ [bstr (tkB N1 Y)]) := fun h => by rw [hDa.out, hT h]
            have hls2 : Hid (∀ s ∈ L ++ [bstr T], s.size ≤ 140737488355328) := fun s hs => by
              rcases List.mem_append.1 hs with h1 | h1
              · exact hLs.out s h1
              · rw [List.mem_singleton.1 h1, bstr_size]; omega
            have hBx17 := hBx16.grown hg17 (by simp; omega)
            have hown17 := hown16.grown hg17 hgB.out
            have hch17 := hch16.new hg17 (fun q hq => .inl (by injection hq with hq; subst hq; simp))
            have hz17 := hg17.size
            have hstr := run_toStr (hr17.mono (View.from_le _ _))
            obtain ⟨dA, dc, rfl, hfd⟩ := id hr17
            have hLb : Hid (L.length ≤ 255) := by show _ ≤ _; omega
            obtain ⟨vA, vc, rfl⟩ := hown17.form
            have hlto := hown17.own.lt
            have hneo : ∀ q, (Value.slice vA L.length vc).ownBlock = some q → w14.heap.size ≤ q := fun q hq => (hlto q hq).1
            have y5 := hBx17.cell 5
            simp at y5
            clear hfd hr17 hT hDa hLs hs16 hown16 hBx16
            go_wp2_with (at_builtin; refine wpList_append_vec1 (n := 140737488355328) (bstr T) elemStr encS_one _ _ rfl rfl rfl hown17 (W := w17) (Below.refl _ _) (by omega) rfl (Nat.le_refl _) (by have := hLb.out; omega) (by have := hLb.out; omega) ?_)
            intro v18 w18 ho18 _ hg18
            have hs18 := hs17.step hg18 (fun q hq => by have := hneo q hq; omega)
            have hBx18 := hBx17.grown hg18 (fun e => by have := hneo _ e.symm; omega)
            have hch18 := hch17.new hg18 (fun q hq => .inr (hneo q hq))
            obtain ⟨v18A, v18c, rfl⟩ := ho18.form
            clear hown17 hBx17 hs17 y5
            go_wp2_with (refine wpList_store_blk (n := 1) rfl rfl rfl rfl (by kernel_rfl) rfl hBx18 (by simp) rfl ?_)
            intro w19 hX19 hg19
            have hX19 : Blk w19 X 35 #[.int .i64 V1, .int .i64 V2, .int .i64 1, .int .i64 Y1, .int .i64 Y2, .slice v18A (L ++ [bstr T]).length v18c, .int .i64 0, .int .i64 0, .slice none 0 0, .slice none 0 0, .int .i64 0, .int .i64 0, .slice none 0 0, .int .i64 0, .int .i64 0, .slice none 0 0, .slice none 0 0, .slice none 0 0, .int .i64 0] := by rw [show (L ++ [bstr T]).length = L.length + 1 by simp]; exact hX19
            have hs19 := hs18.step hg19 hXs
            have ho19 := ho18.grown hg19 (by omega)
            have hch19 := hch18.new hg19 (fun q hq => .inl (by injection hq with hq; subst hq; simp))
            go_wp2
            go_roundw
            case rel => exact ⟨k + 1, a' + 1 + N1, (_, _), L ++ [bstr T], .slice v18A (L ++ [bstr T]).length v18c, by go_num, by omega, hn, by omega, by simp; omega, hpl2, hls2, hX19, ho19, hs19, hch19⟩
            case measure => simp [intOf]; omega
          · have hX2 := done (by rw [it_stop hkM (by rw [hp.out]; rfl), hp.out])
            have hrd := hown15.from_ (bs := 16) (b0 := w9.heap.size) (by omega) (by omega)
            have hr9 := hch14.trans hch15
            obtain ⟨oA, oc, rfl⟩ := hown15.form
            have hLs' := Lib.hid hLs.out
            clear done hp hown15
            go_wp2
            go_meet
            rw [HMR.out.1, HMR.out.2, hX2.out]
            refine ⟨⟨V1, V2, 1, ⟨Y1, Y2, L⟩, hdr0, slt0, crt0, 0⟩, .slice oA L.length oc, nilC, nilC, nilC, nilC, nilC, nilC, a', hBx15, ?_, hLs'.out, by omega, hsr15, hr9, fun h => ?_⟩
            · have hn := RMsg.nils (View.from w15.cell? w9.heap.size)
              exact ⟨hrd, hn.bats, hn.pars, hn.dig, hn.cbats, hn.cpars, hn.vots⟩
            · cases h
        · have hX2 := done (by rw [show N = k by omega, hp.out])
          have hzp' : ¬ (k : Int) < (N : Int) := by omega
          have hrd := hown.from_ (bs := 16) (b0 := w9.heap.size) (by omega) (by omega)
          have hr9 := hch14.trans hch
          obtain ⟨oA, oc, rfl⟩ := hown.form
          have hLs' := Lib.hid hLs.out
          clear done hp hown
          go_wp2
          go_meet
          rw [HMR.out.1, HMR.out.2, hX2.out]
          refine ⟨⟨V1, V2, 1, ⟨Y1, Y2, L⟩, hdr0, slt0, crt0, 0⟩, .slice oA L.length oc, nilC, nilC, nilC, nilC, nilC, nilC, a', hBx, ?_, hLs'.out, by omega, hsr, hr9, fun h => ?_⟩
          · have hn := RMsg.nils (View.from wr.cell? w9.heap.size)
            exact ⟨hrd, hn.bats, hn.pars, hn.dig, hn.cbats, hn.cpars, hn.vots⟩
          · rw [hpl.out h]
    · obtain ⟨⟨Ht, St⟩, hHt⟩ : ∃ p, Hid (hdrR S2 = p) := ⟨_, rfl⟩
      have HMR : Hid (MR = ⟨V1, V2, 2, bat0, Ht, slt0, crt0, 0⟩ ∧ SR = St) := by
        have h := hMR.out
        simp [bodR, hHt.out] at h
        exact ⟨h.1.symm, h.2.symm⟩
      clear hMR hkl hkh
      go_wp2_with fail
      refine (scanHdr_any W1 g (0 + 1 + 1 + 1) b S2 w9 (by omega) hs9 hb4).mono ?_
      rintro e w10 ⟨vb, vp, rfl, hg10, ⟨a', ha', hs10⟩, B, P, hB10, hP10, hBP⟩
      rw [hHt.out] at hs10 hBP ⊢
      have hBP := Lib.hid hBP
      have hX10 := hX9.grown hg10 (by simp; omega)
      obtain ⟨bA, bc, rfl, hf⟩ := id hB10
      clear hf
      obtain ⟨pA, pc, rfl, hf⟩ := id hP10
      clear hf hs9 hX9 x2
      go_wp2_with (refine wpList_store_blk (n := 4) rfl rfl rfl rfl (by kernel_rfl) rfl hX10 (by simp) rfl ?_)
      intro w11 hX11 hg11
      go_wp2
      go_meet
      rw [HMR.out.1, HMR.out.2]
      refine ⟨⟨V1, V2, 2, bat0, ⟨Ht.author, Ht.round, B, P⟩, slt0, crt0, 0⟩, nilC, _, _, nilC, nilC, nilC, nilC, a', hX11, ?_, hsm0, by omega, hs10.step hg11 hXs, (hch0.new hg10 hin1).new hg11 hin2, fun h => by rw [(hBP.out h).1, (hBP.out h).2]⟩
      have hn := RMsg.nils (View.from w11.cell? w9.heap.size)
      exact ⟨hn.txs, hB10.mono RDig.mono (from_past hg11 (by omega)), hP10.mono RDig.mono (from_past hg11 (by omega)), hn.dig, hn.cbats, hn.cpars, hn.vots⟩
    · obtain ⟨Y1, hY1⟩ : ∃ Y, Hid (nmV 1 S2 = Y) := ⟨_, rfl⟩
      obtain ⟨Z1, hZ1⟩ : ∃ Y, Hid (tkS 1 S2 = Y) := ⟨_, rfl⟩
      obtain ⟨Y2, hY2⟩ : ∃ Y, Hid (nmV 3 Z1 = Y) := ⟨_, rfl⟩
      obtain ⟨Z2, hZ2⟩ : ∃ Y, Hid (tkS 3 Z1 = Y) := ⟨_, rfl⟩
      obtain ⟨Y3, hY3⟩ : ∃ Y, Hid (tkB 32 Z2 = Y) := ⟨_, rfl⟩
      obtain ⟨Z3, hZ3⟩ : ∃ Y, Hid (tkS 32 Z2 = Y) := ⟨_, rfl⟩
      have HMR : Hid (MR = ⟨V1, V2, 3, bat0, hdr0, ⟨Y1, Y2, Y3⟩, crt0, 0⟩ ∧ SR = Z3) := by
        have h := hMR.out
        simp [bodR, sltR, hY1.out, hY2.out, hY3.out, hZ1.out, hZ2.out, hZ3.out] at h
        exact ⟨h.1.symm, h.2.symm⟩
      clear hMR hkl hkh
      go_wp2_with fail
      refine (num_any W1 g (0 + 1 + 1 + 1) 1 1 b S2 w9 rfl (by decide) (by omega) hs9 hb4).mono ?_
      rintro e w10 ⟨rfl, hg10, hs10⟩
      rw [hY1.out]
      rw [hZ1.out] at hs10
      have hX10 := hX9.grown hg10 (by simp; omega)
      clear hs9 hX9 x2
      go_wp2_with (refine wpList_store_blk (n := 1) rfl rfl rfl rfl (by kernel_rfl) rfl hX10 (by simp) rfl ?_)
      intro w11 hX11 hg11
      have hs11 := hs10.step hg11 hXs
      clear hs10 hX10
      go_wp2_with fail
      refine (num_any W1 g (0 + 1 + 1 + 1 + 1) 3 3 b Z1 w11 rfl (by decide) (by omega) hs11 hb4).mono ?_
      rintro e w12 ⟨rfl, hg12, hs12⟩
      rw [hY2.out]
      rw [hZ2.out] at hs12
      have hX12 := hX11.grown hg12 (by simp; omega)
      clear hs11 hX11
      go_wp2_with (refine wpList_store_blk (n := 1) rfl rfl rfl rfl (by kernel_rfl) rfl hX12 (by simp) rfl ?_)
      intro w13 hX13 hg13
      have hs13 := hs12.step hg13 hXs
      have hz10 := hg10.size
      have hz11 := hg11.size
      have hz12 := hg12.size
      have hz13 := hg13.size
      clear hs12 hX12
      go_wp2_with fail
      refine (next_any W1 g (0 + 1 + 1 + 1 + 1 + 3) 32 32 b Z2 w13 rfl (by decide) (by omega) hs13 hb4).mono ?_
      rintro e w14 ⟨d, rfl, hg14, hs14, T, hr14, hT, _, _⟩
      rw [hZ3.out] at hs14 hT
      rw [hY3.out] at hT
      have hT := Lib.hid hT
      have hX14 := hX13.grown hg14 (by simp; omega)
      obtain ⟨dA, dc, rfl, hf⟩ := id hr14
      clear hf hs13 hX13
      go_wp2_with (refine wpList_store_blk (n := 1) rfl rfl rfl rfl (by kernel_rfl) rfl hX14 (by simp) rfl ?_)
      intro w15 hX15 hg15
      go_wp2
      go_meet
      rw [HMR.out.1, HMR.out.2]
      refine ⟨⟨V1, V2, 3, bat0, hdr0, ⟨Y1, Y2, T⟩, crt0, 0⟩, nilC, nilC, nilC, _, nilC, nilC, nilC, _, hX15, ?_, hsm0, by omega, hs14.step hg15 hXs, (((((hch0.new hg10 hin1).new hg11 hin2).new hg12 hin1).new hg13 hin2).new hg14 hin1).new hg15 hin2, fun h => by rw [hT.out h]⟩
      have hn := RMsg.nils (View.from w15.cell? w9.heap.size)
      exact ⟨hn.txs, hn.bats, hn.pars, (hr14.mono (from_lower (by omega))).mono (from_past hg15 (by omega)), hn.cbats, hn.cpars, hn.vots⟩
    · obtain ⟨⟨Ht, St⟩, hHt⟩ : ∃ p, Hid (hdrR S2 = p) := ⟨_, rfl⟩
      obtain ⟨N, hN⟩ : ∃ Y, Hid (nmV 1 St = Y) := ⟨_, rfl⟩
      have hN256 : N < 256 := by rw [← hN.out]; exact nmV_lt 1 St
      obtain ⟨s1, hs1'⟩ : ∃ Y, Hid (tkS 1 St = Y) := ⟨_, rfl⟩
      obtain ⟨F, hXX⟩ : ∃ X, Hid (it stepV N ([], s1) = X) := ⟨_, rfl⟩
      have hv : votsR St = F := by rw [← hXX.out, ← hN.out, ← hs1'.out]; rfl
      have HMR : Hid (MR = ⟨V1, V2, 4, bat0, hdr0, slt0, ⟨Ht, F.1⟩, 0⟩ ∧ SR = F.2) := by
        have h := hMR.out
        simp [bodR, crtR, hHt.out, hv] at h
        exact ⟨h.1.symm, h.2.symm⟩
      have hmono : Hid (F.2.2 = false → St.2 = false) := fun h => votsR_mono (s := St) (by rw [hv]; exact h)
      clear hMR hkl hkh hv
      go_wp2_with fail
      refine (scanHdr_any W1 g (0 + 1 + 1 + 1) b S2 w9 (by omega) hs9 hb4).mono ?_
      rintro e w10 ⟨vb, vp, rfl, hg10, ⟨a1, ha1, hs10⟩, B, P, hB10, hP10, hBP⟩
      rw [hHt.out] at hs10 hBP ⊢
      have hBP := Lib.hid hBP
      have hX10 := hX9.grown hg10 (by simp; omega)
      obtain ⟨bA, bc, rfl, hf⟩ := id hB10
      clear hf
      obtain ⟨pA, pc, rfl, hf⟩ := id hP10
      clear hf hs9 hX9 x2
      go_wp2_with (refine wpList_store_blk (n := 4) rfl rfl rfl rfl (by kernel_rfl) rfl hX10 (by simp) rfl ?_)
      intro w11 hX11 hg11
      have hX11 : Blk w11 X 35 #[.int .i64 V1, .int .i64 V2, .int .i64 4, .int .i64 0, .int .i64 0, .slice none 0 0, .int .i64 0, .int .i64 0, .slice none 0 0, .slice none 0 0, .int .i64 0, .int .i64 0, .slice none 0 0, .int .i64 Ht.author, .int .i64 Ht.round, .slice bA B.length bc, .slice pA P.length pc, .slice none 0 0, .int .i64 0] := hX11
      have hs11 := hs10.step hg11 hXs
      have hB11 := hB10.mono RDig.mono (from_past hg11 (by omega))
      have hP11 := hP10.mono RDig.mono (from_past hg11 (by omega))
      clear hs10 hX10 hB10 hP10
      go_wp2_with fail
      refine (num_any W1 g (a1) 1 1 b St w11 rfl (by decide) (by omega) hs11 hb4).mono ?_
      rintro e w12 ⟨rfl, hg12, hs12⟩
      rw [hN.out]
      rw [hs1'.out] at hs12
      have hX12 := hX11.grown hg12 (by simp; omega)
      have hch12 := ((hch0.new hg10 hin1).new hg11 hin2).new hg12 hin1
      have hB12 := hB11.mono RDig.mono (from_past hg12 (by omega))
      have hP12 := hP11.mono RDig.mono (from_past hg12 (by omega))
      have hz12 := hch12.size
      clear hs11 hX11 hB11 hP11 hN hs1'
      go_wp2_with fail
      go_loopw [11, 12] (fun i _ wr => ∃ (k a' : Nat) (p : List Int × RS) (v : Value), i = .int .i64 k ∧ k ≤ N ∧ Hid (it stepV k ([], s1) = p) ∧ a' ≤ a1 + 1 + k ∧ Hid (p.1.length ≤ k) ∧ Blk wr X 35 #[.int .i64 V1, .int .i64 V2, .int .i64 4, .int .i64 0, .int .i64 0, .slice none 0 0, .int .i64 0, .int .i64 0, .slice none 0 0, .slice none 0 0, .int .i64 0, .int .i64 0, .slice none 0 0, .int .i64 Ht.author, .int .i64 Ht.round, .slice bA B.length bc, .slice pA P.length pc, v, .int .i64 0] ∧ OwnI wr w12.heap.size v p.1 ∧ SkS W1 wr g b a' p.2 ∧ Chg [g, X] w12 wr) (fun i _ _ => N - (intOf i).toNat)
      case atStart => exact ⟨0, a1 + 1, ([], s1), _, rfl, Nat.zero_le _, rfl, by omega, Nat.zero_le _, hX12, OwnVec.nil _ _ _ _, hs12, .of_below (Below.refl _ _) (Nat.le_refl _)⟩
      case round =>
        obtain ⟨k, a', p, v, rfl, hkM, hp, ha', hpl, hBx, hown, hsr, hch⟩ := hrel
        obtain ⟨acc, l, sh⟩ := p
        replace hown : OwnI wr w12.heap.size v acc := hown
        have done : (it stepV N ([], s1) = (acc, (l, sh))) → Hid (F = (acc, (l, sh))) := fun h => by show _ = _; rw [← hXX.out, h]
        have hzr := hch.size
        have hgB : Hid (g < w12.heap.size) := by show _ < _; omega
        have hal : Hid (acc.length ≤ 255) := by show _ ≤ _; have h : acc.length ≤ k := hpl.out; omega
        by_cases hzp : k < N
        · have hzp' : (k : Int) < (N : Int) := by omega
          go_wp2_with fail
          refine (over_any W1 g a' b (l, sh) wr hsr hb4).mono ?_
          rintro e w15 ⟨rfl, hb15⟩
          have hsr15 := hsr.kept hb15
          have hown15 := hown.kept hb15
          have hBx15 := hBx.kept hb15
          have hch15 : Chg [g, X] w12 w15 := hch.trans (.of_below hb15 (Nat.le_refl _))
          have hz15 := hb15.size
          clear hsr hown hBx hch
          cases sh
          · have hn : Hid (it stepV (k + 1) ([], s1) = (acc ++ [(nmV 1 (l, false) : Int)], tkS 1 (l, false))) := by
              show stepV (it stepV k ([], s1)) = _
              rw [hp.out]
              rfl
            obtain ⟨N1, hN1⟩ : ∃ N, Hid (nmV 1 (l, false) = N) := ⟨_, rfl⟩
            obtain ⟨Y, hY⟩ : ∃ Y, Hid (tkS 1 (l, false) = Y) := ⟨_, rfl⟩
            rw [hN1.out, hY.out] at hn
            clear done hp
            go_wp2_with fail
            refine (num_any W1 g a' 1 1 b (l, false) w15 rfl (by decide) (by omega) hsr15 hb4).mono ?_
            rintro e w16 ⟨rfl, hg16, hs16⟩
            rw [hN1.out]
            rw [hY.out] at hs16
            have hBx16 := hBx15.grown hg16 (by simp; omega)
            have hown16 := hown15.grown hg16 hgB.out
            have hch16 := hch15.new hg16 (fun q hq => .inl (by injection hq with hq; subst hq; simp))
            have hz16 := hg16.size
            obtain ⟨vA, vc, rfl⟩ := hown16.form
            have hlto := hown16.own.lt
            have hneo : ∀ q, (Value.slice vA acc.length vc).ownBlock = some q → w12.heap.size ≤ q := fun q hq => (hlto q hq).1
            have y17 := hBx16.cell 17
            simp at y17
            clear hsr15 hown15 hBx15
            go_wp2_with (at_builtin; refine wpList_append_vec1 (n := 140737488355328) (N1 : Int) elemI encI_one _ _ rfl rfl rfl hown16 (W := w16) (Below.refl _ _) (by omega) rfl (Nat.le_refl _) (by have := hal.out; omega) (by have := hal.out; omega) ?_)
            intro v18 w18 ho18 _ hg18
            have hs18 := hs16.step hg18 (fun q hq => by have := hneo q hq; omega)
            have hBx18 := hBx16.grown hg18 (fun e => by have := hneo _ e.symm; omega)
            have hch18 := hch16.new hg18 (fun q hq => .inr (hneo q hq))
            obtain ⟨v18A, v18c, rfl⟩ := ho18.form
            clear hown16 hBx16 hs16 y17
            go_wp2_with (refine wpList_store_blk (n := 1) rfl rfl rfl rfl (by kernel_rfl) rfl hBx18 (by simp) rfl ?_)
            intro w19 hX19 hg19
            have hX19 : Blk w19 X 35 #[.int .i64 V1, .int .i64 V2, .int .i64 4, .int .i64 0, .int .i64 0, .slice none 0 0, .int .i64 0, .int .i64 0, .slice none 0 0, .slice none 0 0, .int .i64 0, .int .i64 0, .slice none 0 0, .int .i64 Ht.author, .int .i64 Ht.round, .slice bA B.length bc, .slice pA P.length pc, .slice v18A (acc ++ [(N1 : Int)]).length v18c, .int .i64 0] := by rw [show (acc ++ [(N1 : Int)]).length = acc.length + 1 by simp]; exact hX19
            have hs19 := hs18.step hg19 hXs
            have ho19 := ho18.grown hg19 (by omega)
            have hch19 := hch18.new hg19 (fun q hq => .inl (by injection hq with hq; subst hq; simp))
            go_wp2
            go_roundw
            case rel => exact ⟨k + 1, a' + 1, (_, _), .slice v18A (acc ++ [(N1 : Int)]).length v18c, by go_num, by omega, hn, by omega, (by show _ ≤ _; have h : acc.length ≤ k := hpl.out; simp; omega), hX19, ho19, hs19, hch19⟩
            case measure => simp [intOf]; omega
          · have hX2 := done (by rw [it_stop hkM (by rw [hp.out]; rfl), hp.out])
            have hrd := hown15.from_ (bs := 8) (b0 := w9.heap.size) (by have := hal.out; omega) (by omega)
            have hr9 := hch12.trans hch15
            have hle := vle_chg (B := w9.heap.size) hch15 (fun q hq => by simp at hq; rcases hq with rfl | rfl <;> omega)
            obtain ⟨oA, oc, rfl⟩ := hown15.form
            clear done hp hown15
            go_wp2
            go_meet
            rw [HMR.out.1, HMR.out.2, hX2.out]
            refine ⟨⟨V1, V2, 4, bat0, hdr0, slt0, ⟨⟨Ht.author, Ht.round, B, P⟩, acc⟩, 0⟩, nilC, nilC, nilC, nilC, .slice bA B.length bc, .slice pA P.length pc, .slice oA acc.length oc, a', hBx15, ?_, hsm0, by omega, hsr15, hr9, fun h => ?_⟩
            · have hn := RMsg.nils (View.from w15.cell? w9.heap.size)
              exact ⟨hn.txs, hn.bats, hn.pars, hn.dig, hB12.mono RDig.mono hle, hP12.mono RDig.mono hle, hrd⟩
            · have h2 := hBP.out (hmono.out (by rw [hX2.out]; exact h))
              rw [h2.1, h2.2]
        · have hX2 := done (by rw [show N = k by omega, hp.out])
          have hzp' : ¬ (k : Int) < (N : Int) := by omega
          have hrd := hown.from_ (bs := 8) (b0 := w9.heap.size) (by have := hal.out; omega) (by omega)
          have hr9 := hch12.trans hch
          have hle := vle_chg (B := w9.heap.size) hch (fun q hq => by simp at hq; rcases hq with rfl | rfl <;> omega)
          obtain ⟨oA, oc, rfl⟩ := hown.form
          clear done hp hown
          go_wp2
          go_meet
          rw [HMR.out.1, HMR.out.2, hX2.out]
          refine ⟨⟨V1, V2, 4, bat0, hdr0, slt0, ⟨⟨Ht.author, Ht.round, B, P⟩, acc⟩, 0⟩, nilC, nilC, nilC, nilC, .slice bA B.length bc, .slice pA P.length pc, .slice oA acc.length oc, a', hBx, ?_, hsm0, by omega, hsr, hr9, fun h => ?_⟩
          · have hn := RMsg.nils (View.from wr.cell? w9.heap.size)
            exact ⟨hn.txs, hn.bats, hn.pars, hn.dig, hB12.mono RDig.mono hle, hP12.mono RDig.mono hle, hrd⟩
          · have h2 := hBP.out (hmono.out (by rw [hX2.out]; exact h))
            rw [h2.1, h2.2]
    · obtain ⟨Y1, hY1⟩ : ∃ Y, Hid (nmV 3 S2 = Y) := ⟨_, rfl⟩
      obtain ⟨Z1, hZ1⟩ : ∃ Y, Hid (tkS 3 S2 = Y) := ⟨_, rfl⟩
      have HMR : Hid (MR = ⟨V1, V2, 5, bat0, hdr0, slt0, crt0, Y1⟩ ∧ SR = Z1) := by
        have h := hMR.out
        simp [bodR, hY1.out, hZ1.out] at h
        exact ⟨h.1.symm, h.2.symm⟩
      clear hMR hkl hkh
      go_wp2_with fail
      refine (num_any W1 g (0 + 1 + 1 + 1) 3 3 b S2 w9 rfl (by decide) (by omega) hs9 hb4).mono ?_
      rintro e w10 ⟨rfl, hg10, hs10⟩
      rw [hY1.out]
      rw [hZ1.out] at hs10
      have hX10 := hX9.grown hg10 (by simp; omega)
      clear hs9 hX9 x2
      go_wp2_with (refine wpList_store_blk (n := 1) rfl rfl rfl rfl (by kernel_rfl) rfl hX10 (by simp) rfl ?_)
      intro w11 hX11 hg11
      go_wp2
      go_meet
      rw [HMR.out.1, HMR.out.2]
      refine ⟨⟨V1, V2, 5, bat0, hdr0, slt0, crt0, Y1⟩, nilC, nilC, nilC, nilC, nilC, nilC, nilC, _, hX11, ?_, hsm0, by omega, hs10.step hg11 hXs, (hch0.new hg10 hin1).new hg11 hin2, fun _ => rfl⟩
      have hn := RMsg.nils (View.from w11.cell? w9.heap.size)
      exact ⟨hn.txs, hn.bats, hn.pars, hn.dig, hn.cbats, hn.cpars, hn.vots⟩
  case rest =>
    obtain ⟨m, vt, vb, vp, vd, cb, cp, cv, a', hXc, hrc, hsm, ha', hsc, hch, hmR⟩ := hcut
    obtain ⟨sl, sh⟩ := SR
    have hkc := hk9.chg hch (by simp; omega)
    have hblc : Below w.heap.size w wc := ⟨hch.os.trans hbl9.os, hch.tape.trans hbl9.tape, hch.output.trans hbl9.output, Nat.le_trans hbl9.size hch.size, fun i hi => (hch.block i (Nat.lt_of_lt_of_le hi hbl9.size) (by simp; omega)).trans (hbl9.block i hi)⟩
    have hz9' := hbl9.size
    have hsm := Lib.hid hsm
    have hmR := Lib.hid hmR
    clear hkl hkh hX9 hk9 hs9 x2 hMR
    go_wp2_with fail
    refine (over_any W1 g a' b (sl, sh) wc hsc hb4).mono ?_
    rintro e w10 ⟨rfl, hb10⟩
    have hk10 := hkc.kept hb10
    have hX10 := hXc.kept hb10
    have hs10 := hsc.kept hb10
    have hbl10 := hblc.trans (hb10.mono hblc.size)
    have hr10 := hrc.mono (vle_from _ (vle_below hb10))
    clear hkc hXc hsc hrc
    cases sh
    rotate_left
    · have HE5 : Hid (E = 5) := HE.out.trans (if_pos rfl)
      have HM5 : Hid (M = msg0) := by show _ = _; rw [HM.out, HE5.out]; rfl
      go_wp2_with (refine wpList_store_whole (n := 19) rfl rfl rfl rfl (by kernel_rfl) rfl hk10 rfl rfl ?_)
      intro w8 hB8 hg8
      go_wp2
      refine bodyPost_ret (results_blk_tmp rfl rfl (by kernel_rfl) (by kernel_rfl) hB8 rfl) rfl ?_
      rw [HM5.out, HE5.out]
      exact ⟨nilC, nilC, nilC, nilC, nilC, nilC, nilC, rfl, below_grownBy hbl10 hbl10.size hg8 (by intro k e; injection e; omega), RMsg.nils _⟩
    have hmm : m = MR := hmR.out rfl
    subst hmm
    obtain ⟨⟨vs, hBs, _⟩, ⟨ho1, ho2⟩, _, _⟩ := hs10
    have hno : ¬ b.length < a' := by simpa using ho1.symm
    have hsl : sl = b.drop a' := ho2 rfl
    have hsl2 : Hid (sl.length = b.length - a') := by show _ = _; rw [hsl]; simp
    clear hsl ho1 ho2
    have y1 := hBs.cell 1
    simp at y1
    by_cases hleft : a' < b.length
    · have HE4 : Hid (E = 4) := by
        show _ = _
        rw [HE.out]
        exact (if_neg (by simp)).trans (if_pos (by show 0 < sl.length; rw [hsl2.out]; omega))
      have HM4 : Hid (M = msg0) := by show _ = _; rw [HM.out, HE4.out]; rfl
      have hle : (a' : Int) < b.length := by omega
      go_wp2_with (refine wpList_store_whole (n := 19) rfl rfl rfl rfl (by kernel_rfl) rfl hk10 rfl rfl ?_)
      intro w8 hB8 hg8
      go_wp2
      refine bodyPost_ret (results_blk_tmp rfl rfl (by kernel_rfl) (by kernel_rfl) hB8 rfl) rfl ?_
      rw [HM4.out, HE4.out]
      exact ⟨nilC, nilC, nilC, nilC, nilC, nilC, nilC, rfl, below_grownBy hbl10 hbl10.size hg8 (by intro k e; injection e; omega), RMsg.nils _⟩
    have HE3 : Hid (E = msgF m) := by
      show _ = _
      rw [HE.out]
      exact (if_neg (by simp)).trans (if_neg (by show ¬ 0 < sl.length; rw [hsl2.out]; omega))
    have hle : ¬ (a' : Int) < b.length := by omega
    obtain ⟨F, hF⟩ : ∃ F, Hid (msgF m = F) := ⟨_, rfl⟩
    have hEF : E = F := HE3.out.trans hF.out
    subst hEF
    clear HE HE3 hBs
    unfold msgC at hX10
    obtain ⟨⟨tA, tc, rfl⟩, ⟨bA, bc, rfl⟩, ⟨pA, pc, rfl⟩, ⟨dA, dc, rfl⟩, ⟨cA, cc, rfl⟩, ⟨qA, qc, rfl⟩, ⟨vA, vc, rfl⟩⟩ := hr10.forms
    go_wp2_with (refine wpList_load_row rfl 35 _ rfl _ rfl _ _ _ _ hX10 Try.underlying35 rfl (by kernel_rfl) ?_)
    refine (messageFault_any m _ _ _ _ _ _ _ _ (hr10.mono (View.from_le _ _)) hsm.out).mono ?_
    rintro e w11 ⟨rfl, hb11⟩
    rw [hF.out]
    have hX11 := hX10.kept hb11
    have hk11 := hk10.kept hb11
    have hbl11 := hbl10.trans (hb11.mono hbl10.size)
    have hr11 := hr10.mono (vle_from _ (vle_below hb11))
    clear hX10 hk10 hr10 y1 hF
    by_cases h0 : E = 0
    · subst h0
      have HM0 : Hid (M = m) := HM.out.trans (if_pos rfl)
      go_wp2_with (first | (refine wpList_load_row rfl 35 _ rfl _ rfl _ _ _ _ hX11 Try.underlying35 rfl (by kernel_rfl) ?_) | (refine wpList_store_whole (n := 19) rfl rfl rfl rfl (by kernel_rfl) rfl hk11 rfl rfl ?_))
      intro w12 hB12 hg12
      go_wp2
      refine bodyPost_ret (results_blk_tmp rfl rfl (by kernel_rfl) (by kernel_rfl) hB12 rfl) rfl ?_
      rw [HM0.out]
      exact ⟨_, _, _, _, _, _, _, rfl, below_grownBy hbl11 hbl11.size hg12 (by intro k e; injection e; omega), (hr11.mono (from_past hg12 (by omega))).mono (from_lower hz9')⟩
    · have HM0 : Hid (M = msg0) := HM.out.trans (if_neg h0)
      go_wp2_with (refine wpList_store_whole (n := 19) rfl rfl rfl rfl (by kernel_rfl) rfl hk11 rfl rfl ?_)
      intro w12 hB12 hg12
      go_wp2
      refine bodyPost_ret (results_blk_tmp rfl rfl (by kernel_rfl) (by kernel_rfl) hB12 rfl) rfl ?_
      rw [HM0.out]
      exact ⟨nilC, nilC, nilC, nilC, nilC, nilC, nilC, rfl, below_grownBy hbl11 hbl11.size hg12 (by intro k e; injection e; omega), RMsg.nils _⟩
end Go.Proofs.Ytedealljhmokoaa

namespace Go.Proofs.Ytedealljhmokoaa
open Go.ChangeShapes Go.WideShapes Go.ChangeAt Go.RowKit
set_option linter.unusedVariables false
set_option maxHeartbeats 1000000 in
set_option maxRecDepth 100000 in
theorem tapes_any (nx : Int) (v : Value) (l : List UInt8) (w : World) (hd : RBytes w.cell? v l) :
    Calls Try.prog 14 #[.agg #[v, .int .i64 nx]] w fun e w' => ∃ d', e = .returned (.agg #[d', .int .i64 nx]) ∧ Below w.heap.size w w' ∧ OwnB w' w.heap.size d' l := by
  go_enter Try.func14, Try.ntmps14
  go_wp2
  refine two_blocks _ _ _ _ _ (fun W => (Code.region _ _ _).wp _ _ _ W) (fun W hb1 hb2 hsz hbl => ?_)
  have hd1 := hd.below_but hbl (Nat.le_succ _)
  refine wp_region_plan (fun w' => W.grownBy w' (some (w.heap.size + 1)) ∧ ∃ cs, Blk w' (w.heap.size + 1) 44 cs ∧ cs.size = 2) [(0, true), (1, true), (3, true), (4, true), (2, false), (5, true), (6, false)] (by kernel_rfl) (by kernel_rfl) (fun _ _ d _ _ h => by cases d <;> exact h) rfl (by kernel_rfl) ?_ ?_
  · exact ⟨grownBy_drew _ _, _, hb2, rfl⟩
  intro W1 hS1
  repeat (first
    | (refine wpPlan_takes rfl rfl ?_; apply Exists.intro; refine ⟨fun w' hS => ?_, ?_⟩; (· (have hq := hb1.grown hS.1 (by simp); have h0 := hq.cell 0; have h1 := hq.cell 1; simp at h0 h1; go_simp; exact rfl)); simp only [List.getElem_toArray, List.getElem_cons_zero, List.getElem_cons_succ, Act.put, List.setIfInBounds_toArray, List.set_cons_zero, List.set_cons_succ])
    | (refine wpPlan_skip (by assumption) rfl rfl ?_; simp only [List.getElem_toArray, List.getElem_cons_zero, List.getElem_cons_succ, Act.put, List.setIfInBounds_toArray, List.set_cons_zero, List.set_cons_succ]))
  refine wpPlan_do rfl rfl (fun K hK => ?_)
  try simp only [List.getElem_toArray, List.getElem_cons_zero, List.getElem_cons_succ]
  go_simp
  obtain ⟨hg1, cs, hc, hcs⟩ := hS1
  refine (octets_any _ _ _ (hd1.mono (vle_grown hg1))).mono ?_
  rintro e w1 ⟨d', rfl, hj, hown⟩
  obtain ⟨A', c', rfl⟩ := hown.form
  refine hK.out _ _ (⟨grownBy_trans hg1 (grownBy_below _ hj), _, hc.kept hj, hcs⟩) (fun hS => ?_)
  clear hK K
  try simp only [List.getElem_toArray, List.getElem_cons_zero, List.getElem_cons_succ, Act.put, List.setIfInBounds_toArray, List.set_cons_zero, List.set_cons_succ]
  repeat (first
    | (refine wpPlan_takes rfl rfl ?_; apply Exists.intro; refine ⟨fun w' hS => ?_, ?_⟩; (· (have hq := hb1.grown hS.1 (by simp); have h0 := hq.cell 0; have h1 := hq.cell 1; simp at h0 h1; go_simp; exact rfl)); simp only [List.getElem_toArray, List.getElem_cons_zero, List.getElem_cons_succ, Act.put, List.setIfInBounds_toArray, List.set_cons_zero, List.set_cons_succ])
    | (refine wpPlan_skip (by assumption) rfl rfl ?_; simp only [List.getElem_toArray, List.getElem_cons_zero, List.getElem_cons_succ, Act.put, List.setIfInBounds_toArray, List.set_cons_zero, List.set_cons_succ]))
  refine wpPlan_do rfl rfl (fun K hK => ?_)
  try simp only [List.getElem_toArray, List.getElem_cons_zero, List.getElem_cons_succ]
  refine wp_store_whole rfl rfl rfl (n := 2) (by kernel_rfl) rfl (hc.kept hj) hcs rfl ?_
  intro w2 hb3 hg
  have hsz1 := hg1.size
  refine hK.out _ _ (⟨grownBy_trans hS.1 hg, _, hb3, rfl⟩) (fun hS => ?_)
  clear hK K
  try simp only [List.getElem_toArray, List.getElem_cons_zero, List.getElem_cons_succ, Act.put, List.setIfInBounds_toArray, List.set_cons_zero, List.set_cons_succ]
  refine wpPlan_nil ?_
  go_wp2
  refine bodyPost_ret (results_blk rfl rfl (by kernel_rfl) (by kernel_rfl) hb3 rfl) rfl ?_
  have hA := below_grownBy (B := w.heap.size) hbl (by omega) (grownBy_trans (grownBy_trans hg1 (grownBy_below _ hj)) hg) (fun k e => by injection e; omega)
  exact ⟨_, rfl, hA, (hown.grown hg (by omega)).base (by omega)⟩

def tapeMay (l : List UInt8) (a : Int) : Bool := decide (0 ≤ a ∧ a ≤ l.length ∧ l.length ≤ 400000)
theorem below_two (w : World) (o1 o2 : Obj) : Below w.heap.size w ((w.alloc o1).alloc o2) := ((Below.refl _ _).alloc (Nat.le_refl _) _).alloc (le_alloc _ (Nat.le_refl _)) _
set_option maxHeartbeats 1000000 in
set_option maxRecDepth 100000 in
theorem open_no (a : Int) (A : Option Addr) (c : Nat) (l : List UInt8) (w : World) (hl : l.length ≤ 140737488355328) (hm : tapeMay l a = false) :
    Calls Try.prog 40 #[.agg #[.slice A l.length c, .int .i64 a]] w fun e w' => e = .returned (.tuple #[.agg #[.slice none 0 0, .int .i64 0], .bool false]) ∧ Below w.heap.size w w' := by
  have Hm := Lib.hid hm
  clear hm
  by_cases h1 : a < 0
  rotate_left
  by_cases h2 : (l.length : Int) < a
  rotate_left
  have h3 : 400000 < l.length := by have := Hm.out; simp [tapeMay] at this; omega
  all_goals
    go_enter Try.func40, Try.ntmps40
    go_wp2
    refine bodyPost_ret (v := .tuple #[.agg #[.slice none 0 0, .int .i64 0], .bool false]) (by simp [results, Try.results40, go_sem]) rfl ⟨rfl, ?_⟩
    exact below_two _ _ _
set_option maxHeartbeats 1000000 in
set_option maxRecDepth 100000 in
theorem open_yes (a : Int) (v : Value) (l : List UInt8) (w : World) (hv : RBytes w.cell? v l) (hm : tapeMay l a = true) :
    Calls Try.prog 40 #[.agg #[v, .int .i64 a]] w fun e w' => ∃ d, e = .returned (.tuple #[.agg #[d, .int .i64 a], .bool true]) ∧ Below w.heap.size w w' ∧ OwnB w' w.heap.size d l := by
  have Hm : 0 ≤ a ∧ a ≤ l.length ∧ l.length ≤ 400000 := by simpa [tapeMay] using hm
  obtain ⟨m1, m2, m3⟩ := Hm
  clear hm
  obtain ⟨A, c, rfl, _⟩ := id hv
  go_enter Try.func40, Try.ntmps40
  go_wp2
  refine two_blocks _ _ _ _ _ (fun W => (Code.region _ _ _).wp _ _ _ W) (fun W hb1 hb2 hsz hbl => ?_)
  have hd1 := hv.below_but hbl (Nat.le_succ _)
  refine wp_region_plan (fun w' => W.grownBy w' (some (w.heap.size + 1)) ∧ ∃ cs, Blk w' (w.heap.size + 1) 44 cs ∧ cs.size = 2) [(0, true), (1, true), (3, true), (4, true), (2, false), (5, true), (6, false), (7, true)] (by kernel_rfl) (by kernel_rfl) (fun _ _ d _ _ h => by cases d <;> exact h) rfl (by kernel_rfl) ?_ ?_
  · exact ⟨grownBy_drew _ _, _, hb2, rfl⟩
  intro W1 hS1
  repeat (first
    | (refine wpPlan_takes rfl rfl ?_; apply Exists.intro; refine ⟨fun w' hS => ?_, ?_⟩; (· (have hq := hb1.grown hS.1 (by simp); have h0 := hq.cell 0; have h1 := hq.cell 1; simp at h0 h1; go_simp; exact rfl)); simp only [List.getElem_toArray, List.getElem_cons_zero, List.getElem_cons_succ, Act.put, List.setIfInBounds_toArray, List.set_cons_zero, List.set_cons_succ])
    | (refine wpPlan_skip (by assumption) rfl rfl ?_; simp only [List.getElem_toArray, List.getElem_cons_zero, List.getElem_cons_succ, Act.put, List.setIfInBounds_toArray, List.set_cons_zero, List.set_cons_succ]))
  refine wpPlan_do rfl rfl (fun K hK => ?_)
  try simp only [List.getElem_toArray, List.getElem_cons_zero, List.getElem_cons_succ]
  go_simp
  obtain ⟨hg1, cs, hc, hcs⟩ := hS1
  refine (cloneB_any _ _ _ (hd1.mono (vle_grown hg1))).mono ?_
  rintro e w1 ⟨d', rfl, hj, hown⟩
  obtain ⟨A', c', rfl⟩ := hown.form
  refine hK.out _ _ (⟨grownBy_trans hg1 (grownBy_below _ hj), _, hc.kept hj, hcs⟩) (fun hS => ?_)
  clear hK K
  try simp only [List.getElem_toArray, List.getElem_cons_zero, List.getElem_cons_succ, Act.put, List.setIfInBounds_toArray, List.set_cons_zero, List.set_cons_succ]
  repeat (first
    | (refine wpPlan_takes rfl rfl ?_; apply Exists.intro; refine ⟨fun w' hS => ?_, ?_⟩; (· (have hq := hb1.grown hS.1 (by simp); have h0 := hq.cell 0; have h1 := hq.cell 1; simp at h0 h1; go_simp; exact rfl)); simp only [List.getElem_toArray, List.getElem_cons_zero, List.getElem_cons_succ, Act.put, List.setIfInBounds_toArray, List.set_cons_zero, List.set_cons_succ])
    | (refine wpPlan_skip (by assumption) rfl rfl ?_; simp only [List.getElem_toArray, List.getElem_cons_zero, List.getElem_cons_succ, Act.put, List.setIfInBounds_toArray, List.set_cons_zero, List.set_cons_succ]))
  refine wpPlan_do rfl rfl (fun K hK => ?_)
  try simp only [List.getElem_toArray, List.getElem_cons_zero, List.getElem_cons_succ]
  refine wp_store_whole rfl rfl rfl (n := 2) (by kernel_rfl) rfl (hc.kept hj) hcs rfl ?_
  intro w2 hb3 hg
  have hsz1 := hg1.size
  refine hK.out _ _ (⟨grownBy_trans hS.1 hg, _, hb3, rfl⟩) (fun hS => ?_)
  clear hK K
  try simp only [List.getElem_toArray, List.getElem_cons_zero, List.getElem_cons_succ, Act.put, List.setIfInBounds_toArray, List.set_cons_zero, List.set_cons_succ]
  repeat (first
    | (refine wpPlan_takes rfl rfl ?_; apply Exists.intro; refine ⟨fun w' hS => ?_, ?_⟩; (· (skip; go_simp; exact rfl)); simp only [List.getElem_toArray, List.getElem_cons_zero, List.getElem_cons_succ, Act.put, List.setIfInBounds_toArray, List.set_cons_zero, List.set_cons_succ])
    | (refine wpPlan_skip (by assumption) rfl rfl ?_; simp only [List.getElem_toArray, List.getElem_cons_zero, List.getElem_cons_succ, Act.put, List.setIfInBounds_toArray, List.set_cons_zero, List.set_cons_succ]))
  refine wpPlan_nil ?_
  go_wp2
  refine bodyPost_ret (results_blk_tmp rfl rfl (by kernel_rfl) (by kernel_rfl) hb3 rfl) rfl ?_
  have hA := below_grownBy (B := w.heap.size) hbl (by omega) (grownBy_trans (grownBy_trans hg1 (grownBy_below _ hj)) hg) (fun k e => by injection e; omega)
  exact ⟨_, rfl, hA, (hown.grown hg (by omega)).base (by omega)⟩
set_option maxHeartbeats 1000000 in
set_option maxRecDepth 100000 in
theorem tapeMay_any (a : Int) (A : Option Addr) (c : Nat) (l : List UInt8) (w : World) (hl : l.length ≤ 140737488355328) :
    Calls Try.prog 41 #[.agg #[.slice A l.length c, .int .i64 a]] w fun e w' => e = .returned (.bool (tapeMay l a)) ∧ Below w.heap.size w w' := by
  have Hq : Hid (tapeMay l a = decide (0 ≤ a ∧ a ≤ l.length ∧ l.length ≤ 400000)) := rfl
  by_cases h1 : l.length ≤ 400000 <;> cases h2 : inB a 0 l.length
  all_goals
    go_enter Try.func41, Try.ntmps41
    go_wp2_with (go_at_call 46; refine (in_any _ _ _ _).mono ?_; rintro e w' ⟨rfl, rfl⟩)
    go_ret
    exact ⟨ret_bool (by rw [Hq.out]; simp [inB] at h2; simp; omega), (Below.refl _ _).alloc (Nat.le_refl _) _⟩
/-- what a call leaves that makes memory, for the caller's own blocks -/
theorem keep_blk {w w1 : World} {g : Nat} {t : TypeId} {cs : Array Value} (h : Blk w g t cs) (hb : Below w.heap.size w w1) : Blk w1 g t cs := h.kept hb
set_option maxHeartbeats 1000000 in
set_option maxRecDepth 100000 in
theorem sameTape_any (va vb : Value) (la lb : List UInt8) (a b : Int) (w : World) (ha : RBytes w.cell? va la) (hb : RBytes w.cell? vb lb) :
    Calls Try.prog 17 #[.agg #[va, .int .i64 a], .agg #[vb, .int .i64 b]] w fun e w' => e = .returned (.bool (a == b && la == lb)) ∧ Below w.heap.size w w' := by
  have ga := run_toStr (ha.mono (vle_below (below_two w (.cells #[va, .int .i64 a] 44) (.cells #[vb, .int .i64 b] 44))))
  have gb := run_toStr (hb.mono (vle_below (below_two w (.cells #[va, .int .i64 a] 44) (.cells #[vb, .int .i64 b] 44))))
  have He := Lib.hid (bstr_eq la lb)
  clear ha hb
  cases h : (a == b)
  all_goals
    go_enter Try.func17, Try.ntmps17
    go_wp2
    go_ret
    exact ⟨ret_bool (by simp [He.out]), below_two _ _ _⟩
end Go.Proofs.Ytedealljhmokoaa

namespace Go.Proofs.Ytedealljhmokoaa
open Go.ChangeShapes Go.WideShapes Go.ChangeAt Go.RowKit
set_option linter.unusedVariables false
set_option linter.unusedSimpArgs false
theorem below_2 (w : World) (o1 o2 : Obj) : Below w.heap.size w ((w.alloc o1).alloc o2) := ((Below.refl _ _).alloc (Nat.le_refl _) _).alloc (le_alloc _ (Nat.le_refl _)) _
set_option maxHeartbeats 1000000 in
set_option maxRecDepth 100000 in
theorem sameTexts_same (va vb : Value) (l : List ByteArray) (w : World) (ha : RTexts w.cell? va l) (hb : RTexts w.cell? vb l) :
    Calls Try.prog 66 #[va, vb] w fun e w' => e = .returned (.bool true) ∧ Below w.heap.size w w' := by
  obtain ⟨A, c, rfl, hlen, hel⟩ := ha.form
  obtain ⟨B, d, rfl, _, hel2⟩ := hb.form
  have Hel := Lib.hid hel
  have Hel2 := Lib.hid hel2
  clear hel hel2 ha hb
  go_enter Try.func66, Try.ntmps66
  go_wp2
  go_loopw [5] (fun i wr => ∃ k : Nat, k ≤ l.length ∧ i = .int .i64 k ∧ Below w.heap.size w wr) (fun i _ => l.length - (intOf i).toNat)
  case atStart => exact ⟨0, Nat.zero_le _, rfl, Below.refl _ _⟩
  case round =>
    obtain ⟨k, hk, rfl, hbl⟩ := hrel
    by_cases hlt : k < l.length
    · obtain ⟨b0, o0, rfl, hcell⟩ := Hel.out k hlt
      obtain ⟨b1, o1, rfl, hcell2⟩ := Hel2.out k hlt
      have c1 : wr.cell? ⟨b0, o0 + k, none⟩ = some (.string l[k]) := vle_below hbl _ _ hcell
      have c2 : wr.cell? ⟨b1, o1 + k, none⟩ = some (.string l[k]) := vle_below hbl _ _ hcell2
      clear hcell hcell2
      go_wp2
      refine wp_region_plan (fun w' => Below wr.heap.size wr w') [(0, true), (1, true), (2, true), (3, true), (4, true), (5, true), (6, true), (7, true), (8, true)] (by kernel_rfl) (by kernel_rfl) (fun _ _ d _ _ h => by cases d <;> exact h) rfl (by kernel_rfl) ?_ ?_
      · exact below_drew _
      intro W1 hS
      repeat (first
        | (refine wpPlan_takes rfl rfl ?_; apply Exists.intro; refine ⟨fun w' hS => ?_, ?_⟩; (· (have h1 := vle_below hS _ _ c1; have h2 := vle_below hS _ _ c2; go_simp; exact rfl)); simp only [List.getElem_toArray, List.getElem_cons_zero, List.getElem_cons_succ, Act.put, List.setIfInBounds_toArray, List.set_cons_zero, List.set_cons_succ])
        | (refine wpPlan_skip (by assumption) rfl rfl ?_; simp only [List.getElem_toArray, List.getElem_cons_zero, List.getElem_cons_succ, Act.put, List.setIfInBounds_toArray, List.set_cons_zero, List.set_cons_succ]))
      refine wpPlan_nil ?_
      go_wp2
      go_roundw
      case rel => exact ⟨k + 1, by omega, by go_num, hbl.trans (hS.mono hbl.size)⟩
      case measure => simp [intOf]; omega
    · go_wp2
      go_ret
      exact ⟨rfl, hbl⟩
set_option maxHeartbeats 1000000 in
set_option maxRecDepth 100000 in
theorem sameBatch_same (a r : Int) (va vb : Value) (l : List ByteArray) (w : World) (ha : RTexts w.cell? va l) (hb : RTexts w.cell? vb l) :
    Calls Try.prog 36 #[.agg #[.int .i64 a, .int .i64 r, va], .agg #[.int .i64 a, .int .i64 r, vb]] w fun e w' => e = .returned (.bool true) ∧ Below w.heap.size w w' := by
  go_enter Try.func36, Try.ntmps36
  go_wp2_with fail
  refine (sameTexts_same _ _ l _ (ha.mono (vle_below (below_2 _ _ _))) (hb.mono (vle_below (below_2 _ _ _)))).mono ?_
  rintro e w1 ⟨rfl, hk⟩
  go_wp2
  go_ret
  exact ⟨rfl, (below_2 _ _ _).trans (hk.mono (by simp; omega))⟩
set_option maxHeartbeats 1000000 in
set_option maxRecDepth 100000 in
theorem sameLists_same (va vb : Value) (l : List (List UInt8)) (w : World) (ha : RDigs w.cell? va l) (hb : RDigs w.cell? vb l) :
    Calls Try.prog 67 #[va, vb] w fun e w' => e = .returned (.bool true) ∧ Below w.heap.size w w' := by
  obtain ⟨A, c, rfl, _⟩ := id ha
  obtain ⟨B, d, rfl, _⟩ := id hb
  obtain ⟨_, _, hlen, hel⟩ := ha.at
  obtain ⟨_, _, _, hel2⟩ := hb.at
  have Hel := Lib.hid hel
  have Hel2 := Lib.hid hel2
  clear hel hel2 ha hb
  go_enter Try.func67, Try.ntmps67
  go_wp2
  go_loopw [5] (fun i wr => ∃ k : Nat, k ≤ l.length ∧ i = .int .i64 k ∧ Below w.heap.size w wr) (fun i _ => l.length - (intOf i).toNat)
  case atStart => exact ⟨0, Nat.zero_le _, rfl, Below.refl _ _⟩
  case round =>
    obtain ⟨k, hk, rfl, hbl⟩ := hrel
    by_cases hlt : k < l.length
    · obtain ⟨b0, o0, d0, rfl, e0, hd0⟩ := Hel.out k hlt
      obtain ⟨b1, o1, d1, rfl, e1, hd1⟩ := Hel2.out k hlt
      have c0 := vle_below hbl _ _ e0
      have c1 := vle_below hbl _ _ e1
      have hd0 := hd0.mono (vle_below hbl)
      have hd1 := hd1.mono (vle_below hbl)
      generalize l[k] = x at hd0 hd1
      clear e0 e1
      go_wp2
      refine wp_region_pl (fun w' => Below wr.heap.size wr w') [] (.q 0 (.q 1 (.q 2 (.q 3 (.q 4 (.q 5 (.q 6 (.q 7 (.q 8 (.q 9 (.q 10 .nil))))))))))) (by kernel_rfl) (by kernel_rfl) (fun _ _ d _ _ h => by cases d <;> exact h) rfl (by kernel_rfl) ?_ ?_
      · exact below_drew _
      intro W hS
      repeat (first
        | (refine pl_q (by assumption) rfl rfl ?_; apply Exists.intro; refine ⟨fun w' hS => ?_, ?_⟩; (· (have q := vle_below hS; have a0 := q _ _ c0; have a1 := q _ _ c1; have ga := run_toStr (hd0.mono q); have gb := run_toStr (hd1.mono q); go_simp; exact rfl)); simp only [List.getElem_toArray, List.getElem_cons_zero, List.getElem_cons_succ, Act.put, List.setIfInBounds_toArray, List.set_cons_zero, List.set_cons_succ])
        | (refine pl_qc rfl rfl ?_; apply Exists.intro; refine ⟨fun w' _ => ?_, ?_⟩; (· (go_simp; exact rfl)); simp only [List.getElem_toArray, List.getElem_cons_zero, List.getElem_cons_succ, Act.put, List.setIfInBounds_toArray, List.set_cons_zero, List.set_cons_succ])
        | (refine pl_skip (by assumption) rfl rfl ?_; simp only [List.getElem_toArray, List.getElem_cons_zero, List.getElem_cons_succ, Act.put, List.setIfInBounds_toArray, List.set_cons_zero, List.set_cons_succ])
        | (refine pl_skipl (by assumption) rfl rfl ?_; simp only [List.getElem_toArray, List.getElem_cons_zero, List.getElem_cons_succ, Act.put, List.setIfInBounds_toArray, List.set_cons_zero, List.set_cons_succ]))
      refine pl_nil ?_
      go_wp2
      go_roundw
      case rel => exact ⟨k + 1, by omega, by go_num, hbl.trans (hS.mono hbl.size)⟩
      case measure => simp [intOf]; omega
    · go_wp2
      go_ret
      exact ⟨rfl, hbl⟩
set_option maxHeartbeats 1000000 in
set_option maxRecDepth 100000 in
theorem sameHeader_same (a r : Int) (vb vp vb' vp' : Value) (b p : List (List UInt8)) (w : World) (hb : RDigs w.cell? vb b) (hp : RDigs w.cell? vp p) (hb' : RDigs w.cell? vb' b) (hp' : RDigs w.cell? vp' p) :
    Calls Try.prog 37 #[.agg #[.int .i64 a, .int .i64 r, vb, vp], .agg #[.int .i64 a, .int .i64 r, vb', vp']] w fun e w' => e = .returned (.bool true) ∧ Below w.heap.size w w' := by
  go_enter Try.func37, Try.ntmps37
  go_wp2_with fail
  refine two_blocks _ _ _ _ _ (fun W => Calls Try.prog _ _ W _) (fun W hk1 hk2 hsz hbl => ?_)
  have q := vle_below hbl
  refine (sameLists_same _ _ b _ (hb.mono RDig.mono q) (hb'.mono RDig.mono q)).mono ?_
  rintro e w1 ⟨rfl, hb1⟩
  have hbl1 := hbl.trans (hb1.mono hbl.size)
  have g3 := (hk1.kept hb1).cell 3
  have f3 := (hk2.kept hb1).cell 3
  simp at g3 f3
  have q := vle_below hbl1
  go_wp2_with fail
  refine (sameLists_same _ _ p _ (hp.mono RDig.mono q) (hp'.mono RDig.mono q)).mono ?_
  rintro e w2 ⟨rfl, hb2⟩
  go_wp2
  go_ret
  exact ⟨rfl, hbl1.trans (hb2.mono hbl1.size)⟩
end Go.Proofs.Ytedealljhmokoaa

namespace Go.Proofs.Ytedealljhmokoaa
open Go.ChangeShapes Go.WideShapes Go.ChangeAt Go.RowKit
set_option linter.unusedVariables false
set_option maxHeartbeats 1000000 in
set_option maxRecDepth 100000 in
theorem sameSlot_same (a r : Int) (va vb : Value) (d : List UInt8) (w : World) (ha : RBytes w.cell? va d) (hb : RBytes w.cell? vb d) :
    Calls Try.prog 38 #[.agg #[.int .i64 a, .int .i64 r, va], .agg #[.int .i64 a, .int .i64 r, vb]] w fun e w' => e = .returned (.bool true) ∧ Below w.heap.size w w' := by
  have hw := below_2 w (.cells #[.int .i64 a, .int .i64 r, va] 30) (.cells #[.int .i64 a, .int .i64 r, vb] 30)
  have ga := run_toStr (ha.mono (vle_below hw))
  have gb := run_toStr (hb.mono (vle_below hw))
  clear ha hb
  go_enter Try.func38, Try.ntmps38
  go_wp2
  go_ret
  exact ⟨rfl, hw⟩
end Go.Proofs.Ytedealljhmokoaa

namespace Go.Proofs.Ytedealljhmokoaa
open Go.ChangeShapes Go.WideShapes Go.ChangeAt Go.RowKit
set_option linter.unusedVariables false
set_option linter.unusedSimpArgs false
/-- a guarded load of a whole struct -/
theorem wpList_load_row_w {P : Program} {ops : Array Oper} {rest : List Oper} {o : Oper} {a : Act} {w : World} {Q : Exit → Act → World → Prop} (hwd : Region.wanted o (yielded ops a.tmps) = true) (ty : TypeId) (x : Operand) (ho : o.op = .load ty x)
    (g : Nat) (hx : a.eval x = .pointer (some ⟨g, 0, none⟩)) (t : TypeId) (cs : Array Value) (fr : Nat × Nat) (d : TypeDesc) (hg : w.heap[g]? = some (.cells cs t fr))
    (hu : P.underlying ty = some d) (hd : (match d with | .struct _ | .array _ _ => true | _ => false) = true) (hi : (P.info? ty).map (·.size) = some cs.size)
    (h : wpList P ops Q rest (a.put o.dst (.agg cs)) w) : wpList P ops Q (o :: rest) a w :=
  wpList_step fun K hK => by rw [if_pos hwd]; exact wp_load_row ty x ho g hx t cs fr d hg hu hd hi (hK _ _ h)
set_option maxHeartbeats 1000000 in
set_option maxRecDepth 100000 in
theorem sameInts_same (va vb : Value) (l : List Int) (w : World) (ha : RIs w.cell? va l) (hb : RIs w.cell? vb l) :
    Calls Try.prog 68 #[va, vb] w fun e w' => e = .returned (.bool true) ∧ Below w.heap.size w w' := by
  obtain ⟨A, c, rfl, _⟩ := id ha
  obtain ⟨B, d, rfl, _⟩ := id hb
  obtain ⟨_, _, hlen, hel⟩ := ha.at
  obtain ⟨_, _, _, hel2⟩ := hb.at
  have Hel := Lib.hid hel
  have Hel2 := Lib.hid hel2
  clear hel hel2 ha hb
  go_enter Try.func68, Try.ntmps68
  go_wp2
  go_loopw [5] (fun i wr => ∃ k : Nat, k ≤ l.length ∧ i = .int .i64 k ∧ Below w.heap.size w wr) (fun i _ => l.length - (intOf i).toNat)
  case atStart => exact ⟨0, Nat.zero_le _, rfl, Below.refl _ _⟩
  case round =>
    obtain ⟨k, hk, rfl, hbl⟩ := hrel
    by_cases hlt : k < l.length
    · obtain ⟨b0, o0, rfl, e0⟩ := Hel.out k hlt
      obtain ⟨b1, o1, rfl, e1⟩ := Hel2.out k hlt
      have c0 := vle_below hbl _ _ e0
      have c1 := vle_below hbl _ _ e1
      generalize l[k] = x at c0 c1
      clear e0 e1
      go_wp2
      refine wp_region_pl (fun w' => Below wr.heap.size wr w') [] (.q 0 (.q 1 (.q 2 (.q 3 (.q 4 (.q 5 (.q 6 (.q 7 (.q 8 .nil))))))))) (by kernel_rfl) (by kernel_rfl) (fun _ _ d _ _ h => by cases d <;> exact h) rfl (by kernel_rfl) ?_ ?_
      · exact below_drew _
      intro W hS
      repeat (first
        | (refine pl_q (by assumption) rfl rfl ?_; apply Exists.intro; refine ⟨fun w' hS => ?_, ?_⟩; (· (have q := vle_below hS; have a0 := q _ _ c0; have a1 := q _ _ c1; go_simp; exact rfl)); simp only [List.getElem_toArray, List.getElem_cons_zero, List.getElem_cons_succ, Act.put, List.setIfInBounds_toArray, List.set_cons_zero, List.set_cons_succ])
        | (refine pl_qc rfl rfl ?_; apply Exists.intro; refine ⟨fun w' _ => ?_, ?_⟩; (· (go_simp; exact rfl)); simp only [List.getElem_toArray, List.getElem_cons_zero, List.getElem_cons_succ, Act.put, List.setIfInBounds_toArray, List.set_cons_zero, List.set_cons_succ])
        | (refine pl_skip (by assumption) rfl rfl ?_; simp only [List.getElem_toArray, List.getElem_cons_zero, List.getElem_cons_succ, Act.put, List.setIfInBounds_toArray, List.set_cons_zero, List.set_cons_succ])
        | (refine pl_skipl (by assumption) rfl rfl ?_; simp only [List.getElem_toArray, List.getElem_cons_zero, List.getElem_cons_succ, Act.put, List.setIfInBounds_toArray, List.set_cons_zero, List.set_cons_succ]))
      refine pl_nil ?_
      go_wp2
      go_roundw
      case rel => exact ⟨k + 1, by omega, by go_num, hbl.trans (hS.mono hbl.size)⟩
      case measure => simp [intOf]; omega
    · go_wp2
      go_ret
      exact ⟨rfl, hbl⟩
set_option maxHeartbeats 1000000 in
set_option maxRecDepth 100000 in
theorem sameCert_same (a r : Int) (vb vp vv vb' vp' vv' : Value) (b p : List (List UInt8)) (vs : List Int) (w : World) (hb : RDigs w.cell? vb b) (hp : RDigs w.cell? vp p) (hv : RIs w.cell? vv vs) (hb' : RDigs w.cell? vb' b) (hp' : RDigs w.cell? vp' p) (hv' : RIs w.cell? vv' vs) :
    Calls Try.prog 39 #[.agg #[.int .i64 a, .int .i64 r, vb, vp, vv], .agg #[.int .i64 a, .int .i64 r, vb', vp', vv']] w fun e w' => e = .returned (.bool true) ∧ Below w.heap.size w w' := by
  go_enter Try.func39, Try.ntmps39
  go_wp2_with fail
  refine two_blocks _ _ _ _ _ (fun W => Calls Try.prog _ _ W _) (fun W hk1 hk2 hsz hbl => ?_)
  have q := vle_below hbl
  refine (sameHeader_same a r _ _ _ _ b p _ (hb.mono RDig.mono q) (hp.mono RDig.mono q) (hb'.mono RDig.mono q) (hp'.mono RDig.mono q)).mono ?_
  rintro e w1 ⟨rfl, hb1⟩
  have hbl1 := hbl.trans (hb1.mono hbl.size)
  have g4 := (hk1.kept hb1).cell 4
  have f4 := (hk2.kept hb1).cell 4
  simp at g4 f4
  have q := vle_below hbl1
  go_wp2_with fail
  refine (sameInts_same _ _ vs _ (hv.mono q) (hv'.mono q)).mono ?_
  rintro e w2 ⟨rfl, hb2⟩
  go_wp2
  go_ret
  exact ⟨rfl, hbl1.trans (hb2.mono hbl1.size)⟩
set_option maxHeartbeats 4000000 in
set_option maxRecDepth 100000 in
theorem sameMessage_same (m : Msg) (vt vb vp vd cb cp cv vt' vb' vp' vd' cb' cp' cv' : Value) (w : World) (r : RMsg w.cell? m vt vb vp vd cb cp cv) (r' : RMsg w.cell? m vt' vb' vp' vd' cb' cp' cv') :
    Calls Try.prog 13 #[.agg (msgC m vt vb vp vd cb cp cv), .agg (msgC m vt' vb' vp' vd' cb' cp' cv')] w fun e w' => e = .returned (.bool true) ∧ Below w.heap.size w w' := by
  unfold msgC
  go_enter Try.func13, Try.ntmps13
  go_upto_region 1 with fail
  refine two_blocks _ _ _ _ _ (fun W => Code.wp _ _ _ _ W) (fun W hk1 hk2 hsz hbl => ?_)
  have q := vle_below hbl
  have rW := r.mono q
  have rW' := r'.mono q
  have hq := hk1; have hp := hk2
  have g0 := hq.cell 0; have g1 := hq.cell 1; have g2 := hq.cell 2; have g3 := hq.cell 3; have g4 := hq.cell 4; have g5 := hq.cell 5; have g18 := hq.cell 18
  have f0 := hp.cell 0; have f1 := hp.cell 1; have f2 := hp.cell 2; have f3 := hp.cell 3; have f4 := hp.cell 4; have f5 := hp.cell 5; have f18 := hp.cell 18
  simp at g0 g1 g2 g3 g4 g5 g18 f0 f1 f2 f3 f4 f5 f18
  clear hq hp r r' q hsz
  go_wp2_with fail
  refine (sameBatch_same _ _ _ _ m.bat.txs _ rW.txs rW'.txs).mono ?_
  rintro e w1 ⟨rfl, hb1⟩
  have q1 := vle_below hb1
  have hbl1 := hbl.trans (hb1.mono hbl.size)
  have hq := hk1.kept hb1; have hp := hk2.kept hb1
  clear g0 g1 g2 g3 g4 g5 g18 f0 f1 f2 f3 f4 f5 f18
  have g6 := hq.cell 6; have g7 := hq.cell 7; have g8 := hq.cell 8; have g9 := hq.cell 9
  have f6 := hp.cell 6; have f7 := hp.cell 7; have f8 := hp.cell 8; have f9 := hp.cell 9
  simp at g6 g7 g8 g9 f6 f7 f8 f9
  go_wp2_with fail
  refine (sameHeader_same _ _ _ _ _ _ m.hdr.batches m.hdr.parents _ (rW.bats.mono RDig.mono q1) (rW.pars.mono RDig.mono q1) (rW'.bats.mono RDig.mono q1) (rW'.pars.mono RDig.mono q1)).mono ?_
  rintro e w2 ⟨rfl, hb2⟩
  have q2 := q1.trans (vle_below hb2)
  have hbl2 := hbl1.trans (hb2.mono hbl1.size)
  have hq2 := hq.kept hb2; have hp2 := hp.kept hb2
  clear g6 g7 g8 g9 f6 f7 f8 f9
  have g6 := hq2.cell 10; have g7 := hq2.cell 11; have g8 := hq2.cell 12
  have f6 := hp2.cell 10; have f7 := hp2.cell 11; have f8 := hp2.cell 12
  simp at g6 g7 g8 f6 f7 f8
  go_wp2_with fail
  refine (sameSlot_same _ _ _ _ m.slt.digest _ (rW.dig.mono q2) (rW'.dig.mono q2)).mono ?_
  rintro e w3 ⟨rfl, hb3⟩
  have q3 := q2.trans (vle_below hb3)
  have hbl3 := hbl2.trans (hb3.mono hbl2.size)
  have hq3 := hq2.kept hb3; have hp3 := hp2.kept hb3
  clear g6 g7 g8 f6 f7 f8
  have g6 := hq3.cell 13; have g7 := hq3.cell 14; have g8 := hq3.cell 15; have g9 := hq3.cell 16; have g10 := hq3.cell 17
  have f6 := hp3.cell 13; have f7 := hp3.cell 14; have f8 := hp3.cell 15; have f9 := hp3.cell 16; have f10 := hp3.cell 17
  simp at g6 g7 g8 g9 g10 f6 f7 f8 f9 f10
  go_wp2_with fail
  refine (sameCert_same _ _ _ _ _ _ _ _ m.crt.hdr.batches m.crt.hdr.parents m.crt.voters _ (rW.cbats.mono RDig.mono q3) (rW.cpars.mono RDig.mono q3) (rW.vots.mono q3) (rW'.cbats.mono RDig.mono q3) (rW'.cpars.mono RDig.mono q3) (rW'.vots.mono q3)).mono ?_
  rintro e w4 ⟨rfl, hb4⟩
  clear g6 g7 g8 g9 g10 f6 f7 f8 f9 f10
  go_wp2
  go_ret
  exact ⟨rfl, hbl3.trans (hb4.mono hbl3.size)⟩
end Go.Proofs.Ytedealljhmokoaa

namespace Go.Proofs.Ytedealljhmokoaa
open Go.ChangeShapes Go.WideShapes Go.ChangeAt Go.RowKit
set_option linter.unusedVariables false
set_option linter.unusedSimpArgs false
def recN (d : List UInt8) (a : Nat) : Nat := match d[a]?, d[a + 1]? with | some x, some y => x.toNat * 256 + y.toNat | _, _ => 0
def recB (d : List UInt8) (a : Nat) : List UInt8 := (d.drop (a + 2)).take (recN d a)
def goodR (d : List UInt8) (a : Nat) : Bool := decide (a + 2 ≤ d.length) && decide (a + 2 + recN d a ≤ d.length) && decide (decE (recB d a) = 0) && decide (recF (decM (recB d a)) = 0)
def rcvR (d : List UInt8) : Nat → List Msg → Nat → List Msg × Nat
  | 0, ms, a => (ms, a)
  | n + 1, ms, a => if goodR d a then rcvR d n (ms ++ [decM (recB d a)]) (a + 2 + recN d a) else (ms, a)
def rcvP (d : List UInt8) : List Msg × Nat := rcvR d (d.length + 1) [] 0
theorem rcv_step {d : List UInt8} {k a : Nat} {ms : List Msg} (h : d.length < k + a) (ha : a ≤ d.length) (hg : goodR d a = true) : ∃ k', rcvR d k ms a = rcvR d k' (ms ++ [decM (recB d a)]) (a + 2 + recN d a) ∧ d.length < k' + (a + 2 + recN d a) := by
  cases k with
  | zero => omega
  | succ k => exact ⟨k, by rw [rcvR, if_pos hg], by omega⟩
theorem rcv_stop {d : List UInt8} {k a : Nat} {ms : List Msg} (hg : goodR d a = false) : rcvR d k ms a = (ms, a) := by
  cases k with
  | zero => rfl
  | succ k => rw [rcvR, if_neg (by rw [hg]; decide)]
theorem recN_at {d : List UInt8} {a : Nat} (h : a + 1 < d.length) : recN d a = d[a].toNat * 256 + d[a + 1].toNat := by
  unfold recN
  rw [List.getElem?_eq_getElem (by omega), List.getElem?_eq_getElem h]
def rcvE (d : List UInt8) (a : Int) : Int := if tapeMay d a then 0 else 12
def rcvM (d : List UInt8) (a : Int) : List Msg := if tapeMay d a then (rcvP d).1 else []
def rcvD (d : List UInt8) (a : Int) : List UInt8 := if tapeMay d a then d.take (rcvP d).2 else []
def rcvY (d : List UInt8) (a : Int) : Int := if tapeMay d a then (if a ≤ (rcvP d).2 then a else (rcvP d).2) else 0
theorem decM_small (b : List UInt8) : ∀ t ∈ (decM b).bat.txs, t.size ≤ 140737488355328 := by
  unfold decM
  split
  · exact bodR_small _ _ _ _
  · intro t ht; cases ht
/-- a message in a row -/
def RMsgR (h : View) (cs : List Value) (m : Msg) : Prop := ∃ vt vb vp vd cb cp cv, cs = (msgC m vt vb vp vd cb cp cv).toList ∧ RMsg h m vt vb vp vd cb cp cv
theorem RMsgR.mono : Mono RMsgR := fun _ _ _ _ ⟨vt, vb, vp, vd, cb, cp, cv, e, r⟩ hle => ⟨vt, vb, vp, vd, cb, cp, cv, e, r.mono hle⟩
abbrev RMsgs := RSl 19 RMsgR 264
abbrev OwnMsgs (b : Nat) := OwnSl 19 (RFrom b RMsgR) 35
theorem elemMsg : Elem Try.prog 54 35 19 264 := elemN (z := .agg #[.int .i64 0, .int .i64 0, .int .i64 0, .int .i64 0, .int .i64 0, .slice none 0 0, .int .i64 0, .int .i64 0, .slice none 0 0, .slice none 0 0, .int .i64 0, .int .i64 0, .slice none 0 0, .int .i64 0, .int .i64 0, .slice none 0 0, .slice none 0 0, .slice none 0 0, .int .i64 0]) Try.underlying54 (by kernel_rfl) rfl (by decide)
theorem RMsgs.nil (h : View) : RMsgs h (.slice none 0 0) [] := ⟨none, 0, rfl, Nat.le_refl _, Nat.zero_le _, by simp, fun _ => rfl, fun h => by simp at h⟩
theorem results_tbt {P : Program} {fn : Func} {p q u : Tmp} {t te : TypeId} {w : World} {g n : Nat} {cur : Array Value} {tmps : Array Value} (h : fn.results = #[.tmp q, .cell p t, .tmp u]) (hp : tmps.getD p undef = .pointer (some ⟨g, 0, none⟩)) (hagg : (isAgg t).run P w = .ok true w) (hi : (P.info? t).map (·.size) = some n) (hb : Blk w g te cur) (hn : cur.size = n) :
    (results fn tmps).run P w = .ok (.tuple #[tmps.getD q undef, .agg cur, tmps.getD u undef]) w := by
  have := run_load_blk (P := P) hagg hi hb (o := 0) (by omega)
  rw [List.drop_zero, List.take_of_length_le (by simp [hn])] at this
  have hp' : tmps[p]?.getD undef = .pointer (some ⟨g, 0, none⟩) := by simpa using hp
  simp only [results, h]
  simp [Sem.run_bind, Result.andThen, hp', asAddr, this]
theorem bodyOf {A : Option Addr} {c : Nat} {h : View} {d : List UInt8} {a : Nat} (hr : RBytes h (.slice A d.length c) d) (h2 : a + 2 + recN d a ≤ d.length) : RBytes h (.slice (if c = a + 2 then A else A.map fun x => x.add (a + 2)) (recN d a) (c - (a + 2))) (recB d a) := by
  obtain ⟨A', c', e, hc, _⟩ := id hr
  injection e with e1 e2 e3
  subst e3
  have hl : (recB d a).length = recN d a := by unfold recB; simp; omega
  split
  · exact RVec.stubN _ _ _ _ (by omega) (by omega) hl
  · exact (hr.dropN (by omega)).takeN (by simp; omega)
end Go.Proofs.Ytedealljhmokoaa

namespace Go.Proofs.Ytedealljhmokoaa
open Go.ChangeShapes Go.WideShapes Go.ChangeAt Go.RowKit
set_option linter.unusedVariables false
set_option linter.unusedSimpArgs false
theorem min_say (a b : Int) : (if a ≤ b then a else b) = (if b < a then b else a) := by
  rcases Int.lt_or_le b a with h | h
  · rw [if_pos h, if_neg (show ¬ a ≤ b by omega)]
  · rw [if_neg (show ¬ b < a by omega), if_pos h]
theorem RMsgs.unfrom {b : Nat} {h : View} {v : Value} {xs : List Msg} (hr : RSl 19 (RFrom b RMsgR) 264 h v xs) : RMsgs h v xs := by
  obtain ⟨A, c, e, h1, h2, h3, h4, h5⟩ := hr
  refine ⟨A, c, e, h1, h2, h3, h4, fun hp => ?_⟩
  obtain ⟨b', o, ea, hc⟩ := h5 hp
  refine ⟨b', o, ea, fun i hi => ?_⟩
  obtain ⟨cs, q1, q2, q3⟩ := hc i hi
  exact ⟨cs, q1, q2, RMsgR.mono _ _ _ _ q3 (View.from_le _ _)⟩
theorem RVec.cutN {α : Type} {enc : α → Value} {bs : Nat} {h : View} {A : Option Addr} {n c : Nat} {xs : List α} (hr : RVec enc bs h (.slice A n c) xs) {k m : Nat} (hk : k ≤ xs.length) (hkm : k ≤ m) (hm : m ≤ c) : RVec enc bs h (.slice A k m) (xs.take k) := by
  obtain ⟨A', c', e, h1, h2, h3, h4, h5⟩ := hr
  injection e with e1 e2 e3
  subst e1 e2 e3
  have hl : (xs.take k).length = k := by simp; omega
  refine ⟨A, m, by rw [hl], by omega, Nat.le_trans hm h2, by rw [hl]; exact Nat.le_trans (Nat.mul_le_mul_right _ hk) h3, fun h => by have := h4 h; omega, fun hp => ?_⟩
  obtain ⟨b, o, ea, hc⟩ := h5 (by omega)
  refine ⟨b, o, ea, fun i hi => ?_⟩
  rw [hl] at hi
  rw [hc i (by omega), List.getElem_take]
set_option maxHeartbeats 4000000 in
set_option maxRecDepth 100000 in
theorem recover_any (a : Int) (v : Value) (d : List UInt8) (w : World) (hv : RBytes w.cell? v d) :
    Calls Try.prog 21 #[.agg #[v, .int .i64 a]] w fun e w' => ∃ vm vd, e = .returned (.tuple #[vm, .agg #[vd, .int .i64 (rcvY d a)], .int .i64 (rcvE d a)]) ∧ Below w.heap.size w w' ∧ RMsgs w'.cell? vm (rcvM d a) ∧ RBytes w'.cell? vd (rcvD d a) := by
  have hl : d.length * 1 ≤ 140737488355328 := hv.len
  obtain ⟨A0, c0, rfl, hf⟩ := id hv
  clear hf
  cases hm : tapeMay d a
  · have hY : rcvY d a = 0 := by unfold rcvY; rw [hm]; rfl
    have hE : rcvE d a = 12 := by unfold rcvE; rw [hm]; rfl
    have hM : rcvM d a = [] := by unfold rcvM; rw [hm]; rfl
    have hD : rcvD d a = [] := by unfold rcvD; rw [hm]; rfl
    rw [hY, hE, hM, hD]
    have Hm := Lib.hid hm
    clear hY hE hM hD hm
    go_enter Try.func21, Try.ntmps21
    go_upto_region 1 with fail
    refine two_blocks _ _ _ _ _ (fun W => Code.wp _ _ _ _ W) (fun W hk1 hk2 hszW hbW => ?_)
    have g0 := hk1.cell 0; have g1 := hk1.cell 1
    simp at g0 g1
    have hzW := hbW.size
    go_wp2_with fail
    refine (open_no a A0 c0 d W (by omega) Hm.out).mono ?_
    rintro e w1 ⟨rfl, hb1⟩
    have hk3 := hk2.kept hb1
    have hbl1 := hbW.trans (hb1.mono hzW)
    clear g0 g1 hk1 hk2
    go_upto_region 2 with fail
    refine one_block _ _ _ (fun W => Code.wp _ _ _ _ W) (fun W2 hX hsX hbX => ?_)
    have hk4 := hk3.kept hbX
    have hbl2 := hbl1.trans (hbX.mono hbl1.size)
    go_wp2_with (refine wpList_store_whole (n := 2) rfl rfl rfl rfl (by kernel_rfl) rfl hk4 rfl rfl ?_)
    intro w3 hB3 hg3
    go_wp2
    refine bodyPost_ret (results_tbt rfl rfl (by kernel_rfl) (by kernel_rfl) hB3 rfl) rfl ?_
    exact ⟨.slice none 0 0, .slice none 0 0, rfl, below_grownBy hbl2 hbl2.size hg3 (by intro k e; injection e; omega), RMsgs.nil _, RVec.nil _ _ _⟩
  have Hm := Lib.hid hm
  have hd4 : d.length ≤ 400000 ∧ 0 ≤ a ∧ a ≤ d.length := by simp [tapeMay] at hm; omega
  obtain ⟨hd4, ha0, had⟩ := hd4
  obtain ⟨R, hR⟩ : ∃ R, Hid (rcvP d = R) := ⟨_, rfl⟩
  obtain ⟨Y, hY⟩ : ∃ Y, Hid (rcvY d a = Y) := ⟨_, rfl⟩
  have HY : Hid (Y = if a ≤ (R.2 : Int) then a else (R.2 : Int)) := by show _ = _; rw [← hY.out]; unfold rcvY; rw [hm, hR.out]; rfl
  have hE : rcvE d a = 0 := by unfold rcvE; rw [hm]; rfl
  have hM : rcvM d a = R.1 := by unfold rcvM; rw [hm, hR.out]; rfl
  have hD : rcvD d a = d.take R.2 := by unfold rcvD; rw [hm, hR.out]; rfl
  rw [hY.out, hE, hM, hD]
  have HR : Hid (rcvR d (d.length + 1) [] 0 = R) := hR.out
  clear hE hM hD hm hY hR
  go_enter Try.func21, Try.ntmps21
  go_upto_region 1 with fail
  refine two_blocks _ _ _ _ _ (fun W => Code.wp _ _ _ _ W) (fun W hk1 hk2 hszW hbW => ?_)
  have g0 := hk1.cell 0; have g1 := hk1.cell 1
  simp at g0 g1
  have hzW := hbW.size
  have hzW2 : w.heap.size + 2 ≤ W.heap.size := by omega
  clear hszW
  go_wp2_with fail
  refine (open_yes a _ d W (hv.mono (vle_below hbW)) Hm.out).mono ?_
  rintro e w1 ⟨dv, rfl, hb1, o1⟩
  have r1 := o1.reads (bs := 1) hl
  have rF := o1.from_ (bs := 1) (b0 := w.heap.size + 2) hl (by omega)
  obtain ⟨A, c, rfl⟩ := o1.form
  have hk3 := hk2.kept hb1
  have hbl1 := hbW.trans (hb1.mono hzW)
  have hz1 := hb1.size
  clear g0 g1 hk1 hk2 o1
  go_upto_region 2 with fail
  refine one_block _ _ _ (fun W => Code.wp _ _ _ _ W) (fun W2 hX hsX hbX => ?_)
  have hk4 := hk3.kept hbX
  have hbl2 := hbl1.trans (hbX.mono hbl1.size)
  have r2 := r1.mono (vle_below hbX)
  have hzX : w1.heap.size + 1 ≤ W2.heap.size := by omega
  clear hsX hk3 r1
  obtain ⟨_, hdc, _, _, _, hel⟩ : d.length = d.length ∧ d.length ≤ c ∧ True ∧ True ∧ True ∧ (∀ i (hi : i < d.length), ∃ b o, A = some ⟨b, o, none⟩ ∧ W2.cell? ⟨b, o + i, none⟩ = some (.int .u8 d[i].toNat)) := by
    obtain ⟨A', c', e, h1, _, _, _, h5⟩ := id r2
    injection e with e1 e2 e3
    subst e1 e3
    refine ⟨rfl, h1, trivial, trivial, trivial, fun i hi => ?_⟩
    obtain ⟨b, o, ea, hc⟩ := h5 (by omega)
    exact ⟨b, o, ea, hc i hi⟩
  have Hel := Lib.hid hel
  clear hel
  go_upto_block 0 with fail
  go_cut [7, 8, 9, 10, 11] (fun v i _ _ _ w' => ∃ (at_ : Nat) (ms : List Msg), i = .int .i64 at_ ∧ Hid (R = (ms, at_)) ∧ at_ ≤ d.length ∧ RMsgs (View.from w'.cell? W2.heap.size) v ms ∧ Below W2.heap.size W2 w')
  case first =>
    go_wp2_with fail
    go_loopw [7, 8, 9, 10, 11] (fun v i _ _ _ wr => ∃ (k at_ : Nat) (ms : List Msg), i = .int .i64 at_ ∧ at_ ≤ d.length ∧ Hid (rcvR d k ms at_ = R ∧ d.length < k + at_) ∧ ms.length ≤ at_ ∧ OwnMsgs W2.heap.size wr W2.heap.size v ms ∧ Below W2.heap.size W2 wr) (fun _ i _ _ _ _ => d.length - (intOf i).toNat)
    case atStart => exact ⟨d.length + 1, 0, [], rfl, Nat.zero_le _, ⟨HR.out, by omega⟩, Nat.zero_le _, OwnSl.nil _ _ _ _ _, Below.refl _ _⟩
    case round =>
      obtain ⟨k, at_, ms, rfl, hat, hrun, hml, hown, hbl⟩ := hrel
      have hXr := hX.kept hbl
      have x0 := hXr.cell 0; have x1 := hXr.cell 1
      simp at x0 x1
      have hzr := hbl.size
      by_cases h2 : at_ + 2 ≤ d.length
      · have h2' : (at_ : Int) + 2 ≤ d.length := by omega
        obtain ⟨b0, o0, rfl, e0⟩ := Hel.out at_ (by omega)
        obtain ⟨b1, o1, eA, e1⟩ := Hel.out (at_ + 1) (by omega)
        injection eA with eA
        injection eA with eb eo _
        subst eb eo
        have c0' := vle_below hbl _ _ e0
        have c1' := vle_below hbl _ _ e1
        have hN := Lib.hid (recN_at (d := d) (a := at_) (by omega))
        have hx0 := d[at_].toNat_lt
        have hx1 := d[at_ + 1].toNat_lt
        have hor := or_256 (v := d[at_].toNat) (x := d[at_ + 1].toNat) (by omega) hx1
        generalize d[at_].toNat = B0 at *
        generalize d[at_ + 1].toNat = B1 at *
        clear e0 e1
        go_wp2_with fail
        refine wp_region_pl (fun w' => Below wr.heap.size wr w') [15] (.q 0 (.q 1 (.q 2 (.q 3 (.q 4 (.q 5 (.q 6 (.q 7 (.q 8 (.q 9 (.q 10 (.q 11 (.q 12 (.q 13 (.q 14 (.qc 15 .nil)))))))))))))))) (by kernel_rfl) (by kernel_rfl) (fun _ _ d _ _ h => by cases d <;> exact h) rfl (by kernel_rfl) ?_ ?_
        · exact below_drew _
        intro W3 hS
        have hi1 : (at_ : Int) < d.length := by omega
        have hi2 : (at_ : Int) + 1 < d.length := by omega
        have hw1 : IntKind.i64.wrap ((at_ : Int) + 1) = ((at_ + 1 : Nat) : Int) := by rw [IntKind.wrap_i64]; omega
        repeat (first
          | (refine pl_q (by assumption) rfl rfl ?_; apply Exists.intro; refine ⟨fun w' hS => ?_, ?_⟩; (· (have hq := hXr.kept hS; have h0 := hq.cell 0; have h1 := hq.cell 1; simp at h0 h1; have hc0 := vle_below hS _ _ c0'; have hc1 := vle_below hS _ _ c1'; go_simp; exact rfl)); simp only [List.getElem_toArray, List.getElem_cons_zero, List.getElem_cons_succ, Act.put, List.setIfInBounds_toArray, List.set_cons_zero, List.set_cons_succ])
          | (refine pl_qc rfl rfl ?_; apply Exists.intro; refine ⟨fun w' _ => ?_, ?_⟩; (· (go_simp; exact rfl)); simp only [List.getElem_toArray, List.getElem_cons_zero, List.getElem_cons_succ, Act.put, List.setIfInBounds_toArray, List.set_cons_zero, List.set_cons_succ])
          | (refine pl_skip (by assumption) rfl rfl ?_; simp only [List.getElem_toArray, List.getElem_cons_zero, List.getElem_cons_succ, Act.put, List.setIfInBounds_toArray, List.set_cons_zero, List.set_cons_succ])
          | (refine pl_skipl (by assumption) rfl rfl ?_; simp only [List.getElem_toArray, List.getElem_cons_zero, List.getElem_cons_succ, Act.put, List.setIfInBounds_toArray, List.set_cons_zero, List.set_cons_succ]))
        have hwB0 : IntKind.i64.wrap (B0 : Int) = B0 := by rw [IntKind.wrap_i64]; omega
        have hwB1 : IntKind.i64.wrap (B1 : Int) = B1 := by rw [IntKind.wrap_i64]; omega
        have hwB2 : IntKind.i64.wrap ((B0 : Int) * 256) = (B0 : Int) * 256 := by rw [IntKind.wrap_i64]; omega
        simp only [hwB0, hwB1, hwB2, hor]
        obtain ⟨N, hNN⟩ : ∃ N, Hid (recN d at_ = N) := ⟨_, rfl⟩
        rw [show B0 * 256 + B1 = N by rw [← hNN.out]; exact hN.out.symm]
        have hN65 : N < 65536 := by rw [← hNN.out, hN.out]; omega
        refine pl_nil ?_
        have hbl3 := hbl.trans (hS.mono hzr)
        have hXr3 := hXr.kept hS
        have hown3 := hown.kept (RFrom.mono RMsgR.mono) hS
        have r3 := r2.mono (vle_below hbl3)
        have hz3 := hS.size
        clear hN hwB0 hwB1 hwB2 hor c0' c1' x0 x1 hXr hown hbl hS hi1 hi2 hw1 hx0 hx1
        have x0 := hXr3.cell 0; have x1 := hXr3.cell 1
        simp at x0 x1
        by_cases hlen : at_ + 2 + N ≤ d.length
        · obtain ⟨a2, ha2⟩ : ∃ a2, Hid (at_ + 2 = a2) := ⟨_, rfl⟩
          obtain ⟨a3, ha3⟩ : ∃ a3, Hid (a2 + N = a3) := ⟨_, rfl⟩
          have h2a := ha2.out
          have h3a := ha3.out
          have hs1 : (at_ : Int) + 2 = a2 := by omega
          have hs2 : (a2 : Int) + N = a3 := by omega
          have hle : ¬ (d.length : Int) < a3 := by omega
          have hcc : a2 ≤ a3 ∧ a3 ≤ c ∧ a3 - a2 = N := by omega
          have hc1 : (a2 : Int) ≤ (a3 : Int) := by omega
          have hc2 : (a3 : Int) ≤ (c : Int) := by omega
          obtain ⟨BB, hBB⟩ : ∃ BB, Hid (recB d at_ = BB) := ⟨_, rfl⟩
          have hbody := bodyOf r3 (a := at_) (by rw [hNN.out]; exact hlen)
          rw [hNN.out, hBB.out, ha2.out] at hbody
          clear h2a h3a
          obtain ⟨M, hM⟩ : ∃ M, Hid (decM BB = M) := ⟨_, rfl⟩
          obtain ⟨E, hE⟩ : ∃ E, Hid (decE BB = E) := ⟨_, rfl⟩
          obtain ⟨F, hF⟩ : ∃ F, Hid (recF M = F) := ⟨_, rfl⟩
          have hgood : Hid (goodR d at_ = (decide (E = 0) && decide (F = 0))) := by
            show _ = _
            unfold goodR
            rw [hBB.out, hM.out, hE.out, hF.out, hNN.out, decide_eq_true h2, decide_eq_true hlen]
            rfl
          have hsm := Lib.hid (decM_small BB)
          rw [hM.out] at hsm
          go_upto_region 9 with fail
          go_cut [10, 11] (fun p e w' => ∃ gb vt vb vp vd cb cp cv, p = .pointer (some ⟨gb, 0, none⟩) ∧ e = .int .i64 E ∧ Blk w' gb 35 (msgC M vt vb vp vd cb cp cv) ∧ RMsg (View.from w'.cell? W3.heap.size) M vt vb vp vd cb cp cv ∧ Below W3.heap.size W3 w')
          case first =>
            have Hb := Lib.hid hbody
            clear hbody hown3 hsm hF hgood HR HY
            by_cases hca : c = a2
            · have hbody := Hb.out
              rw [if_pos hca] at hbody
              clear Hb
              subst hca
              rw [Nat.sub_self] at hbody
              go_wp2_with fail
              refine (decode_any _ BB W3 hbody).mono ?_
              rintro e w4 ⟨vt, vb, vp, vd, cb, cp, cv, rfl, hb4, rm⟩
              rw [hM.out] at rm ⊢
              rw [hE.out]
              obtain ⟨⟨tA, tc, rfl⟩, ⟨bA, bc, rfl⟩, ⟨pA, pc, rfl⟩, ⟨dA, dc, rfl⟩, ⟨cA, cc, rfl⟩, ⟨qA, qc, rfl⟩, ⟨vA, vc, rfl⟩⟩ := rm.forms
              unfold msgC
              have hn := Blk.new w4 35 #[.int .i64 0, .int .i64 0, .int .i64 0, .int .i64 0, .int .i64 0, .slice none 0 0, .int .i64 0, .int .i64 0, .slice none 0 0, .slice none 0 0, .int .i64 0, .int .i64 0, .slice none 0 0, .int .i64 0, .int .i64 0, .slice none 0 0, .slice none 0 0, .slice none 0 0, .int .i64 0]
              have hbn := below_one w4 (.cells #[.int .i64 0, .int .i64 0, .int .i64 0, .int .i64 0, .int .i64 0, .slice none 0 0, .int .i64 0, .int .i64 0, .slice none 0 0, .slice none 0 0, .int .i64 0, .int .i64 0, .slice none 0 0, .int .i64 0, .int .i64 0, .slice none 0 0, .slice none 0 0, .slice none 0 0, .int .i64 0] 35)
              go_wp2_with (refine wpList_store_whole (n := 19) rfl rfl rfl rfl (by kernel_rfl) rfl hn rfl rfl ?_)
              intro w5 hX5 hg5
              have hbX5 := below_grownBy hbn hbn.size hg5 (by intro k e; injection e; omega)
              go_wp2
              go_meet
              exact ⟨_, _, _, _, _, _, _, _, rfl, rfl, hX5, rm.mono (vle_from _ (vle_below hbX5)), hb4.trans (hbX5.mono hb4.size)⟩
            · have hbody := Hb.out
              rw [if_neg hca] at hbody
              clear Hb
              replace hbody : RBytes W3.cell? (.slice (some ⟨b0, o0 + a2, none⟩) N (c - a2)) BB := by simpa [add_off] using hbody
              go_wp2_with fail
              refine (decode_any _ BB W3 hbody).mono ?_
              rintro e w4 ⟨vt, vb, vp, vd, cb, cp, cv, rfl, hb4, rm⟩
              rw [hM.out] at rm ⊢
              rw [hE.out]
              obtain ⟨⟨tA, tc, rfl⟩, ⟨bA, bc, rfl⟩, ⟨pA, pc, rfl⟩, ⟨dA, dc, rfl⟩, ⟨cA, cc, rfl⟩, ⟨qA, qc, rfl⟩, ⟨vA, vc, rfl⟩⟩ := rm.forms
              unfold msgC
              have hn := Blk.new w4 35 #[.int .i64 0, .int .i64 0, .int .i64 0, .int .i64 0, .int .i64 0, .slice none 0 0, .int .i64 0, .int .i64 0, .slice none 0 0, .slice none 0 0, .int .i64 0, .int .i64 0, .slice none 0 0, .int .i64 0, .int .i64 0, .slice none 0 0, .slice none 0 0, .slice none 0 0, .int .i64 0]
              have hbn := below_one w4 (.cells #[.int .i64 0, .int .i64 0, .int .i64 0, .int .i64 0, .int .i64 0, .slice none 0 0, .int .i64 0, .int .i64 0, .slice none 0 0, .slice none 0 0, .int .i64 0, .int .i64 0, .slice none 0 0, .int .i64 0, .int .i64 0, .slice none 0 0, .slice none 0 0, .slice none 0 0, .int .i64 0] 35)
              go_wp2_with (refine wpList_store_whole (n := 19) rfl rfl rfl rfl (by kernel_rfl) rfl hn rfl rfl ?_)
              intro w5 hX5 hg5
              have hbX5 := below_grownBy hbn hbn.size hg5 (by intro k e; injection e; omega)
              go_wp2
              go_meet
              exact ⟨_, _, _, _, _, _, _, _, rfl, rfl, hX5, rm.mono (vle_from _ (vle_below hbX5)), hb4.trans (hbX5.mono hb4.size)⟩
          case rest =>
            obtain ⟨gb, vt, vb, vp, vd, cb, cp, cv, rfl, rfl, hXm, rm, hbc⟩ := hcut
            obtain ⟨⟨tA, tc, rfl⟩, ⟨bA, bc, rfl⟩, ⟨pA, pc, rfl⟩, ⟨dA, dc, rfl⟩, ⟨cA, cc, rfl⟩, ⟨qA, qc, rfl⟩, ⟨vA, vc, rfl⟩⟩ := rm.forms
            have hXc := hXr3.kept hbc
            have hownc := hown3.kept (RFrom.mono RMsgR.mono) hbc
            have hblc := hbl3.trans (hbc.mono hbl3.size)
            have hzc := hbc.size
            clear hXr3 x0 x1 hbody
            by_cases hE0 : E = 0
            · subst hE0
              go_wp2_with (refine wpList_load_row_w rfl 35 _ rfl _ rfl _ _ _ _ hXm Try.underlying35 rfl (by kernel_rfl) ?_)
              refine (tapeCheck_any M _ _ _ _ _ _ _ _ (rm.mono (View.from_le _ _)) hsm.out).mono ?_
              rintro e w6 ⟨rfl, hb6⟩
              rw [hF.out]
              have hown6 := hownc.kept (RFrom.mono RMsgR.mono) hb6
              have hbl6 := hblc.trans (hb6.mono hblc.size)
              have hXm6 := hXm.kept hb6
              have rm6 := rm.mono (vle_from _ (vle_below hb6))
              have hz6 := hb6.size
              have hlto := hown3.lt
              clear hownc hXc hXm rm
              by_cases hF0 : F = 0
              · subst hF0
                have hgd : goodR d at_ = true := by rw [hgood.out]; rfl
                obtain ⟨k', hk1', hk2'⟩ := rcv_step (ms := ms) hrun.out.2 hat hgd
                have hrun2 : Hid (rcvR d k' (ms ++ [M]) a3 = R ∧ d.length < k' + a3) := by
                  have e3 : at_ + 2 + recN d at_ = a3 := by rw [hNN.out]; have := ha2.out; have := ha3.out; omega
                  rw [hBB.out, hM.out, e3] at hk1'
                  rw [e3] at hk2'
                  exact ⟨hk1'.symm.trans hrun.out.1, hk2'⟩
                clear hk1' hk2' hrun hgood hgd
                unfold msgC at hXm6
                have hR : RFrom W2.heap.size RMsgR (View.but w6.cell? u7.ownBlock) [.int .i64 M.src, .int .i64 M.dst, .int .i64 M.kind, .int .i64 M.bat.author, .int .i64 M.bat.number, .slice tA M.bat.txs.length tc, .int .i64 M.hdr.author, .int .i64 M.hdr.round, .slice bA M.hdr.batches.length bc, .slice pA M.hdr.parents.length pc, .int .i64 M.slt.author, .int .i64 M.slt.round, .slice dA M.slt.digest.length dc, .int .i64 M.crt.hdr.author, .int .i64 M.crt.hdr.round, .slice cA M.crt.hdr.batches.length cc, .slice qA M.crt.hdr.parents.length qc, .slice vA M.crt.voters.length vc, .int .i64 M.round] M := ⟨_, _, _, _, _, _, _, rfl, rm6.mono (from_butP (by omega) (fun q hq => (hlto q hq).2))⟩
                have hwa : IntKind.i64.wrap ((at_ : Int) + ((2 : Int) + N)) = a3 := by rw [IntKind.wrap_i64]; omega
                have hwn : IntKind.i64.wrap ((2 : Int) + N) = 2 + N := by rw [IntKind.wrap_i64]; omega
                have hmb : Hid (ms.length ≤ 400000) := by show _ ≤ _; omega
                have hml2 : Hid ((ms ++ [M]).length ≤ a3) := by show _ ≤ _; have := ha2.out; have := ha3.out; simp; omega
                have hsz2 : Hid (W2.heap.size ≤ w6.heap.size) := by show _ ≤ _; omega
                go_wp2_with (first | (refine wpList_load_row rfl 35 _ rfl _ rfl _ _ _ _ hXm6 Try.underlying35 rfl (by kernel_rfl) ?_) | (at_builtin; go_loud (refine wpList_append_sl1 (n := 140737488355328) (RFrom.mono RMsgR.mono) M [.int .i64 M.src, .int .i64 M.dst, .int .i64 M.kind, .int .i64 M.bat.author, .int .i64 M.bat.number, .slice tA M.bat.txs.length tc, .int .i64 M.hdr.author, .int .i64 M.hdr.round, .slice bA M.hdr.batches.length bc, .slice pA M.hdr.parents.length pc, .int .i64 M.slt.author, .int .i64 M.slt.round, .slice dA M.slt.digest.length dc, .int .i64 M.crt.hdr.author, .int .i64 M.crt.hdr.round, .slice cA M.crt.hdr.batches.length cc, .slice qA M.crt.hdr.parents.length qc, .slice vA M.crt.voters.length vc, .int .i64 M.round] elemMsg _ _ rfl rfl rfl hown6 hbl6 hsz2.out rfl rfl rfl rfl hR (Nat.le_refl _) (by have := hmb.out; omega) (by have := hmb.out; omega) ?_)))
                intro v' w7 ho hbl7 _
                clear hown6 hR hXm6 rm6
                go_wp2
                go_roundw
                case rel => exact ⟨k', a3, ms ++ [M], rfl, by have := ha2.out; have := ha3.out; omega, hrun2, hml2.out, ho, hbl7⟩
                case measure => have := ha2.out; have := ha3.out; simp [intOf]; omega
              · have hng : Hid (goodR d at_ = false) := by show _ = _; rw [hgood.out, decide_eq_false hF0, Bool.and_false]
                have hRR : Hid (R = (ms, at_)) := hrun.out.1.symm.trans (rcv_stop hng.out)
                have hms := hown6.reads_from (bs := 264) RMsgR.mono (by omega)
                go_wp2
                go_meet
                exact ⟨at_, ms, rfl, hRR, hat, hms, hbl6⟩
            · have hng : Hid (goodR d at_ = false) := by show _ = _; rw [hgood.out, decide_eq_false hE0]; rfl
              have hRR : Hid (R = (ms, at_)) := hrun.out.1.symm.trans (rcv_stop hng.out)
              have hms := hownc.reads_from (bs := 264) RMsgR.mono (by omega)
              go_wp2
              go_meet
              exact ⟨at_, ms, rfl, hRR, hat, hms, hblc⟩
        · have hng : Hid (goodR d at_ = false) := by show _ = _; unfold goodR; rw [hNN.out, decide_eq_false hlen, Bool.and_false]; rfl
          have hRR : Hid (R = (ms, at_)) := hrun.out.1.symm.trans (rcv_stop hng.out)
          have hms := hown3.reads_from (bs := 264) RMsgR.mono (by omega)
          have hgt : (d.length : Int) < (at_ : Int) + 2 + N := by omega
          go_wp2
          go_meet
          exact ⟨at_, ms, rfl, hRR, hat, hms, hbl3⟩
      · have hng : Hid (goodR d at_ = false) := by show _ = _; unfold goodR; rw [decide_eq_false h2]; rfl
        have hRR : Hid (R = (ms, at_)) := hrun.out.1.symm.trans (rcv_stop hng.out)
        have hms := hown.reads_from (bs := 264) RMsgR.mono (by omega)
        have hgt : ¬ (at_ : Int) + 2 ≤ d.length := by omega
        go_wp2
        go_meet
        exact ⟨at_, ms, rfl, hRR, hat, hms, hbl⟩
  case rest =>
    obtain ⟨at_, ms, rfl, hRR, hat, hms, hblc⟩ := hcut
    obtain ⟨mA, mc, rfl, hf⟩ := id hms
    clear hf
    have hXc := hX.kept hblc
    have hkc := hk4.kept hblc
    have rc := r2.mono (vle_below hblc)
    have hzc := hblc.size
    have hzw2 := hbl2.size
    have hac : at_ ≤ c := by omega
    have hac' : (at_ : Int) ≤ (c : Int) := by omega
    have hat0 : (0 : Int) ≤ (at_ : Int) := by omega
    have rd := ((rF.mono (vle_from _ (vle_below hbX))).mono (vle_from _ (vle_below hblc))).cutN hat (Nat.le_refl at_) hac
    have HYY : Hid (Y = if a ≤ (at_ : Int) then a else (at_ : Int)) := by show _ = _; rw [HY.out, hRR.out]
    clear HY HR Hm
    go_wp2_with fail
    refine wp_region_pl (fun w' => Below wc.heap.size wc w') [12, 13] (.q 0 (.q 1 (.q 2 (.q 3 (.q 4 (.q 5 (.q 6 (.q 7 (.q 8 (.q 9 (.q 10 (.q 11 (.l 12 (.qc 13 .nil)))))))))))))) (by kernel_rfl) (by kernel_rfl) (fun _ _ d _ _ h => by cases d <;> exact h) rfl (by kernel_rfl) ?_ ?_
    · exact below_drew _
    intro W3 hS
    repeat (first
      | (refine pl_q (by assumption) rfl rfl ?_; apply Exists.intro; refine ⟨fun w' hS => ?_, ?_⟩; (· (have hq := hXc.kept hS; have h0 := hq.cell 0; have h1 := hq.cell 1; simp at h0 h1; go_simp; exact rfl)); simp only [List.getElem_toArray, List.getElem_cons_zero, List.getElem_cons_succ, Act.put, List.setIfInBounds_toArray, List.set_cons_zero, List.set_cons_succ])
      | (refine pl_qc rfl rfl ?_; apply Exists.intro; refine ⟨fun w' _ => ?_, ?_⟩; (· (go_simp; exact rfl)); simp only [List.getElem_toArray, List.getElem_cons_zero, List.getElem_cons_succ, Act.put, List.setIfInBounds_toArray, List.set_cons_zero, List.set_cons_succ])
      | (refine pl_skip (by assumption) rfl rfl ?_; simp only [List.getElem_toArray, List.getElem_cons_zero, List.getElem_cons_succ, Act.put, List.setIfInBounds_toArray, List.set_cons_zero, List.set_cons_succ])
      | (refine pl_skipl (by assumption) rfl rfl ?_; simp only [List.getElem_toArray, List.getElem_cons_zero, List.getElem_cons_succ, Act.put, List.setIfInBounds_toArray, List.set_cons_zero, List.set_cons_succ]))
    first
      | refine pl_close rfl rfl rfl (fun K hK => ?_)
      | refine op_close rfl rfl rfl (fun K hK => ?_)
    try simp only [List.getElem_toArray, List.getElem_cons_zero, List.getElem_cons_succ]
    refine wp_store_whole (n := 2) rfl rfl rfl (by kernel_rfl) rfl (hkc.kept hS) rfl rfl ?_
    intro w4 hB4 hg4
    refine hK.out _ _ ?_
    clear hK K
    try simp only [List.getElem_toArray, List.getElem_cons_zero, List.getElem_cons_succ, Act.put, List.setIfInBounds_toArray, List.set_cons_zero, List.set_cons_succ]
    repeat (first
      | (refine pl_q (by assumption) rfl rfl ?_; apply Exists.intro; refine ⟨fun w' hS => ?_, ?_⟩; (· (skip; go_simp; exact rfl)); simp only [List.getElem_toArray, List.getElem_cons_zero, List.getElem_cons_succ, Act.put, List.setIfInBounds_toArray, List.set_cons_zero, List.set_cons_succ])
      | (refine pl_qc rfl rfl ?_; apply Exists.intro; refine ⟨fun w' _ => ?_, ?_⟩; (· (go_simp; exact rfl)); simp only [List.getElem_toArray, List.getElem_cons_zero, List.getElem_cons_succ, Act.put, List.setIfInBounds_toArray, List.set_cons_zero, List.set_cons_succ])
      | (refine pl_skip (by assumption) rfl rfl ?_; simp only [List.getElem_toArray, List.getElem_cons_zero, List.getElem_cons_succ, Act.put, List.setIfInBounds_toArray, List.set_cons_zero, List.set_cons_succ])
      | (refine pl_skipl (by assumption) rfl rfl ?_; simp only [List.getElem_toArray, List.getElem_cons_zero, List.getElem_cons_succ, Act.put, List.setIfInBounds_toArray, List.set_cons_zero, List.set_cons_succ]))
    refine pl_nil ?_
    have hblw : Below w.heap.size w w4 := below_grownBy ((hbl2.trans (hblc.mono hzw2)).trans (hS.mono (by omega))) (by have := hS.size; omega) hg4 (by intro k e; injection e; omega)
    have hms4 := (hms.mono RMsgR.mono (vle_from _ (vle_below hS))).mono RMsgR.mono (from_past hg4 (by omega))
    have rd4 := (rd.mono (vle_from _ (vle_below hS))).mono (from_past hg4 (by omega))
    clear hms rd rF r2 rc hX hXc hk4 hkc
    go_wp2
    all_goals
      refine bodyPost_ret (results_tbt rfl rfl (by kernel_rfl) (by kernel_rfl) hB4 rfl) rfl ?_
      refine ⟨.slice mA ms.length mc, .slice A at_ at_, ?_, hblw, ?_, ?_⟩
      · rw [show Y = (if (at_ : Int) < a then (at_ : Int) else a) from HYY.out.trans (min_say _ _)]; rfl
      · rw [hRR.out]; exact hms4.mono RMsgR.mono (View.from_le _ _)
      · rw [hRR.out]; exact rd4.mono (View.from_le _ _)
end Go.Proofs.Ytedealljhmokoaa

namespace Go.Proofs.Ytedealljhmokoaa
open Go.ChangeShapes Go.WideShapes Go.ChangeAt Go.RowKit
set_option linter.unusedVariables false
set_option linter.unusedSimpArgs false
set_option maxHeartbeats 4000000 in
set_option maxRecDepth 100000 in
theorem recovered_any (a : Int) (v : Value) (d : List UInt8) (w : World) (hv : RBytes w.cell? v d) :
    Calls Try.prog 22 #[.agg #[v, .int .i64 a]] w fun e w' => ∃ vm vd, e = .returned (.tuple #[vm, .agg #[vd, .int .i64 (rcvY d a)], .int .i64 (rcvE d a)]) ∧ Below w.heap.size w w' ∧ RMsgs w'.cell? vm (rcvM d a) ∧ RBytes w'.cell? vd (rcvD d a) := by
  have hl : d.length * 1 ≤ 140737488355328 := hv.len
  obtain ⟨A, c, rfl, hf⟩ := id hv
  clear hf
  cases hm : tapeMay d a
  · have hY : rcvY d a = 0 := by unfold rcvY; rw [hm]; rfl
    have hE : rcvE d a = 12 := by unfold rcvE; rw [hm]; rfl
    have hM : rcvM d a = [] := by unfold rcvM; rw [hm]; rfl
    have hD : rcvD d a = [] := by unfold rcvD; rw [hm]; rfl
    rw [hY, hE, hM, hD]
    have Hm := Lib.hid hm
    clear hY hE hM hD hm
    go_enter Try.func22, Try.ntmps22
    go_upto_region 1 with fail
    refine two_blocks _ _ _ _ _ (fun W => Code.wp _ _ _ _ W) (fun W hk1 hk2 hszW hbW => ?_)
    have g0 := hk1.cell 0; have g1 := hk1.cell 1
    simp at g0 g1
    have hzW := hbW.size
    go_wp2_with fail
    refine (tapeMay_any a A c d W (by omega)).mono ?_
    rintro e w1 ⟨rfl, hb1⟩
    rw [Hm.out]
    have hk4 := hk2.kept hb1
    have hbl2 := hbW.trans (hb1.mono hzW)
    clear g0 g1 hk1 hk2
    go_wp2_with (refine wpList_store_whole (n := 2) rfl rfl rfl rfl (by kernel_rfl) rfl hk4 rfl rfl ?_)
    intro w3 hB3 hg3
    go_wp2
    refine bodyPost_ret (results_tbt rfl rfl (by kernel_rfl) (by kernel_rfl) hB3 rfl) rfl ?_
    exact ⟨.slice none 0 0, .slice none 0 0, rfl, below_grownBy hbl2 hbl2.size hg3 (by intro k e; injection e; omega), RMsgs.nil _, RVec.nil _ _ _⟩
  have Hm := Lib.hid hm
  have hd4 : d.length ≤ 400000 ∧ 0 ≤ a ∧ a ≤ d.length := by simp [tapeMay] at hm; omega
  obtain ⟨hd4, ha0, had⟩ := hd4
  obtain ⟨R, hR⟩ : ∃ R, Hid (rcvP d = R) := ⟨_, rfl⟩
  obtain ⟨Y, hY⟩ : ∃ Y, Hid (rcvY d a = Y) := ⟨_, rfl⟩
  have HY : Hid (Y = if a ≤ (R.2 : Int) then a else (R.2 : Int)) := by show _ = _; rw [← hY.out]; unfold rcvY; rw [hm, hR.out]; rfl
  have hE : rcvE d a = 0 := by unfold rcvE; rw [hm]; rfl
  have hM : rcvM d a = R.1 := by unfold rcvM; rw [hm, hR.out]; rfl
  have hD : rcvD d a = d.take R.2 := by unfold rcvD; rw [hm, hR.out]; rfl
  rw [hY.out, hE, hM, hD]
  have HR : Hid (rcvR d (d.length + 1) [] 0 = R) := hR.out
  clear hE hM hD hm hY hR
  go_enter Try.func22, Try.ntmps22
  go_upto_region 1 with fail
  refine two_blocks _ _ _ _ _ (fun W => Code.wp _ _ _ _ W) (fun W hk1 hk2 hszW hbW => ?_)
  have g0 := hk1.cell 0; have g1 := hk1.cell 1
  simp at g0 g1
  have hzW := hbW.size
  have hzW2 : w.heap.size + 2 ≤ W.heap.size := by omega
  clear hszW
  go_wp2_with fail
  refine (tapeMay_any a A c d W (by omega)).mono ?_
  rintro e W2 ⟨rfl, hb1⟩
  rw [Hm.out]
  have hX := hk1.kept hb1
  have hk4 := hk2.kept hb1
  have hbl2 := hbW.trans (hb1.mono hzW)
  have r2 := hv.mono (vle_below hbl2)
  have hzX := hb1.size
  clear g0 g1 hk1 hk2
  obtain ⟨_, hdc, _, _, _, hel⟩ : d.length = d.length ∧ d.length ≤ c ∧ True ∧ True ∧ True ∧ (∀ i (hi : i < d.length), ∃ b o, A = some ⟨b, o, none⟩ ∧ W2.cell? ⟨b, o + i, none⟩ = some (.int .u8 d[i].toNat)) := by
    obtain ⟨A', c', e, h1, _, _, _, h5⟩ := id r2
    injection e with e1 e2 e3
    subst e1 e3
    refine ⟨rfl, h1, trivial, trivial, trivial, fun i hi => ?_⟩
    obtain ⟨b, o, ea, hc⟩ := h5 (by omega)
    exact ⟨b, o, ea, hc i hi⟩
  have Hel := Lib.hid hel
  clear hel
  go_upto_block 0 with fail
  go_cut [5, 6, 7, 8, 9] (fun v i _ _ _ w' => ∃ (at_ : Nat) (ms : List Msg), i = .int .i64 at_ ∧ Hid (R = (ms, at_)) ∧ at_ ≤ d.length ∧ RMsgs (View.from w'.cell? W2.heap.size) v ms ∧ Below W2.heap.size W2 w')
  case first =>
    go_wp2_with fail
    go_loopw [5, 6, 7, 8, 9] (fun v i _ _ _ wr => ∃ (k at_ : Nat) (ms : List Msg), i = .int .i64 at_ ∧ at_ ≤ d.length ∧ Hid (rcvR d k ms at_ = R ∧ d.length < k + at_) ∧ ms.length ≤ at_ ∧ OwnMsgs W2.heap.size wr W2.heap.size v ms ∧ Below W2.heap.size W2 wr) (fun _ i _ _ _ _ => d.length - (intOf i).toNat)
    case atStart => exact ⟨d.length + 1, 0, [], rfl, Nat.zero_le _, ⟨HR.out, by omega⟩, Nat.zero_le _, OwnSl.nil _ _ _ _ _, Below.refl _ _⟩
    case round =>
      obtain ⟨k, at_, ms, rfl, hat, hrun, hml, hown, hbl⟩ := hrel
      have hXr := hX.kept hbl
      have x0 := hXr.cell 0; have x1 := hXr.cell 1
      simp at x0 x1
      have hzr := hbl.size
      by_cases h2 : at_ + 2 ≤ d.length
      · have h2' : (at_ : Int) + 2 ≤ d.length := by omega
        obtain ⟨b0, o0, rfl, e0⟩ := Hel.out at_ (by omega)
        obtain ⟨b1, o1, eA, e1⟩ := Hel.out (at_ + 1) (by omega)
        injection eA with eA
        injection eA with eb eo _
        subst eb eo
        have c0' := vle_below hbl _ _ e0
        have c1' := vle_below hbl _ _ e1
        have hN := Lib.hid (recN_at (d := d) (a := at_) (by omega))
        have hx0 := d[at_].toNat_lt
        have hx1 := d[at_ + 1].toNat_lt
        generalize d[at_].toNat = B0 at *
        generalize d[at_ + 1].toNat = B1 at *
        clear e0 e1
        go_wp2_with fail
        obtain ⟨N, hNN⟩ : ∃ N, Hid (recN d at_ = N) := ⟨_, rfl⟩
        have hNB : B0 * 256 + B1 = N := by rw [← hNN.out]; exact hN.out.symm
        have hN65 : N < 65536 := by omega
        obtain ⟨a2, ha2⟩ : ∃ a2, Hid (at_ + 2 = a2) := ⟨_, rfl⟩
        obtain ⟨a3, ha3⟩ : ∃ a3, Hid (a2 + N = a3) := ⟨_, rfl⟩
        have h2a := ha2.out
        have h3a := ha3.out
        refine wp_region_pl (fun w' => Below wr.heap.size wr w') [18] (.q 0 (.q 1 (.q 2 (.q 3 (.q 4 (.q 5 (.q 6 (.q 7 (.q 8 (.q 9 (.q 10 (.q 11 (.q 12 (.q 13 (.q 14 (.q 15 (.q 16 (.q 17 (.qc 18 .nil))))))))))))))))))) (by kernel_rfl) (by kernel_rfl) (fun _ _ d _ _ h => by cases d <;> exact h) rfl (by kernel_rfl) ?_ ?_
        · exact below_drew _
        intro W3 hS
        have hi1 : (at_ : Int) < d.length := by omega
        have hi2 : (at_ : Int) + 1 < d.length := by omega
        have hw1 : IntKind.i64.wrap ((at_ : Int) + 1) = ((at_ + 1 : Nat) : Int) := by rw [IntKind.wrap_i64]; omega
        have hw2 : IntKind.i64.wrap ((at_ : Int) + 2) = (a2 : Int) := by rw [IntKind.wrap_i64]; omega
        have hwB0 : IntKind.i64.wrap (B0 : Int) = B0 := by rw [IntKind.wrap_i64]; omega
        have hwB1 : IntKind.i64.wrap (B1 : Int) = B1 := by rw [IntKind.wrap_i64]; omega
        have hwB2 : IntKind.i64.wrap ((256 : Int) * (B0 : Int)) = (256 : Int) * (B0 : Int) := by rw [IntKind.wrap_i64]; omega
        have hwB3 : IntKind.i64.wrap ((a2 : Int) + (256 : Int) * (B0 : Int)) = (a2 : Int) + (256 : Int) * (B0 : Int) := by rw [IntKind.wrap_i64]; omega
        have hwB4 : IntKind.i64.wrap ((a2 : Int) + (256 : Int) * (B0 : Int) + (B1 : Int)) = (a3 : Int) := by rw [IntKind.wrap_i64]; omega
        clear h2a h3a hNB
        repeat (first
          | (refine pl_q (by assumption) rfl rfl ?_; apply Exists.intro; refine ⟨fun w' hS => ?_, ?_⟩; (· (have hq := hXr.kept hS; have h0 := hq.cell 0; have h1 := hq.cell 1; simp at h0 h1; have hc0 := vle_below hS _ _ c0'; have hc1 := vle_below hS _ _ c1'; go_simp; exact rfl)); simp only [List.getElem_toArray, List.getElem_cons_zero, List.getElem_cons_succ, Act.put, List.setIfInBounds_toArray, List.set_cons_zero, List.set_cons_succ])
          | (refine pl_qc rfl rfl ?_; apply Exists.intro; refine ⟨fun w' _ => ?_, ?_⟩; (· (go_simp; exact rfl)); simp only [List.getElem_toArray, List.getElem_cons_zero, List.getElem_cons_succ, Act.put, List.setIfInBounds_toArray, List.set_cons_zero, List.set_cons_succ])
          | (refine pl_skip (by assumption) rfl rfl ?_; simp only [List.getElem_toArray, List.getElem_cons_zero, List.getElem_cons_succ, Act.put, List.setIfInBounds_toArray, List.set_cons_zero, List.set_cons_succ])
          | (refine pl_skipl (by assumption) rfl rfl ?_; simp only [List.getElem_toArray, List.getElem_cons_zero, List.getElem_cons_succ, Act.put, List.setIfInBounds_toArray, List.set_cons_zero, List.set_cons_succ]))
        try simp only [hwB0, hwB1, hwB2, hwB3, hwB4]
        refine pl_nil ?_
        have hbl3 := hbl.trans (hS.mono hzr)
        have hXr3 := hXr.kept hS
        have hown3 := hown.kept (RFrom.mono RMsgR.mono) hS
        have r3 := r2.mono (vle_below hbl3)
        have hz3 := hS.size
        clear hN hwB0 hwB1 hwB2 hwB3 hwB4 c0' c1' x0 x1 hXr hown hbl hS hi1 hi2 hw1 hw2 hx0 hx1
        have x0 := hXr3.cell 0; have x1 := hXr3.cell 1
        simp at x0 x1
        by_cases hlen : at_ + 2 + N ≤ d.length
        · have h2a := ha2.out
          have h3a := ha3.out
          have hs1 : (at_ : Int) + 2 = a2 := by omega
          have hle : ¬ (d.length : Int) < a3 := by omega
          have hcc : a2 ≤ a3 ∧ a3 ≤ c ∧ a3 - a2 = N := by omega
          have hc1 : (a2 : Int) ≤ (a3 : Int) := by omega
          have hc2 : (a3 : Int) ≤ (c : Int) := by omega
          obtain ⟨BB, hBB⟩ : ∃ BB, Hid (recB d at_ = BB) := ⟨_, rfl⟩
          have hbody := bodyOf r3 (a := at_) (by rw [hNN.out]; exact hlen)
          rw [hNN.out, hBB.out, ha2.out] at hbody
          clear h2a h3a
          obtain ⟨M, hM⟩ : ∃ M, Hid (decM BB = M) := ⟨_, rfl⟩
          obtain ⟨E, hE⟩ : ∃ E, Hid (decE BB = E) := ⟨_, rfl⟩
          obtain ⟨F, hF⟩ : ∃ F, Hid (recF M = F) := ⟨_, rfl⟩
          have hgood : Hid (goodR d at_ = (decide (E = 0) && decide (F = 0))) := by
            show _ = _
            unfold goodR
            rw [hBB.out, hM.out, hE.out, hF.out, hNN.out, decide_eq_true h2, decide_eq_true hlen]
            rfl
          have hsm := Lib.hid (decM_small BB)
          rw [hM.out] at hsm
          go_upto_region 8 with fail
          go_cut [8, 9] (fun p e w' => ∃ gb vt vb vp vd cb cp cv, p = .pointer (some ⟨gb, 0, none⟩) ∧ e = .int .i64 E ∧ Blk w' gb 35 (msgC M vt vb vp vd cb cp cv) ∧ RMsg (View.from w'.cell? W3.heap.size) M vt vb vp vd cb cp cv ∧ Below W3.heap.size W3 w')
          case first =>
            have Hb := Lib.hid hbody
            clear hbody hown3 hsm hF hgood HR HY
            by_cases hca : c = a2
            · have hbody := Hb.out
              rw [if_pos hca] at hbody
              clear Hb
              subst hca
              rw [Nat.sub_self] at hbody
              go_wp2_with fail
              refine (messageOf_any _ BB W3 hbody).mono ?_
              rintro e w4 ⟨vt, vb, vp, vd, cb, cp, cv, rfl, hb4, rm⟩
              rw [hM.out] at rm ⊢
              rw [hE.out]
              obtain ⟨⟨tA, tc, rfl⟩, ⟨bA, bc, rfl⟩, ⟨pA, pc, rfl⟩, ⟨dA, dc, rfl⟩, ⟨cA, cc, rfl⟩, ⟨qA, qc, rfl⟩, ⟨vA, vc, rfl⟩⟩ := rm.forms
              unfold msgC
              have hn := Blk.new w4 35 #[.int .i64 0, .int .i64 0, .int .i64 0, .int .i64 0, .int .i64 0, .slice none 0 0, .int .i64 0, .int .i64 0, .slice none 0 0, .slice none 0 0, .int .i64 0, .int .i64 0, .slice none 0 0, .int .i64 0, .int .i64 0, .slice none 0 0, .slice none 0 0, .slice none 0 0, .int .i64 0]
              have hbn := below_one w4 (.cells #[.int .i64 0, .int .i64 0, .int .i64 0, .int .i64 0, .int .i64 0, .slice none 0 0, .int .i64 0, .int .i64 0, .slice none 0 0, .slice none 0 0, .int .i64 0, .int .i64 0, .slice none 0 0, .int .i64 0, .int .i64 0, .slice none 0 0, .slice none 0 0, .slice none 0 0, .int .i64 0] 35)
              go_wp2_with (refine wpList_store_whole (n := 19) rfl rfl rfl rfl (by kernel_rfl) rfl hn rfl rfl ?_)
              intro w5 hX5 hg5
              have hbX5 := below_grownBy hbn hbn.size hg5 (by intro k e; injection e; omega)
              go_wp2
              go_meet
              exact ⟨_, _, _, _, _, _, _, _, rfl, rfl, hX5, rm.mono (vle_from _ (vle_below hbX5)), hb4.trans (hbX5.mono hb4.size)⟩
            · have hbody := Hb.out
              rw [if_neg hca] at hbody
              clear Hb
              replace hbody : RBytes W3.cell? (.slice (some ⟨b0, o0 + a2, none⟩) N (c - a2)) BB := by simpa [add_off] using hbody
              go_wp2_with fail
              refine (messageOf_any _ BB W3 hbody).mono ?_
              rintro e w4 ⟨vt, vb, vp, vd, cb, cp, cv, rfl, hb4, rm⟩
              rw [hM.out] at rm ⊢
              rw [hE.out]
              obtain ⟨⟨tA, tc, rfl⟩, ⟨bA, bc, rfl⟩, ⟨pA, pc, rfl⟩, ⟨dA, dc, rfl⟩, ⟨cA, cc, rfl⟩, ⟨qA, qc, rfl⟩, ⟨vA, vc, rfl⟩⟩ := rm.forms
              unfold msgC
              have hn := Blk.new w4 35 #[.int .i64 0, .int .i64 0, .int .i64 0, .int .i64 0, .int .i64 0, .slice none 0 0, .int .i64 0, .int .i64 0, .slice none 0 0, .slice none 0 0, .int .i64 0, .int .i64 0, .slice none 0 0, .int .i64 0, .int .i64 0, .slice none 0 0, .slice none 0 0, .slice none 0 0, .int .i64 0]
              have hbn := below_one w4 (.cells #[.int .i64 0, .int .i64 0, .int .i64 0, .int .i64 0, .int .i64 0, .slice none 0 0, .int .i64 0, .int .i64 0, .slice none 0 0, .slice none 0 0, .int .i64 0, .int .i64 0, .slice none 0 0, .int .i64 0, .int .i64 0, .slice none 0 0, .slice none 0 0, .slice none 0 0, .int .i64 0] 35)
              go_wp2_with (refine wpList_store_whole (n := 19) rfl rfl rfl rfl (by kernel_rfl) rfl hn rfl rfl ?_)
              intro w5 hX5 hg5
              have hbX5 := below_grownBy hbn hbn.size hg5 (by intro k e; injection e; omega)
              go_wp2
              go_meet
              exact ⟨_, _, _, _, _, _, _, _, rfl, rfl, hX5, rm.mono (vle_from _ (vle_below hbX5)), hb4.trans (hbX5.mono hb4.size)⟩
          case rest =>
            obtain ⟨gb, vt, vb, vp, vd, cb, cp, cv, rfl, rfl, hXm, rm, hbc⟩ := hcut
            obtain ⟨⟨tA, tc, rfl⟩, ⟨bA, bc, rfl⟩, ⟨pA, pc, rfl⟩, ⟨dA, dc, rfl⟩, ⟨cA, cc, rfl⟩, ⟨qA, qc, rfl⟩, ⟨vA, vc, rfl⟩⟩ := rm.forms
            have hXc := hXr3.kept hbc
            have hownc := hown3.kept (RFrom.mono RMsgR.mono) hbc
            have hblc := hbl3.trans (hbc.mono hbl3.size)
            have hzc := hbc.size
            clear hXr3 x0 x1 hbody
            by_cases hE0 : E = 0
            · subst hE0
              go_wp2_with (refine wpList_load_row_w rfl 35 _ rfl _ rfl _ _ _ _ hXm Try.underlying35 rfl (by kernel_rfl) ?_)
              refine (recordFault_any M _ _ _ _ _ _ _ _ (rm.mono (View.from_le _ _)) hsm.out).mono ?_
              rintro e w6 ⟨rfl, hb6⟩
              rw [hF.out]
              have hown6 := hownc.kept (RFrom.mono RMsgR.mono) hb6
              have hbl6 := hblc.trans (hb6.mono hblc.size)
              have hXm6 := hXm.kept hb6
              have rm6 := rm.mono (vle_from _ (vle_below hb6))
              have hz6 := hb6.size
              have hlto := hown3.lt
              clear hownc hXc hXm rm
              by_cases hF0 : F = 0
              · subst hF0
                have hgd : goodR d at_ = true := by rw [hgood.out]; rfl
                obtain ⟨k', hk1', hk2'⟩ := rcv_step (ms := ms) hrun.out.2 hat hgd
                have hrun2 : Hid (rcvR d k' (ms ++ [M]) a3 = R ∧ d.length < k' + a3) := by
                  have e3 : at_ + 2 + recN d at_ = a3 := by rw [hNN.out]; have := ha2.out; have := ha3.out; omega
                  rw [hBB.out, hM.out, e3] at hk1'
                  rw [e3] at hk2'
                  exact ⟨hk1'.symm.trans hrun.out.1, hk2'⟩
                clear hk1' hk2' hrun hgood hgd
                unfold msgC at hXm6
                have hR : RFrom W2.heap.size RMsgR (View.but w6.cell? u5.ownBlock) [.int .i64 M.src, .int .i64 M.dst, .int .i64 M.kind, .int .i64 M.bat.author, .int .i64 M.bat.number, .slice tA M.bat.txs.length tc, .int .i64 M.hdr.author, .int .i64 M.hdr.round, .slice bA M.hdr.batches.length bc, .slice pA M.hdr.parents.length pc, .int .i64 M.slt.author, .int .i64 M.slt.round, .slice dA M.slt.digest.length dc, .int .i64 M.crt.hdr.author, .int .i64 M.crt.hdr.round, .slice cA M.crt.hdr.batches.length cc, .slice qA M.crt.hdr.parents.length qc, .slice vA M.crt.voters.length vc, .int .i64 M.round] M := ⟨_, _, _, _, _, _, _, rfl, rm6.mono (from_butP (by omega) (fun q hq => (hlto q hq).2))⟩
                have hmb : Hid (ms.length ≤ 400000) := by show _ ≤ _; omega
                have hml2 : Hid ((ms ++ [M]).length ≤ a3) := by show _ ≤ _; have := ha2.out; have := ha3.out; simp; omega
                have hsz2 : Hid (W2.heap.size ≤ w6.heap.size) := by show _ ≤ _; omega
                go_wp2_with (first | (refine wpList_load_row rfl 35 _ rfl _ rfl _ _ _ _ hXm6 Try.underlying35 rfl (by kernel_rfl) ?_) | (at_builtin; go_loud (refine wpList_append_sl1 (n := 140737488355328) (RFrom.mono RMsgR.mono) M [.int .i64 M.src, .int .i64 M.dst, .int .i64 M.kind, .int .i64 M.bat.author, .int .i64 M.bat.number, .slice tA M.bat.txs.length tc, .int .i64 M.hdr.author, .int .i64 M.hdr.round, .slice bA M.hdr.batches.length bc, .slice pA M.hdr.parents.length pc, .int .i64 M.slt.author, .int .i64 M.slt.round, .slice dA M.slt.digest.length dc, .int .i64 M.crt.hdr.author, .int .i64 M.crt.hdr.round, .slice cA M.crt.hdr.batches.length cc, .slice qA M.crt.hdr.parents.length qc, .slice vA M.crt.voters.length vc, .int .i64 M.round] elemMsg _ _ rfl rfl rfl hown6 hbl6 hsz2.out rfl rfl rfl rfl hR (Nat.le_refl _) (by have := hmb.out; omega) (by have := hmb.out; omega) ?_)))
                intro v' w7 ho hbl7 _
                clear hown6 hR hXm6 rm6
                go_wp2
                go_roundw
                case rel => exact ⟨k', a3, ms ++ [M], rfl, by have := ha2.out; have := ha3.out; omega, hrun2, hml2.out, ho, hbl7⟩
                case measure => have := ha2.out; have := ha3.out; simp [intOf]; omega
              · have hng : Hid (goodR d at_ = false) := by show _ = _; rw [hgood.out, decide_eq_false hF0, Bool.and_false]
                have hRR : Hid (R = (ms, at_)) := hrun.out.1.symm.trans (rcv_stop hng.out)
                have hms := hown6.reads_from (bs := 264) RMsgR.mono (by omega)
                go_wp2
                go_meet
                exact ⟨at_, ms, rfl, hRR, hat, hms, hbl6⟩
            · have hng : Hid (goodR d at_ = false) := by show _ = _; rw [hgood.out, decide_eq_false hE0]; rfl
              have hRR : Hid (R = (ms, at_)) := hrun.out.1.symm.trans (rcv_stop hng.out)
              have hms := hownc.reads_from (bs := 264) RMsgR.mono (by omega)
              go_wp2
              go_meet
              exact ⟨at_, ms, rfl, hRR, hat, hms, hblc⟩
        · have hng : Hid (goodR d at_ = false) := by show _ = _; unfold goodR; rw [hNN.out, decide_eq_false hlen, Bool.and_false]; rfl
          have hRR : Hid (R = (ms, at_)) := hrun.out.1.symm.trans (rcv_stop hng.out)
          have hms := hown3.reads_from (bs := 264) RMsgR.mono (by omega)
          have hgt : (d.length : Int) < (a3 : Int) := by have := ha2.out; have := ha3.out; omega
          go_wp2
          go_meet
          exact ⟨at_, ms, rfl, hRR, hat, hms, hbl3⟩
      · have hng : Hid (goodR d at_ = false) := by show _ = _; unfold goodR; rw [decide_eq_false h2]; rfl
        have hRR : Hid (R = (ms, at_)) := hrun.out.1.symm.trans (rcv_stop hng.out)
        have hms := hown.reads_from (bs := 264) RMsgR.mono (by omega)
        have hgt : ¬ (at_ : Int) + 2 ≤ d.length := by omega
        go_wp2
        go_meet
        exact ⟨at_, ms, rfl, hRR, hat, hms, hbl⟩
  case rest =>
    obtain ⟨at_, ms, rfl, hRR, hat, hms, hblc⟩ := hcut
    obtain ⟨mA, mc, rfl, hf⟩ := id hms
    clear hf
    have hXc := hX.kept hblc
    have hkc := hk4.kept hblc
    have rc := r2.mono (vle_below hblc)
    have hzc := hblc.size
    have hzw2 := hbl2.size
    have hac' : (at_ : Int) ≤ (c : Int) := by omega
    have hat0 : (0 : Int) ≤ (at_ : Int) := by omega
    have rd := rc.takeN hat
    have hYY : Hid (Y = if a ≤ (at_ : Int) then a else (at_ : Int)) := by show _ = _; rw [HY.out, hRR.out]
    have x0 := hXc.cell 0; have x1 := hXc.cell 1
    simp at x0 x1
    obtain ⟨T, hT⟩ : ∃ T, Hid (d.take at_ = T) := ⟨_, rfl⟩
    have hTl : Hid (T.length = at_) := by show _ = _; rw [← hT.out]; simp; omega
    rw [hT.out] at rd
    clear HY HR Hm
    by_cases hmin : a ≤ (at_ : Int)
    · have hYa : Hid (Y = a) := by show _ = _; rw [hYY.out, if_pos hmin]
      go_wp2_with fail
      refine (joined_any _ _ T [] wc rd (RVec.nil _ _ _) 140737488355328 (Nat.le_refl _) (by rw [hTl.out]; simp; omega)).mono ?_
      rintro e w3 ⟨dv, rfl, hb3, o3⟩
      rw [List.append_nil] at o3
      have hk3 := hkc.kept hb3
      have hms3 := hms.mono RMsgR.mono (vle_from _ (vle_below hb3))
      have ro3 := o3.from_ (bs := 1) (b0 := W2.heap.size) (by rw [hTl.out]; omega) (by omega)
      obtain ⟨A3, c3, rfl⟩ := o3.form
      have hbl3 := (hbl2.trans (hblc.mono hzw2)).trans (hb3.mono (by omega))
      clear x0 x1 o3
      go_wp2_with (refine wpList_store_whole (n := 2) rfl rfl rfl rfl (by kernel_rfl) rfl hk3 rfl rfl ?_)
      intro w4 hB4 hg4
      go_wp2
      refine bodyPost_ret (results_tbt rfl rfl (by kernel_rfl) (by kernel_rfl) hB4 rfl) rfl ?_
      refine ⟨.slice mA ms.length mc, .slice A3 T.length c3, by rw [hYa.out]; rfl, below_grownBy hbl3 hbl3.size hg4 (by intro k e; injection e; omega), ?_, ?_⟩
      · rw [hRR.out]; exact (hms3.mono RMsgR.mono (from_past hg4 (by omega))).mono RMsgR.mono (View.from_le _ _)
      · rw [hRR.out, hT.out]; exact (ro3.mono (from_past hg4 (by omega))).mono (View.from_le _ _)
    · have hYa : Hid (Y = (at_ : Int)) := by show _ = _; rw [hYY.out, if_neg hmin]
      go_wp2_with fail
      refine (joined_any _ _ T [] wc rd (RVec.nil _ _ _) 140737488355328 (Nat.le_refl _) (by rw [hTl.out]; simp; omega)).mono ?_
      rintro e w3 ⟨dv, rfl, hb3, o3⟩
      rw [List.append_nil] at o3
      have hk3 := hkc.kept hb3
      have hms3 := hms.mono RMsgR.mono (vle_from _ (vle_below hb3))
      have ro3 := o3.from_ (bs := 1) (b0 := W2.heap.size) (by rw [hTl.out]; omega) (by omega)
      obtain ⟨A3, c3, rfl⟩ := o3.form
      have hbl3 := (hbl2.trans (hblc.mono hzw2)).trans (hb3.mono (by omega))
      clear x0 x1 o3
      go_wp2_with (refine wpList_store_whole (n := 2) rfl rfl rfl rfl (by kernel_rfl) rfl hk3 rfl rfl ?_)
      intro w4 hB4 hg4
      go_wp2
      refine bodyPost_ret (results_tbt rfl rfl (by kernel_rfl) (by kernel_rfl) hB4 rfl) rfl ?_
      refine ⟨.slice mA ms.length mc, .slice A3 T.length c3, by rw [hYa.out]; rfl, below_grownBy hbl3 hbl3.size hg4 (by intro k e; injection e; omega), ?_, ?_⟩
      · rw [hRR.out]; exact (hms3.mono RMsgR.mono (from_past hg4 (by omega))).mono RMsgR.mono (View.from_le _ _)
      · rw [hRR.out, hT.out]; exact (ro3.mono (from_past hg4 (by omega))).mono (View.from_le _ _)
end Go.Proofs.Ytedealljhmokoaa

namespace Go.Proofs.Ytedealljhmokoaa
open Go.ChangeShapes Go.WideShapes Go.ChangeAt Go.RowKit
set_option linter.unusedVariables false
set_option linter.unusedSimpArgs false
theorem run_op_mid {P : Program} {ev : Operand → Value} {o : Oper} {w : World} (ty : TypeId) (x : Operand) (ho : o.op = .load ty x)
    (b off : Nat) (hx : ev x = .pointer (some ⟨b, off, none⟩)) (cs : List Value) (d : TypeDesc) (hc : w.rangeAt b off cs)
    (hu : P.underlying ty = some d) (hd : d.isRow = true) (hi : (P.info? ty).map (·.size) = some cs.length) : (execOp ev o).run P w = .ok (.value (.agg cs.toArray)) w := by
  unfold execOp
  simp only [ho, hx, Instr.loadAt, Instr.sureAddr, Sem.run_bind, Sem.run_pure, Result.andThen_ok, run_loadVar_mid w b off ty cs d hc hu hd hi]
theorem RMsgs.at {h : View} {A : Option Addr} {n c : Nat} {xs : List Msg} (hr : RMsgs h (.slice A n c) xs) : n = xs.length ∧ n ≤ c ∧ n * 264 ≤ 140737488355328 ∧ ∀ k (hk : k < xs.length), ∃ b o vt vb vp vd cb cp cv, A = some ⟨b, o, none⟩ ∧ (∀ j u, (msgC xs[k] vt vb vp vd cb cp cv).toList[j]? = some u → h ⟨b, o + k * 19 + j, none⟩ = some u) ∧ RMsg h xs[k] vt vb vp vd cb cp cv := by
  obtain ⟨A', c', e, h1, _, h2, _, h3⟩ := hr
  injection e with e1 e2 e3
  subst e1 e2 e3
  refine ⟨rfl, h1, h2, fun k hk => ?_⟩
  obtain ⟨b, o, ea, hc⟩ := h3 (by omega)
  obtain ⟨cs, hl, hcell, vt, vb, vp, vd, cb, cp, cv, rfl, r⟩ := hc k hk
  exact ⟨b, o, vt, vb, vp, vd, cb, cp, cv, ea, fun j u hu => by rw [hcell j (by rw [← hl]; exact (List.getElem?_eq_some_iff.1 hu).1)]; exact hu, r⟩
set_option maxHeartbeats 4000000 in
set_option maxRecDepth 100000 in
theorem sameMessages_same (va vb : Value) (l : List Msg) (w : World) (ha : RMsgs w.cell? va l) (hb : RMsgs w.cell? vb l) :
    Calls Try.prog 23 #[va, vb] w fun e w' => e = .returned (.bool true) ∧ Below w.heap.size w w' := by
  obtain ⟨A, c, rfl, hf⟩ := id ha
  clear hf
  obtain ⟨B, d, rfl, hf⟩ := id hb
  clear hf
  obtain ⟨_, hn1, hn2, hel⟩ := RMsgs.at ha
  obtain ⟨_, hn3, _, hel2⟩ := RMsgs.at hb
  have Hel := Lib.hid hel
  have Hel2 := Lib.hid hel2
  clear hel hel2 ha hb
  go_enter Try.func23, Try.ntmps23
  go_wp2
  go_loopw [5] (fun i wr => ∃ k : Nat, k ≤ l.length ∧ i = .int .i64 k ∧ Below w.heap.size w wr) (fun i _ => l.length - (intOf i).toNat)
  case atStart => exact ⟨0, Nat.zero_le _, rfl, Below.refl _ _⟩
  case round =>
    obtain ⟨k, hk, rfl, hbl⟩ := hrel
    by_cases hlt : k < l.length
    · obtain ⟨b0, o0, vt, vb, vp, vd, cb, cp, cv, rfl, hc0, rm0⟩ := Hel.out k hlt
      obtain ⟨b1, o1, vt', vb', vp', vd', cb', cp', cv', rfl, hc1, rm1⟩ := Hel2.out k hlt
      generalize l[k] = M at hc0 rm0 hc1 rm1
      have hc0 := Lib.hid hc0
      have hc1 := Lib.hid hc1
      go_wp2_with fail
      refine wp_region_pl (fun w' => Below wr.heap.size wr w') [] (.q 0 (.q 1 (.q 2 (.q 3 (.q 4 (.q 5 (.q 6 (.q 7 (.l 8 (.q 9 .nil)))))))))) (by kernel_rfl) (by kernel_rfl) (fun _ _ d _ _ h => by cases d <;> exact h) rfl (by kernel_rfl) ?_ ?_
      · exact below_drew _
      intro W hS
      repeat (first
        | (refine pl_q (by assumption) rfl rfl ?_; apply Exists.intro; refine ⟨fun w' hS => ?_, ?_⟩; (· (skip; go_simp; exact rfl)); simp only [List.getElem_toArray, List.getElem_cons_zero, List.getElem_cons_succ, Act.put, List.setIfInBounds_toArray, List.set_cons_zero, List.set_cons_succ])
        | (refine pl_qc rfl rfl ?_; apply Exists.intro; refine ⟨fun w' _ => ?_, ?_⟩; (· (go_simp; exact rfl)); simp only [List.getElem_toArray, List.getElem_cons_zero, List.getElem_cons_succ, Act.put, List.setIfInBounds_toArray, List.set_cons_zero, List.set_cons_succ])
        | (refine pl_skip (by assumption) rfl rfl ?_; simp only [List.getElem_toArray, List.getElem_cons_zero, List.getElem_cons_succ, Act.put, List.setIfInBounds_toArray, List.set_cons_zero, List.set_cons_succ])
        | (refine pl_skipl (by assumption) rfl rfl ?_; simp only [List.getElem_toArray, List.getElem_cons_zero, List.getElem_cons_succ, Act.put, List.setIfInBounds_toArray, List.set_cons_zero, List.set_cons_succ]))
      refine pl_q (by assumption) rfl rfl ?_
      apply Exists.intro
      refine ⟨fun w' hS => run_op_mid 35 _ rfl _ _ rfl _ _ (fun j u hu => vle_below hS _ _ (vle_below hbl _ _ (hc0.out j u hu))) Try.underlying35 rfl (by kernel_rfl), ?_⟩
      simp only [List.getElem_toArray, List.getElem_cons_zero, List.getElem_cons_succ, Act.put, List.setIfInBounds_toArray, List.set_cons_zero, List.set_cons_succ]
      repeat (first
        | (refine pl_q (by assumption) rfl rfl ?_; apply Exists.intro; refine ⟨fun w' hS => ?_, ?_⟩; (· (skip; go_simp; exact rfl)); simp only [List.getElem_toArray, List.getElem_cons_zero, List.getElem_cons_succ, Act.put, List.setIfInBounds_toArray, List.set_cons_zero, List.set_cons_succ])
        | (refine pl_qc rfl rfl ?_; apply Exists.intro; refine ⟨fun w' _ => ?_, ?_⟩; (· (go_simp; exact rfl)); simp only [List.getElem_toArray, List.getElem_cons_zero, List.getElem_cons_succ, Act.put, List.setIfInBounds_toArray, List.set_cons_zero, List.set_cons_succ])
        | (refine pl_skip (by assumption) rfl rfl ?_; simp only [List.getElem_toArray, List.getElem_cons_zero, List.getElem_cons_succ, Act.put, List.setIfInBounds_toArray, List.set_cons_zero, List.set_cons_succ])
        | (refine pl_skipl (by assumption) rfl rfl ?_; simp only [List.getElem_toArray, List.getElem_cons_zero, List.getElem_cons_succ, Act.put, List.setIfInBounds_toArray, List.set_cons_zero, List.set_cons_succ]))
      refine pl_q (by assumption) rfl rfl ?_
      apply Exists.intro
      refine ⟨fun w' hS => run_op_mid 35 _ rfl _ _ rfl _ _ (fun j u hu => vle_below hS _ _ (vle_below hbl _ _ (hc1.out j u hu))) Try.underlying35 rfl (by kernel_rfl), ?_⟩
      simp only [List.getElem_toArray, List.getElem_cons_zero, List.getElem_cons_succ, Act.put, List.setIfInBounds_toArray, List.set_cons_zero, List.set_cons_succ]
      repeat (first
        | (refine pl_q (by assumption) rfl rfl ?_; apply Exists.intro; refine ⟨fun w' hS => ?_, ?_⟩; (· (skip; go_simp; exact rfl)); simp only [List.getElem_toArray, List.getElem_cons_zero, List.getElem_cons_succ, Act.put, List.setIfInBounds_toArray, List.set_cons_zero, List.set_cons_succ])
        | (refine pl_qc rfl rfl ?_; apply Exists.intro; refine ⟨fun w' _ => ?_, ?_⟩; (· (go_simp; exact rfl)); simp only [List.getElem_toArray, List.getElem_cons_zero, List.getElem_cons_succ, Act.put, List.setIfInBounds_toArray, List.set_cons_zero, List.set_cons_succ])
        | (refine pl_skip (by assumption) rfl rfl ?_; simp only [List.getElem_toArray, List.getElem_cons_zero, List.getElem_cons_succ, Act.put, List.setIfInBounds_toArray, List.set_cons_zero, List.set_cons_succ])
        | (refine pl_skipl (by assumption) rfl rfl ?_; simp only [List.getElem_toArray, List.getElem_cons_zero, List.getElem_cons_succ, Act.put, List.setIfInBounds_toArray, List.set_cons_zero, List.set_cons_succ]))
      have hblW := hbl.trans (hS.mono hbl.size)
      have hzW := hblW.size
      first
        | refine pl_do rfl rfl (fun K hK => ?_)
        | refine op_do rfl rfl (fun K hK => ?_)
      try simp only [List.getElem_toArray, List.getElem_cons_zero, List.getElem_cons_succ]
      go_simp
      refine (sameMessage_same M _ _ _ _ _ _ _ _ _ _ _ _ _ _ W (rm0.mono (vle_below hblW)) (rm1.mono (vle_below hblW))).mono ?_
      rintro e w2 ⟨rfl, hb2⟩
      refine hK.out _ _ (hS.trans (hb2.mono hS.size)) (fun hS => ?_)
      clear hK K
      try simp only [List.getElem_toArray, List.getElem_cons_zero, List.getElem_cons_succ, Act.put, List.setIfInBounds_toArray, List.set_cons_zero, List.set_cons_succ]
      repeat (first
        | (refine pl_q (by assumption) rfl rfl ?_; apply Exists.intro; refine ⟨fun w' hS => ?_, ?_⟩; (· (skip; go_simp; exact rfl)); simp only [List.getElem_toArray, List.getElem_cons_zero, List.getElem_cons_succ, Act.put, List.setIfInBounds_toArray, List.set_cons_zero, List.set_cons_succ])
        | (refine pl_qc rfl rfl ?_; apply Exists.intro; refine ⟨fun w' _ => ?_, ?_⟩; (· (go_simp; exact rfl)); simp only [List.getElem_toArray, List.getElem_cons_zero, List.getElem_cons_succ, Act.put, List.setIfInBounds_toArray, List.set_cons_zero, List.set_cons_succ])
        | (refine pl_skip (by assumption) rfl rfl ?_; simp only [List.getElem_toArray, List.getElem_cons_zero, List.getElem_cons_succ, Act.put, List.setIfInBounds_toArray, List.set_cons_zero, List.set_cons_succ])
        | (refine pl_skipl (by assumption) rfl rfl ?_; simp only [List.getElem_toArray, List.getElem_cons_zero, List.getElem_cons_succ, Act.put, List.setIfInBounds_toArray, List.set_cons_zero, List.set_cons_succ]))
      refine pl_nil ?_
      go_wp2
      go_roundw
      case rel => exact ⟨k + 1, by omega, by go_num, hblW.trans (hb2.mono hzW)⟩
      case measure => simp [intOf]; omega
    · go_wp2
      go_ret
      exact ⟨rfl, hbl⟩
end Go.Proofs.Ytedealljhmokoaa

namespace Go.Proofs.Ytedealljhmokoaa
open Go.ChangeShapes Go.WideShapes Go.ChangeAt Go.RowKit
set_option linter.unusedVariables false
set_option linter.unusedSimpArgs false
set_option maxHeartbeats 4000000 in
set_option maxRecDepth 100000 in
theorem tapeRecovers_any (a : Int) (v : Value) (d : List UInt8) (w : World) (hv : RBytes w.cell? v d) : Calls Try.prog 7 #[.agg #[v, .int .i64 a]] w fun e w' => e = .returned (.bool true) ∧ Below w.heap.size w w' := by
  have hl : d.length * 1 ≤ 140737488355328 := hv.len
  obtain ⟨A0, c0, rfl, hf⟩ := id hv
  clear hf
  obtain ⟨E, hE⟩ : ∃ q, Hid (rcvE d a = q) := ⟨_, rfl⟩
  obtain ⟨Y, hY⟩ : ∃ q, Hid (rcvY d a = q) := ⟨_, rfl⟩
  obtain ⟨M, hM⟩ : ∃ q, Hid (rcvM d a = q) := ⟨_, rfl⟩
  obtain ⟨D, hD⟩ : ∃ q, Hid (rcvD d a = q) := ⟨_, rfl⟩
  go_enter Try.func7, Try.ntmps7
  go_upto_region 1 with fail
  refine one_block _ _ _ (fun W => Code.wp _ _ _ _ W) (fun W hk hszW hbW => ?_)
  have g0 := hk.cell 0; have g1 := hk.cell 1
  simp at g0 g1
  have hzW := hbW.size
  go_wp2_with fail
  refine (tapes_any a _ d W (hv.mono (vle_below hbW))).mono ?_
  rintro e w1 ⟨d1, rfl, hb1, o1⟩
  have r1 := o1.reads (bs := 1) hl
  obtain ⟨A1, c1, rfl⟩ := o1.form
  have hk1 := hk.kept hb1
  have hbl1 := hbW.trans (hb1.mono hzW)
  clear g0 g1 hk o1 hszW
  go_upto_region 2 with fail
  refine one_block _ _ _ (fun W => Code.wp _ _ _ _ W) (fun W2 hX hsX hbX => ?_)
  have hk2 := hk1.kept hbX
  have hbl2 := hbl1.trans (hbX.mono hbl1.size)
  have r2 := r1.mono (vle_below hbX)
  have x0 := hX.cell 0; have x1 := hX.cell 1
  simp at x0 x1
  clear hsX hk1 r1
  go_wp2_with fail
  refine (recover_any a _ d W2 r2).mono ?_
  rintro e w3 ⟨vm, vd, rfl, hb3, rm3, rd3⟩
  rw [hE.out, hY.out]
  rw [hM.out] at rm3
  rw [hD.out] at rd3
  have hX3 := hX.kept hb3
  have hk3 := hk2.kept hb3
  have r3 := r2.mono (vle_below hb3)
  have hbl3 := hbl2.trans (hb3.mono hbl2.size)
  obtain ⟨mA, mc, rfl, hf⟩ := id rm3
  obtain ⟨dA, dc, rfl, hf⟩ := id rd3
  clear hf hX hk2 r2 x0 x1
  go_upto_region 3 with fail
  refine one_block _ _ _ (fun W => Code.wp _ _ _ _ W) (fun W4 hY4 hsY hbY => ?_)
  have hX4 := hX3.kept hbY
  have hk4 := hk3.kept hbY
  have r4 := r3.mono (vle_below hbY)
  have rm4 := rm3.mono RMsgR.mono (vle_below hbY)
  have rd4 := rd3.mono (vle_below hbY)
  have hbl4 := hbl3.trans (hbY.mono hbl3.size)
  have g0 := hk4.cell 0; have g1 := hk4.cell 1
  simp at g0 g1
  clear hsY hX3 hk3 r3 rm3 rd3
  go_wp2_with fail
  refine (recovered_any a _ d W4 (hv.mono (vle_below hbl4))).mono ?_
  rintro e w5 ⟨vm', vd', rfl, hb5, rm5, rd5⟩
  rw [hE.out, hY.out]
  rw [hM.out] at rm5
  rw [hD.out] at rd5
  have hY5 := hY4.kept hb5
  have hX5 := hX4.kept hb5
  have hk5 := hk4.kept hb5
  have r5 := r4.mono (vle_below hb5)
  have rm45 := rm4.mono RMsgR.mono (vle_below hb5)
  have rd45 := rd4.mono (vle_below hb5)
  have hbl5 := hbl4.trans (hb5.mono hbl4.size)
  obtain ⟨mA', mc', rfl, hf⟩ := id rm5
  obtain ⟨dA', dc', rfl, hf⟩ := id rd5
  clear hf hY4 hX4 hk4 r4 rm4 rd4 g0 g1
  go_upto_region 4 with fail
  refine one_block _ _ _ (fun W => Code.wp _ _ _ _ W) (fun W6 hZ6 hsZ hbZ => ?_)
  have hY6 := hY5.kept hbZ
  have hX6 := hX5.kept hbZ
  have hk6 := hk5.kept hbZ
  have r6 := r5.mono (vle_below hbZ)
  have rm46 := rm45.mono RMsgR.mono (vle_below hbZ)
  have rd46 := rd45.mono (vle_below hbZ)
  have rm6 := rm5.mono RMsgR.mono (vle_below hbZ)
  have rd6 := rd5.mono (vle_below hbZ)
  have hbl6 := hbl5.trans (hbZ.mono hbl5.size)
  clear hsZ hY5 hX5 hk5 r5 rm45 rd45 rm5 rd5
  go_wp2_with fail
  refine (sameMessages_same _ _ M W6 rm46 rm6).mono ?_
  rintro e w7 ⟨rfl, hb7⟩
  have hY7 := hY6.kept hb7
  have hZ7 := hZ6.kept hb7
  have hX7 := hX6.kept hb7
  have hk7 := hk6.kept hb7
  have hbl7 := hbl6.trans (hb7.mono hbl6.size)
  have y0 := hY7.cell 0; have y1 := hY7.cell 1
  have z0 := hZ7.cell 0; have z1 := hZ7.cell 1
  simp at y0 y1 z0 z1
  clear hY6 hZ6 hX6 hk6
  go_wp2_with fail
  refine (sameTape_any _ _ D D Y Y w7 (rd46.mono (vle_below hb7)) (rd6.mono (vle_below hb7))).mono ?_
  rintro e w8 ⟨rfl, hb8⟩
  simp only [beq_self_eq_true, Bool.and_self]
  have hX8 := hX7.kept hb8
  have hk8 := hk7.kept hb8
  have hbl8 := hbl7.trans (hb8.mono hbl7.size)
  have y0 := hX8.cell 0; have y1 := hX8.cell 1
  have z0 := hk8.cell 0; have z1 := hk8.cell 1
  simp at y0 y1 z0 z1
  go_wp2_with fail
  refine (sameTape_any _ _ d d a a w8 (r6.mono (vle_below (hb7.trans (hb8.mono hb7.size)))) (hv.mono (vle_below hbl8))).mono ?_
  rintro e w9 ⟨rfl, hb9⟩
  simp only [beq_self_eq_true, Bool.and_self]
  go_wp2
  go_ret
  exact ⟨rfl, hbl8.trans (hb9.mono hbl8.size)⟩
set_option maxHeartbeats 1000000 in
set_option maxRecDepth 100000 in
theorem tapeRecovers_open {H : Type} {enc : TypeId × Value → H} (W : World) {base : Nat} {v : Value} {d : DataW H} {p : List MemPlace} (hval : Value.okWide Try.prog W .any base 44 v) (h : DataW.Trod enc Try.prog W 0 (fun _ => true) true 44 v d p)
    (hw : ∀ n ∈ DataW.weights Try.prog 44 d, n ≤ reachBytes) : Calls Try.prog 7 #[v] W fun e w' => e = .returned (.bool true) ∧ Below W.heap.size W w' := by
  obtain ⟨a, l, x, rfl, hr, _⟩ := open_tape hval h hw
  exact tapeRecovers_any _ _ _ _ hr
set_option maxRecDepth 100000 in
theorem tapeRecovers_lifted (os : Os) (started : os.Started) (H : Type) (enc : TypeId × Value → H) :
    ReturnsInHanded {} Try.checked os 7 .any (Rows.tapeRecoversSpec.pre6 enc Try.prog Try.f7 Rows.tapeRecoversRow.domain false) (Rows.tapeRecoversSpec.post enc Try.prog Try.f7 false true false false) := by
  refine returnsInHanded_of_change_sized (C := Try.checked) own_ started (by kernel_rfl) Try.func7
    (ChangeSpec.witness6 (enc := enc) (C := Try.checked) false ⟨#[], #[.agg #[.slice none 0 0, .int .i64 0]], []⟩ 8 (by kernel_rfl) (by kernel_rfl) (by kernel_rfl) (by kernel_rfl) (by kernel_rfl)) ?_
  intro W base args ds gs before hval hW _ hsz _
  have hW' := hW
  obtain ⟨p, q, hA, hV, rfl, hfz, hnd⟩ := hW
  obtain ⟨rfl, rfl⟩ := trodVars_none hV
  rw [Try.params7] at hA hval hsz
  obtain ⟨v0, d0, rfl, rfl, h0⟩ := trodAll_one hA
  have hs0 : ∀ n ∈ DataW.weights Try.prog _ d0, n ≤ reachBytes := fun n hn => by simpa using List.all_eq_true.1 hsz n (DataW.weights_mem_each (j := 0) rfl rfl n hn)
  refine (tapeRecovers_open W (hval 0 _ _ rfl rfl) h0 hs0).mono fun e W' ⟨he, hb⟩ => ?_
  exact law_close laidOut (b := 4) rfl Try.underlying4 rfl (readables _ (by kernel_rfl)) rfl hW' he hb
theorem tapeRecovers_holds : Rows.TapeRecoversSaid :=
  OpenClaim.holds_of_wide 7 Try.f7 rfl rfl rfl rfl rfl rfl rfl ⟨rfl, rfl, rfl, rfl, rfl⟩ rfl rfl rfl rfl rfl (by kernel_rfl) Try.func7 (by kernel_rfl)
    (of_decide_eq_true (by kernel_rfl)) (by unfold Func.isWrapper; first | (rw [if_pos (by decide +kernel)]; kernel_rfl) | (rw [if_neg (by decide +kernel)]; exact ⟨rfl, rfl⟩))
    (fun os started H enc _ => tapeRecovers_lifted os started H enc)
end Go.Proofs.Ytedealljhmokoaa
