/- Tables of votes: the copy, the search, Check and TableFault. -/
import Derived.Test.YtelfbgfggkhpjaaSlots
import Derived.Test.YtelfbgfggkhpjaaSlotF
namespace Go.Proofs.Ytelfbgfggkhpjaa
open Go.ChangeShapes Go.WideShapes Go.ChangeAt Go.RowKit
set_option linter.unusedVariables false
theorem RSlot.mono : Mono RSlot := fun h h' cs x ⟨d, e, hd⟩ hle => ⟨d, e, hd.mono hle⟩
abbrev RSlots := RSl 3 RSlot 40
abbrev OwnSlots := OwnSl 3 RSlot 45
theorem elemSlot : Elem Try.prog 37 45 3 40 := elemN (z := .agg #[.int .i64 0, .int .i64 0, .slice none 0 0]) Try.underlying37 (by kernel_rfl) rfl (by decide)
theorem RSlots.at {h : View} {A : Option Addr} {n c : Nat} {xs : List Slot} (hr : RSlots h (.slice A n c) xs) : n = xs.length ∧ n ≤ c ∧ n * 40 ≤ 140737488355328 ∧ ∀ k (hk : k < xs.length), ∃ b o d, A = some ⟨b, o, none⟩ ∧ h ⟨b, o + k * 3, none⟩ = some (.int .i64 xs[k].author) ∧ h ⟨b, o + k * 3 + 1, none⟩ = some (.int .i64 xs[k].round) ∧ h ⟨b, o + k * 3 + 2, none⟩ = some d ∧ RBytes h d xs[k].digest := by
  obtain ⟨A', c', e, h1, _, h2, _, h3⟩ := hr
  injection e with e1 e2 e3
  subst e1 e2 e3
  refine ⟨rfl, h1, h2, fun k hk => ?_⟩
  obtain ⟨b, o, ea, hc⟩ := h3 (by omega)
  obtain ⟨cs, hl, hcell, d, rfl, hd⟩ := hc k hk
  exact ⟨b, o, d, ea, hcell 0 (by omega), hcell 1 (by omega), hcell 2 (by omega), hd⟩
set_option maxHeartbeats 2000000 in
set_option maxRecDepth 100000 in
theorem slotsCopy_any (v : Value) (l : List Slot) (w : World) (hv : RSlots w.cell? v l) :
    Calls Try.prog 16 #[v] w fun e w' => ∃ v', e = .returned v' ∧ Below w.heap.size w w' ∧ OwnSlots w' w.heap.size v' l := by
  obtain ⟨A, c, rfl, _⟩ := id hv
  obtain ⟨_, hcap, hlen, hel⟩ := hv.at
  have Hel := Lib.hid hel
  clear hel hv
  go_enter Try.func16, Try.ntmps16
  go_wp2
  go_loopw [3, 4] (fun v i wr => ∃ k : Nat, k ≤ l.length ∧ i = .int .i64 k ∧ OwnSlots wr w.heap.size v (l.take k) ∧ Below w.heap.size w wr) (fun _ i _ => l.length - (intOf i).toNat)
  case atStart => exact ⟨0, Nat.zero_le _, rfl, OwnSl.nil _ _ _ _ _, Below.refl _ _⟩
  case round =>
    obtain ⟨k, hk, rfl, hown, hbl⟩ := hrel
    have hbs := hbl.size
    by_cases hlt : k < l.length
    · obtain ⟨b0, o0, d, rfl, e0, e1, e2, hd⟩ := Hel.out k hlt
      have c0 := vle_below hbl _ _ e0
      have c1 := vle_below hbl _ _ e1
      have c2 := vle_below hbl _ _ e2
      have hd' := hd.mono (vle_below hbl)
      have Hlk := Lib.hid (show (l.take k).length = k by simp; omega)
      have hdl := Lib.hid (show l[k].digest.length * 1 ≤ 140737488355328 by obtain ⟨_, _, _, _, _, h, _⟩ := hd; exact h)
      clear e0 e1 e2 hd
      go_wp2_with fail
      refine (slotCopy_any _ _ _ _ _ hd').mono ?_
      rintro e w1 ⟨d', rfl, hb1, o1⟩
      have hown1 := (hown.kept RSlot.mono hb1).kept RSlot.mono (below_one w1 (.cells #[.int .i64 l[k].author, .int .i64 l[k].round, d'] 45))
      have hbl1 : Below w.heap.size w (w1.alloc (.cells #[.int .i64 l[k].author, .int .i64 l[k].round, d'] 45)) := (hbl.trans (hb1.mono hbs)).alloc (Nat.le_trans hbs hb1.size) _
      have hR : RSlot (View.but (w1.alloc (.cells #[.int .i64 l[k].author, .int .i64 l[k].round, d'] 45)).cell? u3.ownBlock) [.int .i64 l[k].author, .int .i64 l[k].round, d'] l[k] :=
        ⟨d', rfl, (o1.alloc _).reads_but hdl.out (fun g hg => (hown.lt g hg).2)⟩
      have hs1 := hb1.size
      obtain ⟨A', c', rfl⟩ := o1.form
      clear c0 c1 c2 hd'
      go_wp2_with (at_builtin; go_loud (refine wpList_append_sl1 (n := 140737488355328) RSlot.mono l[k] [.int .i64 l[k].author, .int .i64 l[k].round, .slice A' l[k].digest.length c'] elemSlot _ _ rfl rfl rfl hown1 hbl1 (le_alloc _ (Nat.le_trans hbs hs1)) rfl (by simp) rfl rfl hR (Nat.le_refl _) (by rw [Hlk.out]; omega) (by rw [Hlk.out]; omega) ?_))
      intro v' w2 ho hbl2 _
      have ho' : OwnSlots w2 w.heap.size v' (l.take (k + 1)) := by first | exact ho | (rw [List.take_succ_eq_append_getElem hlt]; exact ho)
      clear ho hown hown1
      go_wp2
      go_roundw
      case rel => exact ⟨k + 1, by omega, by go_num, ho', hbl2⟩
      case measure => simp [intOf]; omega
    · have : k = l.length := by omega
      subst this
      go_wp2
      go_ret
      exact ⟨_, rfl, hbl, by simpa using hown⟩
end Go.Proofs.Ytelfbgfggkhpjaa
