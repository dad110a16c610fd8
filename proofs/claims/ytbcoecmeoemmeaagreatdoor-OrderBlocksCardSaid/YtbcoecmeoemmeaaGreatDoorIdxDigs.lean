/- slices.IndexFunc and ContainsFunc, for whatever closure that answers a plain predicate. -/
import Derived.Test.YtbcoecmeoemmeaaGreatDoorDagP
namespace Go.Proofs.YtbcoecmeoemmeaaGreatDoor
open Go.ChangeShapes Go.WideShapes Go.ChangeAt Go.RowKit
set_option linter.unusedVariables false
set_option linter.unusedSimpArgs false
set_option maxHeartbeats 2000000 in
set_option maxRecDepth 100000 in
theorem idxDigs_any (g : Nat) (lb : Array Value) (p : List UInt8 → Bool) (eg : ∀ args w, (callFunc g args).run Tryz.prog w = .ok (.enter g args) w) (vl : Value) (l : List (List UInt8)) (w : World) (hl : RDigs w.cell? vl l)
    (hp : ∀ (W : World) (d : Value) (x : List UInt8), Below w.heap.size w W → RBytes W.cell? d x → Calls Tryz.prog g (#[d] ++ lb) W fun e w' => e = .returned (.bool (p x)) ∧ Below W.heap.size W w') :
    Calls Tryz.prog 53 #[vl, .func (.func g) #[] lb] w fun e w' => e = .returned (.int .i64 (idxI p l)) ∧ Below w.heap.size w w' := by
  obtain ⟨A, c, rfl, hform⟩ := id hl
  clear hform
  obtain ⟨_, hn1, hn2, hel⟩ := hl.at
  have Hel := Lib.hid hel
  have Hp := Lib.hid hp
  clear hl hel hp
  go_enter Tryz.func53, Tryz.ntmps53
  go_wp2
  go_loopw [8] (fun i wr => ∃ k : Nat, k ≤ l.length ∧ i = .int .i64 k ∧ Hid (∀ j (hj : j < l.length), j < k → p l[j] = false) ∧ Below w.heap.size w wr) (fun i _ => l.length - (intOf i).toNat)
  case atStart => exact ⟨0, Nat.zero_le _, rfl, fun j _ hj => by omega, Below.refl _ _⟩
  case round =>
    obtain ⟨k, hk, rfl, hno, hbl⟩ := hrel
    by_cases hlt : k < l.length
    · obtain ⟨b0, o0, d, rfl, q0, hd⟩ := Hel.out k hlt
      have c0 := vle_below hbl _ _ q0
      have hR : Hid (RBytes wr.cell? d l[k]) := hd.mono (vle_below hbl)
      clear q0
      go_wp2_with fail
      refine (Hp.out _ d l[k] hbl hR.out).mono ?_
      rintro e w1 ⟨rfl, hb'⟩
      have hbl1 := hbl.trans (hb'.mono hbl.size)
      clear hR hb' c0
      cases e1 : p l[k]
      · have Hb := Lib.hid e1
        clear e1
        go_wp2
        go_roundw
        case rel => exact ⟨k + 1, by omega, by go_num, fun j hj hjk => by
          by_cases e : j = k
          · subst e; exact Hb.out
          · exact hno.out j hj (by omega), hbl1⟩
        case measure => simp [intOf]; omega
      · have Hb := Lib.hid e1
        clear e1
        go_wp2
        go_ret
        exact ⟨ret_int (idxI_found hlt hno.out Hb.out).symm, hbl1⟩
    · go_wp2
      go_ret
      exact ⟨ret_int (idxI_none fun j hj => hno.out j hj (by omega)).symm, hbl⟩
set_option maxHeartbeats 2000000 in
set_option maxRecDepth 100000 in
theorem hasDigs_any (g : Nat) (lb : Array Value) (p : List UInt8 → Bool) (eg : ∀ args w, (callFunc g args).run Tryz.prog w = .ok (.enter g args) w) (vl : Value) (l : List (List UInt8)) (w : World) (hl : RDigs w.cell? vl l)
    (hp : ∀ (W : World) (d : Value) (x : List UInt8), Below w.heap.size w W → RBytes W.cell? d x → Calls Tryz.prog g (#[d] ++ lb) W fun e w' => e = .returned (.bool (p x)) ∧ Below W.heap.size W w') :
    Calls Tryz.prog 180 #[vl, .func (.func g) #[] lb] w fun e w' => e = .returned (.bool (l.any p)) ∧ Below w.heap.size w w' := by
  have Hp := Lib.hid hp
  clear hp
  rw [← idxI_any p l]
  obtain ⟨i, hi⟩ : ∃ i, Hid (idxI p l = i) := ⟨_, rfl⟩
  rw [hi.out]
  go_enter Tryz.func180, Tryz.ntmps180
  go_wp2_with fail
  refine (idxDigs_any g lb p eg vl l _ hl Hp.out).mono ?_
  rintro e w1 ⟨rfl, hb⟩
  rw [hi.out]
  clear hi hl
  by_cases h0 : 0 ≤ i
  · have Hq : Hid (decide (0 ≤ i) = true) := decide_eq_true h0
    go_wp2
    go_ret
    exact ⟨ret_bool Hq.out.symm, hb⟩
  · have Hq : Hid (decide (0 ≤ i) = false) := decide_eq_false h0
    go_wp2
    go_ret
    exact ⟨ret_bool (by rw [Hq.out]), hb⟩
end Go.Proofs.YtbcoecmeoemmeaaGreatDoor
