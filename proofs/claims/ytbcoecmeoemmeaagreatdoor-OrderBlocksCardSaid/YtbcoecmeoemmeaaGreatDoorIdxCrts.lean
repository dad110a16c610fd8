/- slices.IndexFunc and ContainsFunc, for whatever closure that answers a plain predicate. -/
import Derived.Test.YtbcoecmeoemmeaaGreatDoorCrts
namespace Go.Proofs.YtbcoecmeoemmeaaGreatDoor
open Go.ChangeShapes Go.WideShapes Go.ChangeAt Go.RowKit
set_option linter.unusedVariables false
set_option linter.unusedSimpArgs false
set_option maxHeartbeats 2000000 in
set_option maxRecDepth 100000 in
theorem idxCrts_any (g : Nat) (lb : Array Value) (p : Crt → Bool) (eg : ∀ args w, (callFunc g args).run Tryz.prog w = .ok (.enter g args) w) (vl : Value) (l : List (Crt)) (w : World) (hl : RCrts w.cell? vl l)
    (hp : ∀ (W : World) (cs : List Value) (x : Crt), Below w.heap.size w W → RCrt W.cell? cs x → Calls Tryz.prog g (#[.agg cs.toArray] ++ lb) W fun e w' => e = .returned (.bool (p x)) ∧ Below W.heap.size W w') :
    Calls Tryz.prog 182 #[vl, .func (.func g) #[] lb] w fun e w' => e = .returned (.int .i64 (idxI p l)) ∧ Below w.heap.size w w' := by
  obtain ⟨A, c, rfl, hform⟩ := id hl
  clear hform
  obtain ⟨_, hn1, hn2, hel⟩ := hl.at
  have Hel := Lib.hid hel
  have Hp := Lib.hid hp
  clear hl hel hp
  go_enter Tryz.func182, Tryz.ntmps182
  go_wp2
  go_loopw [8] (fun i wr => ∃ k : Nat, k ≤ l.length ∧ i = .int .i64 k ∧ Hid (∀ j (hj : j < l.length), j < k → p l[j] = false) ∧ Below w.heap.size w wr) (fun i _ => l.length - (intOf i).toNat)
  case atStart => exact ⟨0, Nat.zero_le _, rfl, fun j _ hj => by omega, Below.refl _ _⟩
  case round =>
    obtain ⟨k, hk, rfl, hno, hbl⟩ := hrel
    by_cases hlt : k < l.length
    · obtain ⟨b0, o0, vb, vp, vv, rfl, q0, q1, q2, q3, q4, hb, hp, hv⟩ := Hel.out k hlt
      have c0 := vle_below hbl _ _ q0
      have c1 := vle_below hbl _ _ q1
      have c2 := vle_below hbl _ _ q2
      have c3 := vle_below hbl _ _ q3
      have c4 := vle_below hbl _ _ q4
      have hR : Hid (RCrt wr.cell? [.int .i64 l[k].hdr.author, .int .i64 l[k].hdr.round, vb, vp, vv] l[k]) := ⟨vb, vp, vv, rfl, hb.mono RDig.mono (vle_below hbl), hp.mono RDig.mono (vle_below hbl), hv.mono (vle_below hbl)⟩
      clear q0 q1 q2 q3 q4
      go_wp2_with fail
      refine (Hp.out _ [.int .i64 l[k].hdr.author, .int .i64 l[k].hdr.round, vb, vp, vv] l[k] hbl hR.out).mono ?_
      rintro e w1 ⟨rfl, hb'⟩
      have hbl1 := hbl.trans (hb'.mono hbl.size)
      clear hR hb' c0 c1 c2 c3 c4
      cases e1 : p l[k]
      · have Hb := Lib.hid e1
        clear e1
        go_wp2
        go_roundw
        case rel => exact ⟨k + 1, by omega, by go_num, fun j hj hjk => by
          by_cases e : j = k
          · subst e; exact Hb.out
          · exact hno.out j hj (by omega), hbl1⟩
        case measure => simp [intOf]; omega
      · have Hb := Lib.hid e1
        clear e1
        go_wp2
        go_ret
        exact ⟨ret_int (idxI_found hlt hno.out Hb.out).symm, hbl1⟩
    · go_wp2
      go_ret
      exact ⟨ret_int (idxI_none fun j hj => hno.out j hj (by omega)).symm, hbl⟩
set_option maxHeartbeats 2000000 in
set_option maxRecDepth 100000 in
theorem hasCrts_any (g : Nat) (lb : Array Value) (p : Crt → Bool) (eg : ∀ args w, (callFunc g args).run Tryz.prog w = .ok (.enter g args) w) (vl : Value) (l : List (Crt)) (w : World) (hl : RCrts w.cell? vl l)
    (hp : ∀ (W : World) (cs : List Value) (x : Crt), Below w.heap.size w W → RCrt W.cell? cs x → Calls Tryz.prog g (#[.agg cs.toArray] ++ lb) W fun e w' => e = .returned (.bool (p x)) ∧ Below W.heap.size W w') :
    Calls Tryz.prog 126 #[vl, .func (.func g) #[] lb] w fun e w' => e = .returned (.bool (l.any p)) ∧ Below w.heap.size w w' := by
  have Hp := Lib.hid hp
  clear hp
  rw [← idxI_any p l]
  obtain ⟨i, hi⟩ : ∃ i, Hid (idxI p l = i) := ⟨_, rfl⟩
  rw [hi.out]
  go_enter Tryz.func126, Tryz.ntmps126
  go_wp2_with fail
  refine (idxCrts_any g lb p eg vl l _ hl Hp.out).mono ?_
  rintro e w1 ⟨rfl, hb⟩
  rw [hi.out]
  clear hi hl
  by_cases h0 : 0 ≤ i
  · have Hq : Hid (decide (0 ≤ i) = true) := decide_eq_true h0
    go_wp2
    go_ret
    exact ⟨ret_bool Hq.out.symm, hb⟩
  · have Hq : Hid (decide (0 ≤ i) = false) := decide_eq_false h0
    go_wp2
    go_ret
    exact ⟨ret_bool (by rw [Hq.out]), hb⟩
end Go.Proofs.YtbcoecmeoemmeaaGreatDoor
