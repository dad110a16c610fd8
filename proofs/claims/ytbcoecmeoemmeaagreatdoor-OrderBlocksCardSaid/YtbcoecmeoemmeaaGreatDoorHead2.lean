/- wire.digests, headers: copy, check, fault; the law WireHeaders. -/
import Derived.Test.YtbcoecmeoemmeaaGreatDoorHead
import Derived.Test.YtbcoecmeoemmeaaGreatDoorNum
namespace Go.Proofs.YtbcoecmeoemmeaaGreatDoor
open Go.ChangeShapes Go.WideShapes Go.ChangeAt Go.RowKit
set_option linter.unusedVariables false
def hasDig (l : List (List UInt8)) (y : List UInt8) : Bool := l.any (· == y)
set_option maxHeartbeats 1000000 in
set_option maxRecDepth 100000 in
theorem digFn_any (x y : List UInt8) (d yd : Value) (b1 : Nat) (w : World) (hc : w.cell? ⟨b1, 0, none⟩ = some yd) (hd : RBytes w.cell? d x) (hy : RBytes w.cell? yd y) :
    Calls Tryz.prog 181 #[d, .pointer (some ⟨b1, 0, none⟩)] w fun e w' => e = .returned (.bool (x == y)) ∧ w = w' := by
  go_enter Tryz.func181, Tryz.ntmps181
  go_wp2_with fail
  refine (bytesEqual_any _ _ x y _ hd hy).mono ?_
  rintro e w' ⟨rfl, rfl⟩
  go_wp2
  go_ret
  exact ⟨rfl, rfl⟩
set_option maxHeartbeats 1000000 in
set_option maxRecDepth 100000 in
theorem indexDig_any (vl : Value) (l : List (List UInt8)) (y : List UInt8) (yd : Value) (b1 : Nat) (w : World) (hl : RDigs w.cell? vl l) (hc : w.cell? ⟨b1, 0, none⟩ = some yd) (hy : RBytes w.cell? yd y) :
    Calls Tryz.prog 53 #[vl, .func (.func 181) #[] #[.pointer (some ⟨b1, 0, none⟩)]] w fun e w' => ∃ i : Int, e = .returned (.int .i64 i) ∧ decide (0 ≤ i) = hasDig l y ∧ Below w.heap.size w w' := by
  obtain ⟨A, c, rfl, _⟩ := id hl
  obtain ⟨_, hn1, hn2, hel⟩ := hl.at
  have Hel := Lib.hid hel
  have Hc := Lib.hid hc
  have Hy := Lib.hid hy
  clear hl hel hy hc
  go_enter Tryz.func53, Tryz.ntmps53
  go_wp2
  go_loopw [8] (fun i wr => ∃ k : Nat, k ≤ l.length ∧ i = .int .i64 k ∧ Hid (∀ j (hj : j < l.length), j < k → (l[j] == y) = false) ∧ Below w.heap.size w wr) (fun i _ => l.length - (intOf i).toNat)
  case atStart => exact ⟨0, Nat.zero_le _, rfl, fun j _ hj => by omega, Below.refl _ _⟩
  case round =>
    obtain ⟨k, hk, rfl, hno, hbl⟩ := hrel
    by_cases hlt : k < l.length
    · obtain ⟨b0, o0, d, rfl, q0, hd⟩ := Hel.out k hlt
      have c0 := vle_below hbl _ _ q0
      have Hd := Lib.hid (hd.mono (vle_below hbl))
      clear hd q0
      go_wp2_with fail
      refine (digFn_any l[k] y d yd b1 _ (vle_below hbl _ _ Hc.out) Hd.out (Hy.out.mono (vle_below hbl))).mono ?_
      rintro e w1 ⟨rfl, rfl⟩
      cases e1 : (l[k] == y)
      · have Hb := Lib.hid e1
        clear e1
        go_wp2
        go_roundw
        case rel => exact ⟨k + 1, by omega, by go_num, fun j hj hjk => by
          by_cases e : j = k
          · subst e; exact Hb.out
          · exact hno.out j hj (by omega), hbl⟩
        case measure => simp [intOf]; omega
      · have Hb := Lib.hid e1
        clear e1
        go_wp2
        go_ret
        exact ⟨(k : Int), rfl, by rw [show hasDig l y = true from any_true_get hlt Hb.out]; simp, hbl⟩
    · go_wp2
      go_ret
      exact ⟨-1, rfl, by rw [show hasDig l y = false from any_false_get fun j hj => hno.out j hj (by omega)]; rfl, hbl⟩
set_option maxHeartbeats 1000000 in
set_option maxRecDepth 100000 in
theorem containsDig_any (vl : Value) (l : List (List UInt8)) (y : List UInt8) (yd : Value) (b1 : Nat) (w : World) (hl : RDigs w.cell? vl l) (hc : w.cell? ⟨b1, 0, none⟩ = some yd) (hy : RBytes w.cell? yd y) :
    Calls Tryz.prog 180 #[vl, .func (.func 181) #[] #[.pointer (some ⟨b1, 0, none⟩)]] w fun e w' => e = .returned (.bool (hasDig l y)) ∧ Below w.heap.size w w' := by
  go_enter Tryz.func180, Tryz.ntmps180
  go_wp2_with fail
  refine (indexDig_any vl l y yd b1 _ hl hc hy).mono ?_
  rintro e w1 ⟨i, rfl, hi, hb⟩
  by_cases h0 : 0 ≤ i
  · have Hq : Hid (hasDig l y = true) := hi.symm.trans (decide_eq_true h0)
    clear hi
    go_wp2
    go_ret
    exact ⟨ret_bool Hq.out.symm, hb⟩
  · have Hq : Hid (hasDig l y = false) := hi.symm.trans (decide_eq_false h0)
    clear hi
    go_wp2
    go_ret
    exact ⟨ret_bool (by rw [Hq.out]; simp [h0]), hb⟩
set_option maxHeartbeats 2000000 in
set_option maxRecDepth 100000 in
theorem digests_any (v : Value) (l : List (List UInt8)) (w : World) (hv : RDigs w.cell? v l) :
    Calls Tryz.prog 125 #[v] w fun e w' => e = .returned (.int .i64 (digsF l)) ∧ Below w.heap.size w w' := by
  obtain ⟨A, c, rfl, _⟩ := id hv
  obtain ⟨_, hcap, hlen, hel⟩ := hv.at
  have Hel := Lib.hid hel
  have Hv := Lib.hid hv
  clear hel hv
  go_enter Tryz.func125, Tryz.ntmps125
  go_wp2
  go_loopw [7] (fun i wr => ∃ k : Nat, k ≤ l.length ∧ i = .int .i64 k ∧ Hid (∀ j, j < k → digAt l j = 0) ∧ Below w.heap.size w wr) (fun i _ => l.length - (intOf i).toNat)
  case atStart => exact ⟨0, Nat.zero_le _, rfl, fun j hj => by omega, Below.refl _ _⟩
  case round =>
    obtain ⟨k, hk, rfl, hok, hbl⟩ := hrel
    by_cases hlt : k < l.length
    · obtain ⟨b0, o0, d, rfl, q0, hd⟩ := Hel.out k hlt
      obtain ⟨dA, dc, rfl, _⟩ := id hd
      have c0 := vle_below hbl _ _ q0
      have hkc : k ≤ c := by omega
      have hkc' : (k : Int) ≤ (c : Int) := by omega
      by_cases h32 : l[k].length = 32
      · have Hd := Lib.hid (hd.mono (vle_below hbl))
        have Hat := Lib.hid (digAt_twice hlt h32)
        have Hsub := Lib.hid ((Hv.out.take (k := k) (by omega)).mono RDig.mono (vle_below hbl))
        clear hd q0
        rw [h32] at c0
        have Hd' : Hid (RBytes wr.cell? (.slice dA 32 dc) l[k]) := Lib.hid (by have := Hd.out; rw [h32] at this; exact this)
        clear Hd
        go_wp2_with fail
        refine one_block _ _ _ (fun W => Calls Tryz.prog _ _ W _) (fun W hb1 hsz hbw => ?_)
        have g0 := hb1.cell 0
        simp at g0
        have hbl2 : Below w.heap.size w W := hbl.trans (hbw.mono hbl.size)
        refine (containsDig_any _ (l.take k) l[k] _ _ _ (Hsub.out.mono RDig.mono (vle_below hbw)) g0 (Hd'.out.mono (vle_below hbw))).mono ?_
        rintro e w1 ⟨rfl, hb2⟩
        have hbl3 := hbl2.trans (hb2.mono hbl2.size)
        cases ht : hasDig (l.take k) l[k]
        · have Ht := Lib.hid ht
          clear ht
          go_wp2
          go_roundw
          case rel => exact ⟨k + 1, by omega, by go_num, zero_succ hok.out (by rw [Hat.out]; exact if_neg (by rw [show (l.take k).any (· == l[k]) = false from Ht.out]; decide)), hbl3⟩
          case measure => simp [intOf]; omega
        · have Ht := Lib.hid ht
          clear ht
          go_wp2
          go_ret
          exact ⟨ret_int (digsF_found hlt hok.out (by rw [Hat.out]; exact if_pos Ht.out) (by decide)).symm, hbl3⟩
      · have Hat := Lib.hid (digAt_len hlt h32)
        clear hd q0
        go_wp2
        go_ret
        exact ⟨ret_int (digsF_found hlt hok.out Hat.out (by decide)).symm, hbl.trans ((below_one _ _).mono hbl.size)⟩
    · go_wp2
      go_ret
      exact ⟨ret_int (digsF_none fun j hj => hok.out j (by omega)).symm, hbl⟩

def headF (a r : Int) (b p : List (List UInt8)) : Int :=
  if inB a 0 3 && inB r 1 1048576 then (if 3 < b.length ∨ 4 < p.length then 1 else if digsF b ≠ 0 then digsF b else if digsF p ≠ 0 then digsF p else if (r = 1 ∧ 0 < p.length) ∨ (1 < r ∧ p.length < 3) then 10 else 0) else 2
set_option maxHeartbeats 2000000 in
set_option maxRecDepth 100000 in
theorem headerFault_any (a r : Int) (vb vp : Value) (b p : List (List UInt8)) (w : World) (hb : RDigs w.cell? vb b) (hp : RDigs w.cell? vp p) :
    Calls Tryz.prog 139 #[.agg #[.int .i64 a, .int .i64 r, vb, vp]] w fun e w' => e = .returned (.int .i64 (headF a r b p)) ∧ Below w.heap.size w w' := by
  obtain ⟨bA, bc, rfl, _⟩ := id hb
  obtain ⟨pA, pc, rfl, _⟩ := id hp
  obtain ⟨_, hbcap, hblen, _⟩ := hb.at
  obtain ⟨_, hpcap, hplen, _⟩ := hp.at
  have Hb := Lib.hid hb
  have Hp := Lib.hid hp
  clear hb hp
  have hq : ∀ x, headF a r b p = x → Hid (headF a r b p = x) := fun x h => h
  cases ha : inB a 0 3
  · have Hq := hq 2 (by simp [headF, ha])
    clear hq
    go_enter Tryz.func139, Tryz.ntmps139
    go_wp2_with (go_at_call 101; refine (in_any _ _ _ _).mono ?_; rintro e w' ⟨rfl, rfl⟩)
    go_ret
    exact ⟨ret_int Hq.out.symm, below_one _ _⟩
  cases hr : inB r 1 1048576
  · have Hq := hq 2 (by simp [headF, ha, hr])
    clear hq
    go_enter Tryz.func139, Tryz.ntmps139
    go_wp2_with (go_at_call 101; refine (in_any _ _ _ _).mono ?_; rintro e w' ⟨rfl, rfl⟩)
    go_ret
    exact ⟨ret_int Hq.out.symm, below_one _ _⟩
  have hr1 : 1 ≤ r := by simp [inB] at hr; omega
  by_cases h3 : 3 < b.length
  · have Hq := hq 1 (by simp only [headF, ha, hr]; rw [if_pos (by rfl), if_pos (.inl h3)])
    clear hq
    go_enter Tryz.func139, Tryz.ntmps139
    go_wp2_with (go_at_call 101; refine (in_any _ _ _ _).mono ?_; rintro e w' ⟨rfl, rfl⟩)
    go_ret
    exact ⟨ret_int Hq.out.symm, below_one _ _⟩
  by_cases h4 : 4 < p.length
  · have Hq := hq 1 (by simp only [headF, ha, hr]; rw [if_pos (by rfl), if_pos (.inr h4)])
    clear hq
    go_enter Tryz.func139, Tryz.ntmps139
    go_wp2_with (go_at_call 101; refine (in_any _ _ _ _).mono ?_; rintro e w' ⟨rfl, rfl⟩)
    go_ret
    exact ⟨ret_int Hq.out.symm, below_one _ _⟩
  have hq' : Hid (headF a r b p = if digsF b ≠ 0 then digsF b else if digsF p ≠ 0 then digsF p else if (r = 1 ∧ 0 < p.length) ∨ (1 < r ∧ p.length < 3) then 10 else 0) := by
    show _ = _
    simp only [headF, ha, hr]
    rw [if_pos (by rfl), if_neg (by omega)]
  clear hq
  have hbb := below_one w (.cells #[.int .i64 a, .int .i64 r, .slice bA b.length bc, .slice pA p.length pc] 65)
  go_enter Tryz.func139, Tryz.ntmps139
  go_wp2_with (first | (go_at_call 101; refine (in_any _ _ _ _).mono ?_; rintro e w' ⟨rfl, rfl⟩) | fail)
  refine one_block _ _ _ (fun W => Calls Tryz.prog _ _ W _) (fun W hb1 hsz hbw => ?_)
  have g0 := hb1.cell 0; have g1 := hb1.cell 1; have g2 := hb1.cell 2; have g3 := hb1.cell 3
  simp at g0 g1 g2 g3
  refine (digestsFault_any _ b _ (Hb.out.mono RDig.mono (vle_below hbw))).mono ?_
  rintro e w1 ⟨rfl, hk1⟩
  have hk1' := hbw.trans (hk1.mono hbw.size)
  have Hp1 := Lib.hid (Hp.out.mono RDig.mono (vle_below hk1'))
  have c1 := vle_below hk1 _ _ g1
  have c3 := vle_below hk1 _ _ g3
  clear g0 g1 g2 g3
  by_cases hfb : digsF b = 0
  · rw [hfb]
    have hq2 : Hid (headF a r b p = if digsF p ≠ 0 then digsF p else if (r = 1 ∧ 0 < p.length) ∨ (1 < r ∧ p.length < 3) then 10 else 0) := by
      show _ = _
      rw [hq'.out, if_neg (by simp [hfb])]
    clear hq'
    go_wp2_with fail
    refine (digestsFault_any _ p _ Hp1.out).mono ?_
    rintro e w2 ⟨rfl, hk2⟩
    have hk2' := hk1'.trans (hk2.mono hk1'.size)
    have d1 := vle_below hk2 _ _ c1
    have d3 := vle_below hk2 _ _ c3
    clear c1 c3
    by_cases hfp : digsF p = 0
    · rw [hfp]
      have hq3 : Hid (headF a r b p = if (r = 1 ∧ 0 < p.length) ∨ (1 < r ∧ p.length < 3) then 10 else 0) := by
        show _ = _
        rw [hq2.out, if_neg (by simp [hfp])]
      clear hq2
      by_cases hr2 : r = 1
      · subst hr2
        by_cases hp0 : p.length = 0
        · have Hq : Hid (headF a 1 b p = 0) := by show _ = _; rw [hq3.out, if_neg (by omega)]
          clear hq3
          rw [hp0] at d3
          go_wp2
          go_ret
          exact ⟨ret_int Hq.out.symm, hk2'⟩
        · have Hq : Hid (headF a 1 b p = 10) := by show _ = _; rw [hq3.out, if_pos (by omega)]
          clear hq3
          go_wp2
          go_ret
          exact ⟨ret_int Hq.out.symm, hk2'⟩
      · have hr3 : 1 < r := by omega
        by_cases hp3 : p.length < 3
        · have Hq : Hid (headF a r b p = 10) := by show _ = _; rw [hq3.out, if_pos (by omega)]
          clear hq3
          go_wp2
          go_ret
          exact ⟨ret_int Hq.out.symm, hk2'⟩
        · have Hq : Hid (headF a r b p = 0) := by show _ = _; rw [hq3.out, if_neg (by omega)]
          clear hq3
          go_wp2
          go_ret
          exact ⟨ret_int Hq.out.symm, hk2'⟩
    · have Hq : Hid (headF a r b p = digsF p) := by show _ = _; rw [hq2.out, if_pos hfp]
      clear hq2
      go_wp2
      go_ret
      exact ⟨ret_int Hq.out.symm, hk2'⟩
  · have Hq : Hid (headF a r b p = digsF b) := by show _ = _; rw [hq'.out, if_pos hfb]
    clear hq'
    go_wp2
    go_ret
    exact ⟨ret_int Hq.out.symm, hk1'⟩
set_option maxHeartbeats 2000000 in
set_option maxRecDepth 100000 in
theorem checkHeader_any (a r : Int) (vb vp : Value) (b p : List (List UInt8)) (w : World) (hb : RDigs w.cell? vb b) (hp : RDigs w.cell? vp p) :
    Calls Tryz.prog 85 #[.agg #[.int .i64 a, .int .i64 r, vb, vp]] w fun e w' => e = .returned (.int .i64 (headF a r b p)) ∧ Below w.heap.size w w' := by
  obtain ⟨bA, bc, rfl, _⟩ := id hb
  obtain ⟨pA, pc, rfl, _⟩ := id hp
  obtain ⟨_, hbcap, hblen, _⟩ := hb.at
  obtain ⟨_, hpcap, hplen, _⟩ := hp.at
  have Hb := Lib.hid hb
  have Hp := Lib.hid hp
  clear hb hp
  have hq : ∀ x, headF a r b p = x → Hid (headF a r b p = x) := fun x h => h
  cases ha : inB a 0 3
  · have Hq := hq 2 (by simp [headF, ha])
    clear hq
    go_enter Tryz.func85, Tryz.ntmps85
    go_wp2_with (first | (go_at_call 92; refine (node_any _ _).mono ?_; rintro e w' ⟨rfl, rfl⟩) | (go_at_call 93; refine (count_any _ _).mono ?_; rintro e w' ⟨rfl, rfl⟩))
    go_ret
    exact ⟨ret_int Hq.out.symm, below_one _ _⟩
  cases hr : inB r 1 1048576
  · have Hq := hq 2 (by simp [headF, ha, hr])
    clear hq
    go_enter Tryz.func85, Tryz.ntmps85
    go_wp2_with (first | (go_at_call 92; refine (node_any _ _).mono ?_; rintro e w' ⟨rfl, rfl⟩) | (go_at_call 93; refine (count_any _ _).mono ?_; rintro e w' ⟨rfl, rfl⟩))
    go_ret
    exact ⟨ret_int Hq.out.symm, below_one _ _⟩
  have hr1 : 1 ≤ r := by simp [inB] at hr; omega
  by_cases h3 : 3 < b.length
  · have Hq := hq 1 (by simp only [headF, ha, hr]; rw [if_pos (by rfl), if_pos (.inl h3)])
    clear hq
    go_enter Tryz.func85, Tryz.ntmps85
    go_wp2_with (first | (go_at_call 92; refine (node_any _ _).mono ?_; rintro e w' ⟨rfl, rfl⟩) | (go_at_call 93; refine (count_any _ _).mono ?_; rintro e w' ⟨rfl, rfl⟩))
    go_ret
    exact ⟨ret_int Hq.out.symm, below_one _ _⟩
  by_cases h4 : 4 < p.length
  · have Hq := hq 1 (by simp only [headF, ha, hr]; rw [if_pos (by rfl), if_pos (.inr h4)])
    clear hq
    go_enter Tryz.func85, Tryz.ntmps85
    go_wp2_with (first | (go_at_call 92; refine (node_any _ _).mono ?_; rintro e w' ⟨rfl, rfl⟩) | (go_at_call 93; refine (count_any _ _).mono ?_; rintro e w' ⟨rfl, rfl⟩))
    go_ret
    exact ⟨ret_int Hq.out.symm, below_one _ _⟩
  have hq' : Hid (headF a r b p = if digsF b ≠ 0 then digsF b else if digsF p ≠ 0 then digsF p else if (r = 1 ∧ 0 < p.length) ∨ (1 < r ∧ p.length < 3) then 10 else 0) := by
    show _ = _
    simp only [headF, ha, hr]
    rw [if_pos (by rfl), if_neg (by omega)]
  clear hq
  have hbb := below_one w (.cells #[.int .i64 a, .int .i64 r, .slice bA b.length bc, .slice pA p.length pc] 65)
  go_enter Tryz.func85, Tryz.ntmps85
  go_wp2_with (first | (go_at_call 92; refine (node_any _ _).mono ?_; rintro e w' ⟨rfl, rfl⟩) | (go_at_call 93; refine (count_any _ _).mono ?_; rintro e w' ⟨rfl, rfl⟩) | fail)
  refine one_block _ _ _ (fun W => Calls Tryz.prog _ _ W _) (fun W hb1 hsz hbw => ?_)
  have g0 := hb1.cell 0; have g1 := hb1.cell 1; have g2 := hb1.cell 2; have g3 := hb1.cell 3
  simp at g0 g1 g2 g3
  refine (digests_any _ b _ (Hb.out.mono RDig.mono (vle_below hbw))).mono ?_
  rintro e w1 ⟨rfl, hk1⟩
  have hk1' := hbw.trans (hk1.mono hbw.size)
  have Hp1 := Lib.hid (Hp.out.mono RDig.mono (vle_below hk1'))
  have c1 := vle_below hk1 _ _ g1
  have c3 := vle_below hk1 _ _ g3
  clear g0 g1 g2 g3
  by_cases hfb : digsF b = 0
  · rw [hfb]
    have hq2 : Hid (headF a r b p = if digsF p ≠ 0 then digsF p else if (r = 1 ∧ 0 < p.length) ∨ (1 < r ∧ p.length < 3) then 10 else 0) := by
      show _ = _
      rw [hq'.out, if_neg (by simp [hfb])]
    clear hq'
    go_wp2_with fail
    refine (digests_any _ p _ Hp1.out).mono ?_
    rintro e w2 ⟨rfl, hk2⟩
    have hk2' := hk1'.trans (hk2.mono hk1'.size)
    have d1 := vle_below hk2 _ _ c1
    have d3 := vle_below hk2 _ _ c3
    clear c1 c3
    by_cases hfp : digsF p = 0
    · rw [hfp]
      have hq3 : Hid (headF a r b p = if (r = 1 ∧ 0 < p.length) ∨ (1 < r ∧ p.length < 3) then 10 else 0) := by
        show _ = _
        rw [hq2.out, if_neg (by simp [hfp])]
      clear hq2
      by_cases hr2 : r = 1
      · subst hr2
        by_cases hp0 : p.length = 0
        · have Hq : Hid (headF a 1 b p = 0) := by show _ = _; rw [hq3.out, if_neg (by omega)]
          clear hq3
          rw [hp0] at d3
          go_wp2
          go_ret
          exact ⟨ret_int Hq.out.symm, hk2'⟩
        · have Hq : Hid (headF a 1 b p = 10) := by show _ = _; rw [hq3.out, if_pos (by omega)]
          clear hq3
          go_wp2
          go_ret
          exact ⟨ret_int Hq.out.symm, hk2'⟩
      · have hr3 : 1 < r := by omega
        by_cases hp3 : p.length < 3
        · have Hq : Hid (headF a r b p = 10) := by show _ = _; rw [hq3.out, if_pos (by omega)]
          clear hq3
          go_wp2
          go_ret
          exact ⟨ret_int Hq.out.symm, hk2'⟩
        · have Hq : Hid (headF a r b p = 0) := by show _ = _; rw [hq3.out, if_neg (by omega)]
          clear hq3
          go_wp2
          go_ret
          exact ⟨ret_int Hq.out.symm, hk2'⟩
    · have Hq : Hid (headF a r b p = digsF p) := by show _ = _; rw [hq2.out, if_pos hfp]
      clear hq2
      go_wp2
      go_ret
      exact ⟨ret_int Hq.out.symm, hk2'⟩
  · have Hq : Hid (headF a r b p = digsF b) := by show _ = _; rw [hq'.out, if_pos hfb]
    clear hq'
    go_wp2
    go_ret
    exact ⟨ret_int Hq.out.symm, hk1'⟩
theorem vle_below_but {w W : World} {g : Nat} (hb : Below w.heap.size w W) (hg : w.heap.size ≤ g) : VLe w.cell? (View.but W.cell? (some g)) := fun a u hu => by
  have hlt := World.block_lt_of_cell? w a hu
  unfold View.but
  rw [if_neg (by intro e; injection e with e; omega)]
  exact vle_below hb _ _ hu
theorem from_le_from {h : View} {w w' : World} {b b' g : Nat} (hb : b' ≤ b) (hle : VLe h (View.from w.cell? b)) (hg : w.grownBy w' (some g)) (hgb : g < b) : VLe h (View.from w'.cell? b') := fun a v e => by
  have := hle a v e
  unfold View.from at this ⊢
  split at this
  · cases this
  · rename_i hne
    rw [if_neg (by omega)]
    exact hg.cell this (by intro h; injection h; omega)
set_option maxHeartbeats 1000000 in
set_option maxRecDepth 100000 in
theorem headerCopy_any (a r : Int) (vb vp : Value) (b p : List (List UInt8)) (w : World) (hb : RDigs w.cell? vb b) (hp : RDigs w.cell? vp p) :
    Calls Tryz.prog 59 #[.agg #[.int .i64 a, .int .i64 r, vb, vp]] w fun e w' => ∃ vb' vp', e = .returned (.agg #[.int .i64 a, .int .i64 r, vb', vp']) ∧ Below w.heap.size w w' ∧ RDigs (View.from w'.cell? w.heap.size) vb' b ∧ RDigs (View.from w'.cell? w.heap.size) vp' p := by
  have hlb : b.length * 24 ≤ 140737488355328 := by obtain ⟨A, c, _, _, _, h, _⟩ := hb; exact h
  have hlp : p.length * 24 ≤ 140737488355328 := by obtain ⟨A, c, _, _, _, h, _⟩ := hp; exact h
  go_enter Tryz.func59, Tryz.ntmps59
  go_wp2
  refine two_blocks _ _ _ _ _ (fun W => (Code.region _ _ _).wp _ _ _ W) (fun W hb1 hb2 hsz hbl => ?_)
  have hB := hb.mono RDig.mono (vle_below_but hbl (Nat.le_succ _))
  have hP := hp.mono RDig.mono (vle_below_but hbl (Nat.le_succ _))
  refine wp_region_plan (fun w' => W.grownBy w' (some (w.heap.size + 1)) ∧ ∃ cs, Blk w' (w.heap.size + 1) 65 cs ∧ cs.size = 4) [(0, true), (1, true), (2, true), (3, true), (4, true), (5, true), (7, true), (8, true), (6, false), (9, false), (10, true), (11, false)] (by kernel_rfl) (by kernel_rfl) (fun _ _ d _ _ h => by cases d <;> exact h) rfl (by kernel_rfl) ?_ ?_
  · exact ⟨grownBy_drew _ _, _, hb2, rfl⟩
  intro W1 hS1
  repeat (first
    | (refine wpPlan_takes rfl rfl ?_; apply Exists.intro; refine ⟨fun w' hS => ?_, ?_⟩; (· (have hq := hb1.grown hS.1 (by simp); have h0 := hq.cell 0; have h1 := hq.cell 1; have h2 := hq.cell 2; have h3 := hq.cell 3; simp at h0 h1 h2 h3; go_simp; exact rfl)); simp only [List.getElem_toArray, List.getElem_cons_zero, List.getElem_cons_succ, Act.put, List.setIfInBounds_toArray, List.set_cons_zero, List.set_cons_succ])
    | (refine wpPlan_skip (by assumption) rfl rfl ?_; simp only [List.getElem_toArray, List.getElem_cons_zero, List.getElem_cons_succ, Act.put, List.setIfInBounds_toArray, List.set_cons_zero, List.set_cons_succ]))
  refine wpPlan_do rfl rfl (fun K hK => ?_)
  try simp only [List.getElem_toArray, List.getElem_cons_zero, List.getElem_cons_succ]
  go_simp
  obtain ⟨hg1, cs, hc, hcs⟩ := hS1
  refine (bytesCopies_any _ b _ (hB.mono RDig.mono (vle_grown hg1))).mono ?_
  rintro e w1 ⟨d1, rfl, hj, o1⟩
  have hr1 := o1.reads_from RDig.mono hlb
  obtain ⟨A1, c1, rfl⟩ := o1.form
  clear o1
  have hg2 := grownBy_trans hg1 (grownBy_below _ hj)
  refine hK.out _ _ (⟨hg2, _, hc.kept hj, hcs⟩) (fun hS => ?_)
  clear hK K
  try simp only [List.getElem_toArray, List.getElem_cons_zero, List.getElem_cons_succ, Act.put, List.setIfInBounds_toArray, List.set_cons_zero, List.set_cons_succ]
  repeat (first
    | (refine wpPlan_takes rfl rfl ?_; apply Exists.intro; refine ⟨fun w' hS => ?_, ?_⟩; (· (have hq := hb1.grown hS.1 (by simp); have h0 := hq.cell 0; have h1 := hq.cell 1; have h2 := hq.cell 2; have h3 := hq.cell 3; simp at h0 h1 h2 h3; go_simp; exact rfl)); simp only [List.getElem_toArray, List.getElem_cons_zero, List.getElem_cons_succ, Act.put, List.setIfInBounds_toArray, List.set_cons_zero, List.set_cons_succ])
    | (refine wpPlan_skip (by assumption) rfl rfl ?_; simp only [List.getElem_toArray, List.getElem_cons_zero, List.getElem_cons_succ, Act.put, List.setIfInBounds_toArray, List.set_cons_zero, List.set_cons_succ]))
  refine wpPlan_do rfl rfl (fun K hK => ?_)
  try simp only [List.getElem_toArray, List.getElem_cons_zero, List.getElem_cons_succ]
  go_simp
  refine (bytesCopies_any _ p _ (hP.mono RDig.mono (vle_grown hg2))).mono ?_
  rintro e w2 ⟨d2, rfl, hj2, o2⟩
  have hr2 := o2.reads_from RDig.mono hlp
  obtain ⟨A2, c2, rfl⟩ := o2.form
  clear o2
  have hg3 := grownBy_trans hg2 (grownBy_below _ hj2)
  have hsz1 := hg1.size
  have hsz2 := hj.size
  have hsz3 := hj2.size
  refine hK.out _ _ (⟨hg3, _, (hc.kept hj).kept hj2, hcs⟩) (fun hS => ?_)
  clear hK K
  try simp only [List.getElem_toArray, List.getElem_cons_zero, List.getElem_cons_succ, Act.put, List.setIfInBounds_toArray, List.set_cons_zero, List.set_cons_succ]
  repeat (first
    | (refine wpPlan_takes rfl rfl ?_; apply Exists.intro; refine ⟨fun w' hS => ?_, ?_⟩; (· (skip; go_simp; exact rfl)); simp only [List.getElem_toArray, List.getElem_cons_zero, List.getElem_cons_succ, Act.put, List.setIfInBounds_toArray, List.set_cons_zero, List.set_cons_succ])
    | (refine wpPlan_skip (by assumption) rfl rfl ?_; simp only [List.getElem_toArray, List.getElem_cons_zero, List.getElem_cons_succ, Act.put, List.setIfInBounds_toArray, List.set_cons_zero, List.set_cons_succ]))
  refine wpPlan_do rfl rfl (fun K hK => ?_)
  try simp only [List.getElem_toArray, List.getElem_cons_zero, List.getElem_cons_succ]
  refine wp_store_whole rfl rfl rfl (n := 4) (by kernel_rfl) rfl ((hc.kept hj).kept hj2) hcs rfl ?_
  intro w3 hb3 hg
  refine hK.out _ _ (⟨grownBy_trans hS.1 hg, _, hb3, rfl⟩) (fun hS => ?_)
  clear hK K
  try simp only [List.getElem_toArray, List.getElem_cons_zero, List.getElem_cons_succ, Act.put, List.setIfInBounds_toArray, List.set_cons_zero, List.set_cons_succ]
  refine wpPlan_nil ?_
  go_wp2
  refine bodyPost_ret (results_blk rfl rfl (by kernel_rfl) (by kernel_rfl) hb3 rfl) rfl ?_
  have hA := below_grownBy (B := w.heap.size) hbl (by omega) (grownBy_trans hg3 hg) (fun k e => by injection e; omega)
  refine ⟨_, _, rfl, hA, ?_, ?_⟩
  · exact hr1.mono RDig.mono (from_le_from (by omega) (vle_from _ (vle_below hj2)) hg (by omega))
  · exact hr2.mono RDig.mono (from_le_from (by omega) (VLe.refl _) hg (by omega))
end Go.Proofs.YtbcoecmeoemmeaaGreatDoor
