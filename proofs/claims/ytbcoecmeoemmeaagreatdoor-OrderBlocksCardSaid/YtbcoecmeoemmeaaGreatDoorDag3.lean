/- Dags: parents that stand there, of the round ahead. -/
import Derived.Test.YtbcoecmeoemmeaaGreatDoorDag2
namespace Go.Proofs.YtbcoecmeoemmeaaGreatDoor
open Go.ChangeShapes Go.WideShapes Go.ChangeAt Go.RowKit
set_option linter.unusedVariables false
set_option linter.unusedSimpArgs false
theorem placeI_cases (ds : List (List UInt8)) (d : List UInt8) : (placeI ds d = -1) ∨ ∃ k : Nat, k < ds.length ∧ placeI ds d = k := by
  rcases idxI_cases (· == d) ds with ⟨h, _⟩ | ⟨k, hk, h, _⟩
  · exact .inl h
  · exact .inr ⟨k, hk, h⟩
theorem wrongP_neg {l : List Crt} {ds : List (List UInt8)} {r : Int} {p : List UInt8} (h : placeI ds p = -1) : wrongP l ds r p = false := by
  unfold wrongP
  rw [h]
  split <;> simp
theorem wrongP_pos {l : List Crt} {ds : List (List UInt8)} {r : Int} {p : List UInt8} {k : Nat} (hk : k < l.length) (h : placeI ds p = k) : wrongP l ds r p = (l[k].hdr.round != r - 1) := by
  unfold wrongP
  rw [h]
  simp [List.getElem?_eq_getElem hk]
def lost (ds : List (List UInt8)) (ps : List (List UInt8)) : Bool := ps.any fun p => decide (placeI ds p < 0)
theorem missN_zero (ds : List (List UInt8)) (h : Hdr) : (missN ds h).length = 0 ↔ lost ds h.parents = false := by
  unfold missN lost
  rw [List.length_eq_zero_iff, List.filter_eq_nil_iff, List.any_eq_false]
theorem missW_of {l : List Crt} {ds : List (List UInt8)} {h : Hdr} (hn : ∀ j (hj : j < h.parents.length), wrongP l ds h.round h.parents[j] = false) : missW l ds h = false := any_false_get hn
theorem missW_at {l : List Crt} {ds : List (List UInt8)} {h : Hdr} {k : Nat} (hk : k < h.parents.length) (hw : wrongP l ds h.round h.parents[k] = true) : missW l ds h = true := any_true_get hk hw
theorem lost_succ (ds ps : List (List UInt8)) {k : Nat} (hk : k < ps.length) : lost ds (ps.take (k + 1)) = (lost ds (ps.take k) || decide (placeI ds ps[k] < 0)) := by
  unfold lost
  rw [List.take_succ_eq_append_getElem hk, List.any_append]
  simp
set_option maxHeartbeats 4000000 in
set_option maxRecDepth 100000 in
theorem parentsFault_any (vl vs : Value) (l : List Crt) (ds : List (List UInt8)) (h : Hdr) (vb vp : Value) (w : World) (hl : RCrts w.cell? vl l) (hs : RDigs w.cell? vs ds) (hp : RDigs w.cell? vp h.parents) (hlen : ds.length ≤ l.length) (hr0 : 1 ≤ h.round) (hr1 : h.round ≤ 1048576) :
    Calls Tryz.prog 99 #[vl, vs, .agg #[.int .i64 h.author, .int .i64 h.round, vb, vp]] w fun e w' => e = .returned (.int .i64 (parF l ds h)) ∧ Below w.heap.size w w' := by
  obtain ⟨A, c, rfl, hf⟩ := id hl
  obtain ⟨pA, pc, rfl, hf2⟩ := id hp
  obtain ⟨_, hn1, hn2, hel⟩ := hl.at
  obtain ⟨_, hm1, hm2, hpel⟩ := hp.at
  have Hel := Lib.hid hel
  have Hpel := Lib.hid hpel
  have Hs := Lib.hid hs
  have Hlen := Lib.hid hlen
  clear hl hel hf hf2 hpel hp hs hlen
  obtain ⟨P, hP⟩ : ∃ P, Hid (h.parents = P) := ⟨_, rfl⟩
  have HQ : Hid (parF l ds h = if missW l ds h then 9 else if lost ds P then 8 else 0) := by
    show _ = _
    unfold parF
    rw [← hP.out]
    cases missW l ds h
    · simp only [Bool.false_eq_true, if_false]
      cases hz : lost ds h.parents
      · rw [if_pos ((missN_zero ds h).2 hz)]; simp
      · rw [if_neg (fun h0 => by rw [(missN_zero ds h).1 h0] at hz; cases hz)]; simp
    · rfl
  have HW0 : Hid ((∀ j (hj : j < P.length), wrongP l ds h.round P[j] = false) → missW l ds h = false) := fun hn => missW_of fun j hj => by
    have := hP.out; subst this; exact hn j hj
  have HW1 : Hid (∀ k (hk : k < P.length), wrongP l ds h.round P[k] = true → missW l ds h = true) := fun k hk hw => by
    have := hP.out; subst this; exact missW_at hk hw
  obtain ⟨Q, hQ⟩ : ∃ Q, Hid (parF l ds h = Q) := ⟨_, rfl⟩
  rw [hQ.out] at HQ ⊢
  generalize missW l ds h = MW at HQ HW0 HW1
  rw [hP.out] at hm1 hm2 Hpel ⊢
  generalize h.round = r at *
  generalize h.author = au at *
  have er : IntKind.i64.wrap (r - 1) = r - 1 := by rw [IntKind.wrap_i64]; omega
  clear hQ hP
  go_enter Tryz.func99, Tryz.ntmps99
  go_upto_region 1 with fail
  refine one_block _ _ _ (fun W => Code.wp _ _ _ _ W) (fun W hbk hsz hbW => ?_)
  have hzW := hbW.size
  clear hsz
  go_wp2
  go_loopw [7, 8, 9] (fun e i _ wr => ∃ k : Nat, k ≤ P.length ∧ i = .int .i64 k ∧ e = .int .i64 (if lost ds (P.take k) then 8 else 0) ∧ Hid (∀ j (hj : j < P.length), j < k → wrongP l ds r P[j] = false) ∧ Below W.heap.size W wr) (fun _ i _ _ => P.length - (intOf i).toNat)
  case atStart => exact ⟨0, Nat.zero_le _, rfl, rfl, fun j _ hj => by omega, Below.refl _ _⟩
  case round =>
    obtain ⟨k, hk, rfl, rfl, hno, hbl⟩ := hrel
    have hbk' := hbk.kept hbl
    have g1 := hbk'.cell 1; have g3 := hbk'.cell 3
    simp at g1 g3
    have hblw := hbW.trans (hbl.mono hzW)
    obtain ⟨e0, he0⟩ : ∃ e0 : Int, Hid ((if lost ds (P.take k) then 8 else 0 : Int) = e0) := ⟨_, rfl⟩
    rw [he0.out]
    by_cases hlt : k < P.length
    · obtain ⟨b0, o0, d, rfl, q0, hd⟩ := Hpel.out k hlt
      have c0 := vle_below hblw _ _ q0
      have hd' := hd.mono (vle_below hblw)
      have hstep := Lib.hid (lost_succ ds P hlt)
      have hcs := placeI_cases ds P[k]
      have hneg : Hid (placeI ds P[k] = -1 → wrongP l ds r P[k] = false) := fun h => wrongP_neg h
      have hpos : Hid (∀ j (hj : j < l.length), placeI ds P[k] = j → wrongP l ds r P[k] = (l[j].hdr.round != r - 1)) := fun j hj h => wrongP_pos hj h
      have hnext : Hid (wrongP l ds r P[k] = false → ∀ j (hj : j < P.length), j < k + 1 → wrongP l ds r P[j] = false) := fun hq j hj hjk => by
        by_cases e : j = k
        · subst e; exact hq
        · exact hno.out j hj (by omega)
      have hW1 := Lib.hid (HW1.out k hlt)
      clear q0 hd
      go_wp2_with fail
      refine (placeOf_any _ ds _ P[k] _ (Hs.out.mono RDig.mono (vle_below hblw)) hd').mono ?_
      rintro e w1 ⟨rfl, hb1⟩
      have hbl1 := hbl.trans (hb1.mono hbl.size)
      have hbk1 := hbk'.kept hb1
      have hblw1 := hbW.trans (hbl1.mono hzW)
      clear g1 g3 c0 hd' hbk'
      rcases hcs with hneg' | ⟨j, hj, hpos'⟩
      · rw [hneg']
        have hq := Lib.hid (hnext.out (hneg.out hneg'))
        have he1 : Hid ((if lost ds (P.take (k + 1)) then 8 else 0 : Int) = 8) := by show _ = _; rw [hstep.out, hneg']; simp
        clear hneg hpos hnext hstep he0 hneg'
        go_wp2_with fail
        refine wp_region_pl (fun w' => Below w1.heap.size w1 w') [] (.q 0 (.q 1 (.q 2 (.q 3 (.q 4 (.q 5 (.q 6 (.q 7 (.q 8 (.q 9 (.q 10 (.q 11 (.q 12 (.q 13 .nil)))))))))))))) (by kernel_rfl) (by kernel_rfl) (fun _ _ d _ _ h => by cases d <;> exact h) rfl (by kernel_rfl) ?_ ?_
        · exact below_drew _
        intro W2 hS
        repeat (first
          | (refine pl_q (by assumption) rfl rfl ?_; apply Exists.intro; refine ⟨fun w' hS => ?_, ?_⟩; (· (skip; go_simp; exact rfl)); simp only [List.getElem_toArray, List.getElem_cons_zero, List.getElem_cons_succ, Act.put, List.setIfInBounds_toArray, List.set_cons_zero, List.set_cons_succ])
          | (refine pl_qc rfl rfl ?_; apply Exists.intro; refine ⟨fun w' _ => ?_, ?_⟩; (· (go_simp; exact rfl)); simp only [List.getElem_toArray, List.getElem_cons_zero, List.getElem_cons_succ, Act.put, List.setIfInBounds_toArray, List.set_cons_zero, List.set_cons_succ])
          | (refine pl_skip (by assumption) rfl rfl ?_; simp only [List.getElem_toArray, List.getElem_cons_zero, List.getElem_cons_succ, Act.put, List.setIfInBounds_toArray, List.set_cons_zero, List.set_cons_succ])
          | (refine pl_skipl (by assumption) rfl rfl ?_; simp only [List.getElem_toArray, List.getElem_cons_zero, List.getElem_cons_succ, Act.put, List.setIfInBounds_toArray, List.set_cons_zero, List.set_cons_succ]))
        refine pl_nil ?_
        go_wp2
        go_roundw
        case rel => exact ⟨k + 1, by omega, by go_num, by rw [he1.out], hq.out, hbl1.trans (hS.mono hbl1.size)⟩
        case measure => simp [intOf]; omega
      · have hjl : j < l.length := by have := Hlen.out; omega
        rw [hpos']
        have hw := hpos.out j hjl hpos'
        have he1 : Hid ((if lost ds (P.take (k + 1)) then 8 else 0 : Int) = e0) := by show _ = _; rw [hstep.out, hpos', ← he0.out]; simp [show ¬ ((j : Int) < 0) by omega]
        obtain ⟨lb, lo, ub, up, uv, rfl, s0, s1, _⟩ := Hel.out j hjl
        have d1 := vle_below hblw1 _ _ s1
        clear hneg hpos hstep he0 hpos' s0 s1
        generalize l[j].hdr.round = y at hw d1
        by_cases hy : y = r - 1
        · have hq := Lib.hid (hnext.out (by rw [hw]; simp [hy]))
          clear hnext hw hW1
          subst hy
          go_wp2_with fail
          refine wp_region_pl (fun w' => Below w1.heap.size w1 w') [] (.q 0 (.q 1 (.q 2 (.q 3 (.q 4 (.q 5 (.q 6 (.q 7 (.q 8 (.q 9 (.q 10 (.q 11 (.q 12 (.q 13 .nil)))))))))))))) (by kernel_rfl) (by kernel_rfl) (fun _ _ d _ _ h => by cases d <;> exact h) rfl (by kernel_rfl) ?_ ?_
          · exact below_drew _
          intro W2 hS
          repeat (first
            | (refine pl_q (by assumption) rfl rfl ?_; apply Exists.intro; refine ⟨fun w' hS => ?_, ?_⟩; (· (have h1 := vle_below hS _ _ d1; have hq := hbk1.kept hS; have h2 := hq.cell 1; simp at h2; go_simp; exact rfl)); simp only [List.getElem_toArray, List.getElem_cons_zero, List.getElem_cons_succ, Act.put, List.setIfInBounds_toArray, List.set_cons_zero, List.set_cons_succ])
            | (refine pl_qc rfl rfl ?_; apply Exists.intro; refine ⟨fun w' _ => ?_, ?_⟩; (· (go_simp; exact rfl)); simp only [List.getElem_toArray, List.getElem_cons_zero, List.getElem_cons_succ, Act.put, List.setIfInBounds_toArray, List.set_cons_zero, List.set_cons_succ])
            | (refine pl_skip (by assumption) rfl rfl ?_; simp only [List.getElem_toArray, List.getElem_cons_zero, List.getElem_cons_succ, Act.put, List.setIfInBounds_toArray, List.set_cons_zero, List.set_cons_succ])
            | (refine pl_skipl (by assumption) rfl rfl ?_; simp only [List.getElem_toArray, List.getElem_cons_zero, List.getElem_cons_succ, Act.put, List.setIfInBounds_toArray, List.set_cons_zero, List.set_cons_succ]))
          refine pl_nil ?_
          go_wp2
          go_roundw
          case rel => exact ⟨k + 1, by omega, by go_num, by rw [he1.out], hq.out, hbl1.trans (hS.mono hbl1.size)⟩
          case measure => simp [intOf]; omega
        · have hmw := hW1.out (by rw [hw]; simp [hy])
          have HQ' : Hid (Q = 9) := by show _ = _; rw [HQ.out, hmw]; rfl
          clear hnext hw hW1 hmw he1 HQ HW0 HW1
          go_wp2_with fail
          refine wp_region_pl (fun w' => Below w1.heap.size w1 w') [] (.q 0 (.q 1 (.q 2 (.q 3 (.q 4 (.q 5 (.q 6 (.q 7 (.q 8 (.q 9 (.q 10 (.q 11 (.q 12 (.q 13 .nil)))))))))))))) (by kernel_rfl) (by kernel_rfl) (fun _ _ d _ _ h => by cases d <;> exact h) rfl (by kernel_rfl) ?_ ?_
          · exact below_drew _
          intro W2 hS
          repeat (first
            | (refine pl_q (by assumption) rfl rfl ?_; apply Exists.intro; refine ⟨fun w' hS => ?_, ?_⟩; (· (have h1 := vle_below hS _ _ d1; have hq := hbk1.kept hS; have h2 := hq.cell 1; simp at h2; go_simp; exact rfl)); simp only [List.getElem_toArray, List.getElem_cons_zero, List.getElem_cons_succ, Act.put, List.setIfInBounds_toArray, List.set_cons_zero, List.set_cons_succ])
            | (refine pl_qc rfl rfl ?_; apply Exists.intro; refine ⟨fun w' _ => ?_, ?_⟩; (· (go_simp; exact rfl)); simp only [List.getElem_toArray, List.getElem_cons_zero, List.getElem_cons_succ, Act.put, List.setIfInBounds_toArray, List.set_cons_zero, List.set_cons_succ])
            | (refine pl_skip (by assumption) rfl rfl ?_; simp only [List.getElem_toArray, List.getElem_cons_zero, List.getElem_cons_succ, Act.put, List.setIfInBounds_toArray, List.set_cons_zero, List.set_cons_succ])
            | (refine pl_skipl (by assumption) rfl rfl ?_; simp only [List.getElem_toArray, List.getElem_cons_zero, List.getElem_cons_succ, Act.put, List.setIfInBounds_toArray, List.set_cons_zero, List.set_cons_succ]))
          refine pl_nil ?_
          go_wp2
          go_ret
          exact ⟨ret_int HQ'.out.symm, hblw1.trans (hS.mono hblw1.size)⟩
    · have hkl : k = P.length := by omega
      have hmw := HW0.out (fun j hj => hno.out j hj (by omega))
      have HQ' : Hid (Q = e0) := by show _ = _; rw [HQ.out, hmw, ← he0.out, hkl, List.take_length]; rfl
      clear HQ HW0 HW1 hmw
      go_wp2
      go_ret
      exact ⟨ret_int HQ'.out.symm, hblw⟩
def lostN (ds ps : List (List UInt8)) : List (List UInt8) := ps.filter fun p => decide (placeI ds p < 0)
theorem lostN_succ (ds ps : List (List UInt8)) {k : Nat} (hk : k < ps.length) : lostN ds (ps.take (k + 1)) = lostN ds (ps.take k) ++ (if placeI ds ps[k] < 0 then [ps[k]] else []) := by
  unfold lostN
  rw [List.take_succ_eq_append_getElem hk, List.filter_append]
  congr 1
  by_cases h : placeI ds ps[k] < 0 <;> simp [h]
theorem lostN_len (ds ps : List (List UInt8)) : (lostN ds ps).length ≤ ps.length := List.length_filter_le _ _
theorem anyW_succ (l : List Crt) (ds ps : List (List UInt8)) (r : Int) {k : Nat} (hk : k < ps.length) : (ps.take (k + 1)).any (wrongP l ds r) = ((ps.take k).any (wrongP l ds r) || wrongP l ds r ps[k]) := by
  rw [List.take_succ_eq_append_getElem hk, List.any_append]
  simp
set_option maxHeartbeats 4000000 in
set_option maxRecDepth 100000 in
theorem missing_any (vl vs : Value) (l : List Crt) (ds : List (List UInt8)) (h : Hdr) (vb vp : Value) (w : World) (hl : RCrts w.cell? vl l) (hs : RDigs w.cell? vs ds) (hp : RDigs w.cell? vp h.parents) (hlen : ds.length ≤ l.length) (hr0 : 1 ≤ h.round) (hr1 : h.round ≤ 1048576) :
    Calls Tryz.prog 87 #[vl, vs, .agg #[.int .i64 h.author, .int .i64 h.round, vb, vp]] w fun e w' => ∃ v, e = .returned (.tuple #[v, .bool (missW l ds h)]) ∧ Below w.heap.size w w' ∧ OwnSl 1 (RFrom w.heap.size RDig) 41 w' w.heap.size v (missN ds h) := by
  obtain ⟨A, c, rfl, hf⟩ := id hl
  obtain ⟨pA, pc, rfl, hf2⟩ := id hp
  obtain ⟨_, hn1, hn2, hel⟩ := hl.at
  obtain ⟨_, hm1, hm2, hpel⟩ := hp.at
  have Hel := Lib.hid hel
  have Hpel := Lib.hid hpel
  have Hs := Lib.hid hs
  have Hlen := Lib.hid hlen
  clear hl hel hf hf2 hpel hp hs hlen
  rw [show missW l ds h = h.parents.any (wrongP l ds h.round) from rfl, show missN ds h = lostN ds h.parents from rfl]
  generalize h.parents = P at *
  generalize h.round = r at *
  generalize h.author = au at *
  have er : IntKind.i64.wrap (r - 1) = r - 1 := by rw [IntKind.wrap_i64]; omega
  obtain ⟨QW, hQW⟩ : ∃ q, Hid (P.any (wrongP l ds r) = q) := ⟨_, rfl⟩
  obtain ⟨QN, hQN⟩ : ∃ q, Hid (lostN ds P = q) := ⟨_, rfl⟩
  rw [hQW.out, hQN.out]
  go_enter Tryz.func87, Tryz.ntmps87
  go_upto_region 1 with fail
  refine one_block _ _ _ (fun W => Code.wp _ _ _ _ W) (fun W hbk hsz hbW => ?_)
  have hzW := hbW.size
  clear hsz
  have g3 := hbk.cell 3
  simp at g3
  go_wp2
  go_loopw [6, 7, 14] (fun v q i wr => ∃ k : Nat, k ≤ P.length ∧ i = .int .i64 k ∧ q = .bool ((P.take k).any (wrongP l ds r)) ∧ OwnSl 1 (RFrom w.heap.size RDig) 41 wr W.heap.size v (lostN ds (P.take k)) ∧ Below W.heap.size W wr) (fun _ _ i _ => P.length - (intOf i).toNat)
  case atStart => exact ⟨0, Nat.zero_le _, rfl, rfl, OwnSl.nil _ _ _ _ _, Below.refl _ _⟩
  case round =>
    clear g3
    obtain ⟨k, hk, rfl, rfl, hown, hbl⟩ := hrel
    have hbk' := hbk.kept hbl
    have hz := hbl.size
    have hblw := hbW.trans (hbl.mono hzW)
    obtain ⟨q0, hq0⟩ : ∃ q, Hid ((P.take k).any (wrongP l ds r) = q) := ⟨_, rfl⟩
    rw [hq0.out]
    by_cases hlt : k < P.length
    · obtain ⟨b0, o0, d, rfl, s0, hd⟩ := Hpel.out k hlt
      have c0 := vle_below hblw _ _ s0
      have hdB := hd
      have hd' := hd.mono (vle_below hblw)
      have hNs := Lib.hid (lostN_succ ds P hlt)
      have hWs := Lib.hid (anyW_succ l ds P r hlt)
      rw [hq0.out] at hWs
      have hcs := placeI_cases ds P[k]
      have hneg : Hid (placeI ds P[k] = -1 → wrongP l ds r P[k] = false) := fun h => wrongP_neg h
      have hpos : Hid (∀ j (hj : j < l.length), placeI ds P[k] = j → wrongP l ds r P[k] = (l[j].hdr.round != r - 1)) := fun j hj h => wrongP_pos hj h
      have Hlk := Lib.hid (show (lostN ds (P.take k)).length ≤ k from Nat.le_trans (lostN_len _ _) (by simp; omega))
      have hdl : P[k].length * 1 ≤ 140737488355328 := hd.len
      clear s0 hd
      generalize lostN ds (P.take k) = L at hown hNs Hlk
      generalize wrongP l ds r P[k] = WP at hneg hpos hWs
      generalize hX : P[k] = x at hd' hcs hneg hpos hNs hdl hdB
      clear hX
      go_wp2_with fail
      refine (at_any _ ds _ x _ (Hs.out.mono RDig.mono (vle_below hblw)) hd').mono ?_
      rintro e w1 ⟨rfl, hb1⟩
      have hbl1 := hbl.trans (hb1.mono hz)
      have hbk1 := hbk'.kept hb1
      have hblw1 := hbW.trans (hbl1.mono hzW)
      have hown1 := hown.kept (RFrom.mono RDig.mono) hb1
      have hz1 := hbl1.size
      clear c0 hd' hbk' hown
      rcases hcs with hneg' | ⟨j, hj, hpos'⟩
      · rw [hneg']
        have hq1 : Hid ((P.take (k + 1)).any (wrongP l ds r) = q0) := by show _ = _; rw [hWs.out, hneg.out hneg']; simp
        have hn1 : Hid (lostN ds (P.take (k + 1)) = L ++ [x]) := by show _ = _; rw [hNs.out, hneg']; simp
        have hd1 := hdB.mono (vle_below hblw1)
        clear hneg hpos hNs hWs hneg' hdB
        obtain ⟨dA, dc, rfl, hf⟩ := id hd1
        clear hf
        go_wp2_with fail
        refine (cloneB_any _ x _ hd1).mono ?_
        rintro e w2 ⟨d2, rfl, hb2, o2⟩
        have hown2 := hown1.kept (RFrom.mono RDig.mono) hb2
        have hbl2 : Below W.heap.size W w2 := hbl1.trans (hb2.mono hz1)
        have hR : RFrom w.heap.size RDig (View.but w2.cell? u6.ownBlock) [d2] x :=
          ⟨d2, rfl, o2.reads_from hdl (Nat.le_trans hzW hz1) (fun g hg => (hown1.lt g hg).2)⟩
        have hz2 := hbl2.size
        obtain ⟨A', c', rfl⟩ := o2.form
        clear hd1 o2 hown1
        go_wp2_with (at_builtin; go_loud (refine wpList_append_sl1 (n := 140737488355328) (RFrom.mono RDig.mono) x [.slice A' x.length c'] elemDig _ _ rfl rfl rfl hown2 hbl2 hz2 rfl rfl rfl rfl hR (Nat.le_refl _) (by have := Hlk.out; omega) (by have := Hlk.out; omega) ?_))
        intro v' w3 ho hbl3 _
        clear hown2 hR
        go_wp2
        go_roundw
        case rel => exact ⟨k + 1, by omega, by go_num, by rw [hq1.out], by rw [hn1.out]; exact ho, hbl3⟩
        case measure => simp [intOf]; omega
      · have hjl : j < l.length := by have := Hlen.out; omega
        rw [hpos']
        have hw := hpos.out j hjl hpos'
        have hn1 : Hid (lostN ds (P.take (k + 1)) = L) := by show _ = _; rw [hNs.out, hpos', if_neg (by omega), List.append_nil]
        obtain ⟨lb, lo, ub, up, uv, rfl, s0, s1, _⟩ := Hel.out j hjl
        have d1 := vle_below hblw1 _ _ s1
        clear hneg hpos hpos' s0 s1 hNs hdB
        generalize l[j].hdr.round = y at hw d1
        by_cases hy : y = r - 1
        · have hq1 : Hid ((P.take (k + 1)).any (wrongP l ds r) = q0) := by show _ = _; rw [hWs.out, hw]; simp [hy]
          clear hw hWs
          subst hy
          go_wp2_with fail
          refine wp_region_pl (fun w' => Below w1.heap.size w1 w') [] (.q 0 (.q 1 (.q 2 (.q 3 (.q 4 (.q 5 (.q 6 (.q 7 (.q 8 (.q 9 (.q 10 .nil))))))))))) (by kernel_rfl) (by kernel_rfl) (fun _ _ d _ _ h => by cases d <;> exact h) rfl (by kernel_rfl) ?_ ?_
          · exact below_drew _
          intro W2 hS
          have hown2 := hown1.kept (RFrom.mono RDig.mono) hS
          repeat (first
            | (refine pl_q (by assumption) rfl rfl ?_; apply Exists.intro; refine ⟨fun w' hS => ?_, ?_⟩; (· (have h1 := vle_below hS _ _ d1; have hq := hbk1.kept hS; have h2 := hq.cell 1; simp at h2; go_simp; exact rfl)); simp only [List.getElem_toArray, List.getElem_cons_zero, List.getElem_cons_succ, Act.put, List.setIfInBounds_toArray, List.set_cons_zero, List.set_cons_succ])
            | (refine pl_qc rfl rfl ?_; apply Exists.intro; refine ⟨fun w' _ => ?_, ?_⟩; (· (go_simp; exact rfl)); simp only [List.getElem_toArray, List.getElem_cons_zero, List.getElem_cons_succ, Act.put, List.setIfInBounds_toArray, List.set_cons_zero, List.set_cons_succ])
            | (refine pl_skip (by assumption) rfl rfl ?_; simp only [List.getElem_toArray, List.getElem_cons_zero, List.getElem_cons_succ, Act.put, List.setIfInBounds_toArray, List.set_cons_zero, List.set_cons_succ])
            | (refine pl_skipl (by assumption) rfl rfl ?_; simp only [List.getElem_toArray, List.getElem_cons_zero, List.getElem_cons_succ, Act.put, List.setIfInBounds_toArray, List.set_cons_zero, List.set_cons_succ]))
          refine pl_nil ?_
          go_wp2
          go_roundw
          case rel => exact ⟨k + 1, by omega, by go_num, by rw [hq1.out], by rw [hn1.out]; exact hown2, hbl1.trans (hS.mono hz1)⟩
          case measure => simp [intOf]; omega
        · have hq1 : Hid ((P.take (k + 1)).any (wrongP l ds r) = true) := by show _ = _; rw [hWs.out, hw]; simp [hy]
          clear hw hWs
          go_wp2_with fail
          refine wp_region_pl (fun w' => Below w1.heap.size w1 w') [] (.q 0 (.q 1 (.q 2 (.q 3 (.q 4 (.q 5 (.q 6 (.q 7 (.q 8 (.q 9 (.q 10 .nil))))))))))) (by kernel_rfl) (by kernel_rfl) (fun _ _ d _ _ h => by cases d <;> exact h) rfl (by kernel_rfl) ?_ ?_
          · exact below_drew _
          intro W2 hS
          have hown2 := hown1.kept (RFrom.mono RDig.mono) hS
          repeat (first
            | (refine pl_q (by assumption) rfl rfl ?_; apply Exists.intro; refine ⟨fun w' hS => ?_, ?_⟩; (· (have h1 := vle_below hS _ _ d1; have hq := hbk1.kept hS; have h2 := hq.cell 1; simp at h2; go_simp; exact rfl)); simp only [List.getElem_toArray, List.getElem_cons_zero, List.getElem_cons_succ, Act.put, List.setIfInBounds_toArray, List.set_cons_zero, List.set_cons_succ])
            | (refine pl_qc rfl rfl ?_; apply Exists.intro; refine ⟨fun w' _ => ?_, ?_⟩; (· (go_simp; exact rfl)); simp only [List.getElem_toArray, List.getElem_cons_zero, List.getElem_cons_succ, Act.put, List.setIfInBounds_toArray, List.set_cons_zero, List.set_cons_succ])
            | (refine pl_skip (by assumption) rfl rfl ?_; simp only [List.getElem_toArray, List.getElem_cons_zero, List.getElem_cons_succ, Act.put, List.setIfInBounds_toArray, List.set_cons_zero, List.set_cons_succ])
            | (refine pl_skipl (by assumption) rfl rfl ?_; simp only [List.getElem_toArray, List.getElem_cons_zero, List.getElem_cons_succ, Act.put, List.setIfInBounds_toArray, List.set_cons_zero, List.set_cons_succ]))
          refine pl_nil ?_
          go_wp2
          go_roundw
          case rel => exact ⟨k + 1, by omega, by go_num, by rw [hq1.out], by rw [hn1.out]; exact hown2, hbl1.trans (hS.mono hz1)⟩
          case measure => simp [intOf]; omega
    · have hkl : k = P.length := by omega
      have e1 : q0 = QW := by rw [← hq0.out, hkl, List.take_length, hQW.out]
      have e2 : lostN ds (P.take k) = QN := by rw [hkl, List.take_length, hQN.out]
      rw [e2] at hown
      have hown := hown.base hzW
      clear e2 hq0
      subst e1
      go_wp2
      go_ret2
      exact ⟨_, rfl, hblw, hown⟩
end Go.Proofs.YtbcoecmeoemmeaaGreatDoor
