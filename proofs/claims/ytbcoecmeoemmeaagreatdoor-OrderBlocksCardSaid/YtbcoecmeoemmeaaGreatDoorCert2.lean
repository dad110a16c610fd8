/- Certificates: check, fault; the law WireCerts. -/
import Derived.Test.YtbcoecmeoemmeaaGreatDoorCert
namespace Go.Proofs.YtbcoecmeoemmeaaGreatDoor
open Go.ChangeShapes Go.WideShapes Go.ChangeAt Go.RowKit
set_option linter.unusedVariables false
def votAt (vs : List Int) (i : Nat) : Int := match vs[i]? with
  | some v => if inB v 0 3 then (match i with | 0 => 0 | j + 1 => match vs[j]? with | some u => if v ≤ u then 9 else 0 | none => 0) else 2
  | none => 0
def certF (a r : Int) (b p : List (List UInt8)) (vs : List Int) : Int :=
  if headF a r b p ≠ 0 then headF a r b p else if 4 < vs.length then 1 else if firstF (votAt vs) vs.length ≠ 0 then firstF (votAt vs) vs.length else if vs.length < 3 then 10 else 0
theorem votAt_range {vs : List Int} {k : Nat} (hk : k < vs.length) (h : inB vs[k] 0 3 = false) : votAt vs k = 2 := by unfold votAt; simp [hk, h]
theorem votAt_first {vs : List Int} (hk : 0 < vs.length) (h : inB vs[0] 0 3 = true) : votAt vs 0 = 0 := by unfold votAt; simp [hk, h]
theorem votAt_next {vs : List Int} {k : Nat} (hk : k + 1 < vs.length) (h : inB vs[k + 1] 0 3 = true) : votAt vs (k + 1) = if vs[k + 1] ≤ vs[k] then 9 else 0 := by
  unfold votAt
  have : k < vs.length := by omega
  simp [hk, h, this]
set_option maxHeartbeats 2000000 in
set_option maxRecDepth 100000 in
theorem certFault_any (a r : Int) (vb vp vv : Value) (b p : List (List UInt8)) (vs : List Int) (w : World) (hb : RDigs w.cell? vb b) (hp : RDigs w.cell? vp p) (hv : RIs w.cell? vv vs) :
    Calls Tryz.prog 98 #[.agg #[.int .i64 a, .int .i64 r, vb, vp, vv]] w fun e w' => e = .returned (.int .i64 (certF a r b p vs)) ∧ Below w.heap.size w w' := by
  obtain ⟨vA, vc, rfl, _⟩ := id hv
  obtain ⟨_, hvcap, hvlen, hvel⟩ := hv.at
  have Hvel := Lib.hid hvel
  clear hvel hv
  obtain ⟨E, hE⟩ : ∃ E, Hid (headF a r b p = E) := ⟨_, rfl⟩
  obtain ⟨Q, hQ⟩ : ∃ Q, Hid (certF a r b p vs = Q) := ⟨_, rfl⟩
  obtain ⟨V, hV⟩ : ∃ V, Hid (firstF (votAt vs) vs.length = V) := ⟨_, rfl⟩
  have hq : Hid (Q = if E ≠ 0 then E else if 4 < vs.length then 1 else if V ≠ 0 then V else if vs.length < 3 then 10 else 0) := by show _ = _; rw [← hQ.out, ← hE.out, ← hV.out]; rfl
  rw [hQ.out]
  go_enter Tryz.func98, Tryz.ntmps98
  go_wp2_with fail
  refine one_block _ _ _ (fun W => Calls Tryz.prog _ _ W _) (fun W hk1 hsz hbl => ?_)
  refine (headerFault_any a r vb vp b p _ (hb.mono RDig.mono (vle_below hbl)) (hp.mono RDig.mono (vle_below hbl))).mono ?_
  rintro e w1 ⟨rfl, hb1⟩
  rw [hE.out]
  have hbl1 := hbl.trans (hb1.mono hbl.size)
  have hk2 := hk1.kept hb1
  clear hbl hb1 hk1
  have c4 := hk2.cell 4
  simp at c4
  by_cases hE0 : E = 0
  · subst hE0
    by_cases h4 : 4 < vs.length
    · have HQ : Hid (Q = 1) := by show _ = _; rw [hq.out, if_neg (by omega), if_pos h4]
      clear hq
      go_wp2
      go_loopw [3, 4] (fun e i wr => e = .int .i64 1 ∧ i = .int .i64 0 ∧ Below w1.heap.size w1 wr) (fun _ _ _ => 0)
      case atStart => exact ⟨rfl, rfl, Below.refl _ _⟩
      case round =>
        obtain ⟨rfl, rfl, hbl⟩ := hrel
        have c4 := vle_below hbl _ _ c4
        go_wp2
        all_goals
          go_ret
          exact ⟨ret_int HQ.out.symm, hbl1.trans (hbl.mono hbl1.size)⟩
    · have HQ : Hid (Q = if V ≠ 0 then V else if vs.length < 3 then 10 else 0) := by show _ = _; rw [hq.out, if_neg (by omega), if_neg h4]
      clear hq
      go_wp2
      go_loopw [3, 4] (fun e i wr => ∃ (k : Nat) (E1 : Int), k ≤ vs.length ∧ e = .int .i64 E1 ∧ i = .int .i64 k ∧ Hid ((E1 = 0 ∧ ∀ j, j < k → votAt vs j = 0) ∨ (E1 ≠ 0 ∧ V = E1)) ∧ Below w1.heap.size w1 wr) (fun _ i _ => vs.length - (intOf i).toNat)
      case atStart => exact ⟨0, 0, Nat.zero_le _, rfl, rfl, .inl ⟨rfl, fun j hj => by omega⟩, Below.refl _ _⟩
      case round =>
        obtain ⟨k, E1, hk, rfl, rfl, hok, hbl⟩ := hrel
        have c4 := vle_below hbl _ _ c4
        by_cases hE1 : E1 = 0
        · subst hE1
          have hok' : Hid (∀ j, j < k → votAt vs j = 0) := by
            rcases hok.out with h | h
            · exact h.2
            · exact absurd rfl h.1
          clear hok
          by_cases hlt : k < vs.length
          · obtain ⟨b0, o0, rfl, hcell'⟩ := Hvel.out k hlt
            have hc1 := vle_below hbl _ _ (vle_below hbl1 _ _ hcell')
            clear hcell'
            cases hin : inB vs[k] 0 3
            · have Hat := Lib.hid (votAt_range hlt hin)
              go_wp2_with (first | (go_at_call 101; refine (in_any _ _ _ _).mono ?_; rintro e w' ⟨rfl, rfl⟩) | fail)
              go_roundw
              case rel => exact ⟨k + 1, 2, by omega, rfl, by go_num, .inr ⟨by decide, hV.out.symm.trans (firstF_found hlt hok'.out Hat.out (by decide))⟩, hbl⟩
              case measure => simp [intOf]; omega
            · cases k with
              | zero =>
                have Hat := Lib.hid (votAt_first hlt hin)
                rw [Nat.add_zero] at hc1
                generalize vs[0] = x at hc1 hin
                go_wp2_with (first | (go_at_call 101; refine (in_any _ _ _ _).mono ?_; rintro e w' ⟨rfl, rfl⟩) | fail)
                refine wp_region_pl (fun w' => Below wr.heap.size wr w') [] (.q 0 (.q 1 (.q 2 (.q 3 (.q 4 (.q 5 (.q 6 (.q 7 (.q 8 (.q 9 (.q 10 (.q 11 (.q 12 (.q 13 (.q 14 (.q 15 .nil)))))))))))))))) (by kernel_rfl) (by kernel_rfl) (fun _ _ d _ _ h => by cases d <;> exact h) rfl (by kernel_rfl) ?_ ?_
                · exact below_drew _
                intro W1 hS
                repeat (first
                  | (refine pl_q (by assumption) rfl rfl ?_; apply Exists.intro; refine ⟨fun w' hS => ?_, ?_⟩; (· (have h1 := vle_below hS _ _ c4; go_simp; exact rfl)); simp only [List.getElem_toArray, List.getElem_cons_zero, List.getElem_cons_succ, Act.put, List.setIfInBounds_toArray, List.set_cons_zero, List.set_cons_succ])
                  | (refine pl_qc rfl rfl ?_; apply Exists.intro; refine ⟨fun w' _ => ?_, ?_⟩; (· (go_simp; exact rfl)); simp only [List.getElem_toArray, List.getElem_cons_zero, List.getElem_cons_succ, Act.put, List.setIfInBounds_toArray, List.set_cons_zero, List.set_cons_succ])
                  | (refine pl_skip (by assumption) rfl rfl ?_; simp only [List.getElem_toArray, List.getElem_cons_zero, List.getElem_cons_succ, Act.put, List.setIfInBounds_toArray, List.set_cons_zero, List.set_cons_succ])
                  | (refine pl_skipl (by assumption) rfl rfl ?_; simp only [List.getElem_toArray, List.getElem_cons_zero, List.getElem_cons_succ, Act.put, List.setIfInBounds_toArray, List.set_cons_zero, List.set_cons_succ]))
                refine pl_nil ?_
                go_wp2
                go_roundw
                case rel => exact ⟨1, 0, by omega, rfl, rfl, .inl ⟨rfl, zero_succ hok'.out Hat.out⟩, hbl.trans (hS.mono hbl.size)⟩
                case measure => simp [intOf]; omega
              | succ k =>
                have Hat := Lib.hid (votAt_next hlt hin)
                obtain ⟨b1, o1, e1, hcell'⟩ := Hvel.out k (by omega)
                injection e1 with e1
                injection e1 with e1 e2 e3
                subst e1 e2
                have hc2 := vle_below hbl _ _ (vle_below hbl1 _ _ hcell')
                clear hcell'
                generalize vs[k + 1] = x at hc1 hin Hat
                generalize vs[k] = y at hc2 Hat
                have q1 : IntKind.i64.wrap (((k + 1 : Nat) : Int) - 1) = (k : Nat) := by rw [IntKind.wrap_i64]; omega
                have q2 : (0 : Int) < ((k + 1 : Nat) : Int) := by omega
                obtain ⟨k1, hk1⟩ : ∃ k1, Hid (k + 1 = k1) := ⟨_, rfl⟩
                have hk1' := hk1.out
                rw [hk1.out] at hc1 hlt hk q1 q2 ⊢
                have q3 : 0 < k1 := by omega
                have q4 : k < vs.length := by omega
                have q5 : (k : Int) < vs.length := by omega
                by_cases hxy : x ≤ y
                · have Hat' : Hid (votAt vs (k + 1) = 9) := Hat.out.trans (if_pos hxy)
                  clear Hat
                  go_wp2_with (first | (go_at_call 101; refine (in_any _ _ _ _).mono ?_; rintro e w' ⟨rfl, rfl⟩) | fail)
                  refine wp_region_pl (fun w' => Below wr.heap.size wr w') [] (.q 0 (.q 1 (.q 2 (.q 3 (.q 4 (.q 5 (.q 6 (.q 7 (.q 8 (.q 9 (.q 10 (.q 11 (.q 12 (.q 13 (.q 14 (.q 15 .nil)))))))))))))))) (by kernel_rfl) (by kernel_rfl) (fun _ _ d _ _ h => by cases d <;> exact h) rfl (by kernel_rfl) ?_ ?_
                  · exact below_drew _
                  intro W1 hS
                  repeat (first
                    | (refine pl_q (by assumption) rfl rfl ?_; apply Exists.intro; refine ⟨fun w' hS => ?_, ?_⟩; (· (have h1 := vle_below hS _ _ c4; have h2 := vle_below hS _ _ hc1; have h3 := vle_below hS _ _ hc2; go_simp; exact rfl)); simp only [List.getElem_toArray, List.getElem_cons_zero, List.getElem_cons_succ, Act.put, List.setIfInBounds_toArray, List.set_cons_zero, List.set_cons_succ])
                    | (refine pl_qc rfl rfl ?_; apply Exists.intro; refine ⟨fun w' _ => ?_, ?_⟩; (· (go_simp; exact rfl)); simp only [List.getElem_toArray, List.getElem_cons_zero, List.getElem_cons_succ, Act.put, List.setIfInBounds_toArray, List.set_cons_zero, List.set_cons_succ])
                    | (refine pl_skip (by assumption) rfl rfl ?_; simp only [List.getElem_toArray, List.getElem_cons_zero, List.getElem_cons_succ, Act.put, List.setIfInBounds_toArray, List.set_cons_zero, List.set_cons_succ])
                    | (refine pl_skipl (by assumption) rfl rfl ?_; simp only [List.getElem_toArray, List.getElem_cons_zero, List.getElem_cons_succ, Act.put, List.setIfInBounds_toArray, List.set_cons_zero, List.set_cons_succ]))
                  refine pl_nil ?_
                  go_wp2
                  go_roundw
                  case rel => exact ⟨k1 + 1, 9, by omega, rfl, by go_num, .inr ⟨by decide, hV.out.symm.trans (firstF_found hlt (hk1.out ▸ hok'.out) (hk1.out ▸ Hat'.out) (by decide))⟩, hbl.trans (hS.mono hbl.size)⟩
                  case measure => simp [intOf]; omega
                · have Hat' : Hid (votAt vs (k + 1) = 0) := Hat.out.trans (if_neg hxy)
                  clear Hat
                  go_wp2_with (first | (go_at_call 101; refine (in_any _ _ _ _).mono ?_; rintro e w' ⟨rfl, rfl⟩) | fail)
                  refine wp_region_pl (fun w' => Below wr.heap.size wr w') [] (.q 0 (.q 1 (.q 2 (.q 3 (.q 4 (.q 5 (.q 6 (.q 7 (.q 8 (.q 9 (.q 10 (.q 11 (.q 12 (.q 13 (.q 14 (.q 15 .nil)))))))))))))))) (by kernel_rfl) (by kernel_rfl) (fun _ _ d _ _ h => by cases d <;> exact h) rfl (by kernel_rfl) ?_ ?_
                  · exact below_drew _
                  intro W1 hS
                  repeat (first
                    | (refine pl_q (by assumption) rfl rfl ?_; apply Exists.intro; refine ⟨fun w' hS => ?_, ?_⟩; (· (have h1 := vle_below hS _ _ c4; have h2 := vle_below hS _ _ hc1; have h3 := vle_below hS _ _ hc2; go_simp; exact rfl)); simp only [List.getElem_toArray, List.getElem_cons_zero, List.getElem_cons_succ, Act.put, List.setIfInBounds_toArray, List.set_cons_zero, List.set_cons_succ])
                    | (refine pl_qc rfl rfl ?_; apply Exists.intro; refine ⟨fun w' _ => ?_, ?_⟩; (· (go_simp; exact rfl)); simp only [List.getElem_toArray, List.getElem_cons_zero, List.getElem_cons_succ, Act.put, List.setIfInBounds_toArray, List.set_cons_zero, List.set_cons_succ])
                    | (refine pl_skip (by assumption) rfl rfl ?_; simp only [List.getElem_toArray, List.getElem_cons_zero, List.getElem_cons_succ, Act.put, List.setIfInBounds_toArray, List.set_cons_zero, List.set_cons_succ])
                    | (refine pl_skipl (by assumption) rfl rfl ?_; simp only [List.getElem_toArray, List.getElem_cons_zero, List.getElem_cons_succ, Act.put, List.setIfInBounds_toArray, List.set_cons_zero, List.set_cons_succ]))
                  refine pl_nil ?_
                  go_wp2
                  go_roundw
                  case rel => exact ⟨k1 + 1, 0, by omega, rfl, by go_num, .inl ⟨rfl, hk1.out ▸ zero_succ (hk1.out ▸ hok'.out) Hat'.out⟩, hbl.trans (hS.mono hbl.size)⟩
                  case measure => simp [intOf]; omega
          · have HQ' : Hid (Q = if vs.length < 3 then 10 else 0) := by
              show _ = _
              rw [HQ.out, if_neg (by rw [← hV.out, firstF_none fun j hj => hok'.out j (by omega)]; decide)]
            clear HQ hok'
            by_cases h3 : vs.length < 3
            · have HQ : Hid (Q = 10) := HQ'.out.trans (if_pos h3)
              clear HQ'
              go_wp2
              go_ret
              exact ⟨ret_int HQ.out.symm, hbl1.trans (hbl.mono hbl1.size)⟩
            · have HQ : Hid (Q = 0) := HQ'.out.trans (if_neg h3)
              clear HQ'
              go_wp2
              go_ret
              exact ⟨ret_int HQ.out.symm, hbl1.trans (hbl.mono hbl1.size)⟩
        · have HQ' : Hid (Q = E1) := by
            show _ = _
            rcases hok.out with h | h
            · exact absurd h.1 hE1
            · rw [HQ.out, h.2, if_pos hE1]
          clear HQ hok
          go_wp2
          all_goals
            go_ret
            exact ⟨ret_int HQ'.out.symm, hbl1.trans (hbl.mono hbl1.size)⟩
  · have HQ : Hid (Q = E) := by show _ = _; rw [hq.out, if_pos hE0]
    clear hq
    go_wp2
    go_loopw [3, 4] (fun e i wr => e = .int .i64 E ∧ i = .int .i64 0 ∧ Below w1.heap.size w1 wr) (fun _ _ _ => 0)
    case atStart => exact ⟨rfl, rfl, Below.refl _ _⟩
    case round =>
      obtain ⟨rfl, rfl, hbl⟩ := hrel
      have c4 := vle_below hbl _ _ c4
      go_wp2
      all_goals
        go_ret
        exact ⟨ret_int HQ.out.symm, hbl1.trans (hbl.mono hbl1.size)⟩
set_option maxHeartbeats 2000000 in
set_option maxRecDepth 100000 in
theorem checkCert_any (a r : Int) (vb vp vv : Value) (b p : List (List UInt8)) (vs : List Int) (w : World) (hb : RDigs w.cell? vb b) (hp : RDigs w.cell? vp p) (hv : RIs w.cell? vv vs) :
    Calls Tryz.prog 86 #[.agg #[.int .i64 a, .int .i64 r, vb, vp, vv]] w fun e w' => e = .returned (.int .i64 (certF a r b p vs)) ∧ Below w.heap.size w w' := by
  obtain ⟨vA, vc, rfl, _⟩ := id hv
  obtain ⟨_, hvcap, hvlen, hvel⟩ := hv.at
  have Hvel := Lib.hid hvel
  clear hvel hv
  obtain ⟨E, hE⟩ : ∃ E, Hid (headF a r b p = E) := ⟨_, rfl⟩
  obtain ⟨Q, hQ⟩ : ∃ Q, Hid (certF a r b p vs = Q) := ⟨_, rfl⟩
  obtain ⟨V, hV⟩ : ∃ V, Hid (firstF (votAt vs) vs.length = V) := ⟨_, rfl⟩
  have hq : Hid (Q = if E ≠ 0 then E else if 4 < vs.length then 1 else if V ≠ 0 then V else if vs.length < 3 then 10 else 0) := by show _ = _; rw [← hQ.out, ← hE.out, ← hV.out]; rfl
  rw [hQ.out]
  go_enter Tryz.func86, Tryz.ntmps86
  go_wp2_with fail
  refine one_block _ _ _ (fun W => Calls Tryz.prog _ _ W _) (fun W hk1 hsz hbl => ?_)
  refine (checkHeader_any a r vb vp b p _ (hb.mono RDig.mono (vle_below hbl)) (hp.mono RDig.mono (vle_below hbl))).mono ?_
  rintro e w1 ⟨rfl, hb1⟩
  rw [hE.out]
  have hbl1 := hbl.trans (hb1.mono hbl.size)
  have hk2 := hk1.kept hb1
  clear hbl hb1 hk1
  have c4 := hk2.cell 4
  simp at c4
  by_cases hE0 : E = 0
  · subst hE0
    by_cases h4 : 4 < vs.length
    · have HQ : Hid (Q = 1) := by show _ = _; rw [hq.out, if_neg (by omega), if_pos h4]
      clear hq
      go_wp2
      go_ret
      exact ⟨ret_int HQ.out.symm, hbl1⟩
    · have HQ : Hid (Q = if V ≠ 0 then V else if vs.length < 3 then 10 else 0) := by show _ = _; rw [hq.out, if_neg (by omega), if_neg h4]
      clear hq
      go_wp2
      go_loopw [19] (fun i wr => ∃ k : Nat, k ≤ vs.length ∧ i = .int .i64 k ∧ Hid (∀ j, j < k → votAt vs j = 0) ∧ Below w1.heap.size w1 wr) (fun i _ => vs.length - (intOf i).toNat)
      case atStart => exact ⟨0, Nat.zero_le _, rfl, fun j hj => by omega, Below.refl _ _⟩
      case round =>
        obtain ⟨k, hk, rfl, hok, hbl⟩ := hrel
        have c4 := vle_below hbl _ _ c4
        by_cases hlt : k < vs.length
        · obtain ⟨b0, o0, rfl, hcell'⟩ := Hvel.out k hlt
          have hc1 := vle_below hbl _ _ (vle_below hbl1 _ _ hcell')
          clear hcell'
          cases hin : inB vs[k] 0 3
          · have HQ' : Hid (Q = 2) := by
              show _ = _
              have := hV.out.symm.trans (firstF_found hlt hok.out (votAt_range hlt hin) (by decide))
              rw [HQ.out, this]; rfl
            clear HQ
            go_wp2_with (first | (go_at_call 92; refine (node_any _ _).mono ?_; rintro e w' ⟨rfl, rfl⟩) | fail)
            go_ret
            exact ⟨ret_int HQ'.out.symm, hbl1.trans (hbl.mono hbl1.size)⟩
          · cases k with
            | zero =>
              have Hat := Lib.hid (votAt_first hlt hin)
              rw [Nat.add_zero] at hc1
              generalize vs[0] = x at hc1 hin
              go_wp2_with (first | (go_at_call 92; refine (node_any _ _).mono ?_; rintro e w' ⟨rfl, rfl⟩) | fail)
              go_roundw
              case rel => exact ⟨1, by omega, rfl, zero_succ hok.out Hat.out, hbl⟩
              case measure => simp [intOf]; omega
            | succ k =>
              have Hat := Lib.hid (votAt_next hlt hin)
              obtain ⟨b1, o1, e1, hcell'⟩ := Hvel.out k (by omega)
              injection e1 with e1
              injection e1 with e1 e2 e3
              subst e1 e2
              have hc2 := vle_below hbl _ _ (vle_below hbl1 _ _ hcell')
              clear hcell'
              generalize vs[k + 1] = x at hc1 hin Hat
              generalize vs[k] = y at hc2 Hat
              have q1 : IntKind.i64.wrap (((k + 1 : Nat) : Int) - 1) = (k : Nat) := by rw [IntKind.wrap_i64]; omega
              have q2 : (0 : Int) < ((k + 1 : Nat) : Int) := by omega
              obtain ⟨k1, hk1⟩ : ∃ k1, Hid (k + 1 = k1) := ⟨_, rfl⟩
              have hk1' := hk1.out
              rw [hk1.out] at hc1 hlt hk q1 q2 ⊢
              have q3 : 0 < k1 := by omega
              have q4 : k < vs.length := by omega
              have q5 : (k : Int) < vs.length := by omega
              by_cases hxy : x ≤ y
              · have HQ' : Hid (Q = 9) := by
                  show _ = _
                  have := hV.out.symm.trans (firstF_found hlt (hk1.out ▸ hok.out) (hk1.out ▸ Hat.out.trans (if_pos hxy)) (by decide))
                  rw [HQ.out, this]; rfl
                clear HQ Hat
                go_wp2_with (first | (go_at_call 92; refine (node_any _ _).mono ?_; rintro e w' ⟨rfl, rfl⟩) | fail)
                go_ret
                exact ⟨ret_int HQ'.out.symm, hbl1.trans (hbl.mono hbl1.size)⟩
              · have Hat' : Hid (votAt vs (k + 1) = 0) := Hat.out.trans (if_neg hxy)
                clear Hat
                go_wp2_with (first | (go_at_call 92; refine (node_any _ _).mono ?_; rintro e w' ⟨rfl, rfl⟩) | fail)
                go_roundw
                case rel => exact ⟨k1 + 1, by omega, by go_num, hk1.out ▸ zero_succ (hk1.out ▸ hok.out) Hat'.out, hbl⟩
                case measure => simp [intOf]; omega
        · have HQ' : Hid (Q = if vs.length < 3 then 10 else 0) := by
            show _ = _
            rw [HQ.out, if_neg (by rw [← hV.out, firstF_none fun j hj => hok.out j (by omega)]; decide)]
          clear HQ
          by_cases h3 : vs.length < 3
          · have HQ : Hid (Q = 10) := HQ'.out.trans (if_pos h3)
            clear HQ'
            go_wp2
            go_ret
            exact ⟨ret_int HQ.out.symm, hbl1.trans (hbl.mono hbl1.size)⟩
          · have HQ : Hid (Q = 0) := HQ'.out.trans (if_neg h3)
            clear HQ'
            go_wp2
            go_ret
            exact ⟨ret_int HQ.out.symm, hbl1.trans (hbl.mono hbl1.size)⟩
  · have HQ : Hid (Q = E) := by show _ = _; rw [hq.out, if_pos hE0]
    clear hq
    go_wp2
    go_ret
    exact ⟨ret_int HQ.out.symm, hbl1⟩
end Go.Proofs.YtbcoecmeoemmeaaGreatDoor
