/- The reference's actLine. -/
import Derived.Test.YtbcoecmeoemmeaaDoorLn6
namespace Go.Proofs.YtbcoecmeoemmeaaDoor
open Go.ChangeShapes Go.WideShapes Go.ChangeAt Go.RowKit
set_option linter.unusedVariables false
set_option linter.unusedSimpArgs false
namespace Ln
theorem ret_str {a b : ByteArray} (h : a = b) : Ending.returned (.string a) = .returned (.string b) := by rw [h]
theorem RVec.two {h : View} {g : Nat} (x y : UInt8) (h0 : h ⟨g, 0, none⟩ = some (.int .u8 x.toNat)) (h1 : h ⟨g, 1, none⟩ = some (.int .u8 y.toNat)) : RBytes h (.slice (some ⟨g, 0, none⟩) 2 2) [x, y] :=
  ⟨_, 2, rfl, Nat.le_refl _, by decide, by simp, (fun h => by cases h), fun _ => ⟨g, 0, rfl, fun i hi => by
    have : i = 0 ∨ i = 1 := by simp at hi; omega
    rcases this with rfl | rfl
    · exact h0
    · exact h1⟩⟩
theorem one_mkS (b : UInt8) : ({ data := #[b] } : ByteArray) = mkS [b] := rfl
set_option maxHeartbeats 8000000 in
set_option maxRecDepth 100000 in
theorem actLine_any (kk : Nat) (an ap : Int) (atx : ByteArray) (hE : actE ⟨kk, an, ap, atx⟩ = 0) (w : World) :
    Calls Tryd.prog 18 #[.agg #[.int .i64 kk, .int .i64 an, .int .i64 ap, .string atx]] w fun e w' => e = .returned (.string (mkS (lineL ⟨kk, an, ap, atx⟩))) ∧ Below w.heap.size w w' := by
  obtain ⟨m1, m2, m3, m4, m5⟩ := act_fine hE
  simp only at m1 m2 m3 m4 m5
  clear hE
  obtain ⟨LL, hLL⟩ : ∃ LL, Hid (lineL ⟨kk, an, ap, atx⟩ = LL) := ⟨_, rfl⟩
  rw [hLL.out]
  cases n1 : hN kk <;> cases n2 : hP kk <;> cases n3 : hT kk
  all_goals
    (try have q1 := m3 n1)
    (try have q2 := m4 n2)
    (try have q3 := m5 n3)
    clear m3 m4 m5
    go_enter Tryd.func18, Tryd.ntmps18
    go_upto_region 1 with fail
    refine one_block _ _ _ (fun W => Code.wp _ _ _ _ W) (fun W hk hsz hbl0 => ?_)
    have hbl := Below.refl W.heap.size W
    have k0 := hk.cell 0; have k1 := hk.cell 1; have k2 := hk.cell 2; have k3 := hk.cell 3
    simp at k0 k1 k2 k3
    go_wp2_with fail
    refine (actWord_any kk (by omega) (by omega) _).mono ?_
    rintro e w1 ⟨rfl, hb1⟩
    obtain ⟨s0, hs0⟩ : ∃ s, Hid (s = mkS (wordL kk)) := ⟨_, Lib.hid rfl⟩
    rw [← hs0.out]
    have hz0 : s0.size ≤ 6 := by rw [hs0.out, mkS_size]; exact wordL_len kk
    replace hbl := hbl.trans (hb1.mono hbl.size)
    replace hk := hk.kept hb1
    clear k0 k1 k2 k3
    have k0 := hk.cell 0; have k1 := hk.cell 1; have k2 := hk.cell 2; have k3 := hk.cell 3
    simp at k0 k1 k2 k3
  · go_wp2_with fail
    refine (hasNode_any _ _).mono ?_
    rintro e w9 ⟨rfl, rfl⟩
    go_wp2_with fail
    refine (hasPick_any _ _).mono ?_
    rintro e w9 ⟨rfl, rfl⟩
    go_wp2_with fail
    refine (hasText_any _ _).mono ?_
    rintro e w9 ⟨rfl, rfl⟩
    go_wp2
    go_ret
    refine ⟨ret_str ?_, hbl0.trans (hbl.mono hbl0.size)⟩
    rw [← hLL.out]
    unfold lineL
    simp only [n1, n2, n3, if_true, if_false, Bool.false_eq_true, Int.toNat_natCast]
    simp only [hs0.out, one_mkS, mkS_append, List.append_assoc, List.nil_append, List.singleton_append, List.cons_append]
  · go_wp2_with fail
    refine (hasNode_any _ _).mono ?_
    rintro e w9 ⟨rfl, rfl⟩
    go_wp2_with fail
    refine (hasPick_any _ _).mono ?_
    rintro e w9 ⟨rfl, rfl⟩
    go_wp2_with fail
    refine (hasText_any _ _).mono ?_
    rintro e w9 ⟨rfl, rfl⟩
    obtain ⟨wd, hwd⟩ : ∃ wd : World, wd = w1 := ⟨_, rfl⟩
    subst hwd
    have hbs := hbl.size
    go_wp2
    go_loopw [4, 5] (fun v i wr => ∃ k : Nat, k ≤ atx.size ∧ i = .int .i64 k ∧ OwnB wr W.heap.size v (hexL (atx.data.toList.take k)) ∧ Below W.heap.size wd wr) (fun _ i _ => atx.size - (intOf i).toNat)
    case atStart => exact ⟨0, Nat.zero_le _, rfl, OwnVec.nil _ _ _ _, Below.refl _ _⟩
    case round =>
      obtain ⟨k, hkk, rfl, ho, hbr⟩ := hrel
      have hkr := hk.below hbr (by omega)
      have k3r := hkr.cell 3
      simp at k3r
      have hL := hexL_len (atx.data.toList.take k)
      have hl2 : (atx.data.toList.take k).length ≤ k := List.length_take_le _ _
      obtain ⟨L, hLq⟩ : ∃ L, Hid (hexL (atx.data.toList.take k) = L) := ⟨_, rfl⟩
      rw [hLq.out] at ho hL
      have hL2 : L.length ≤ 8000 := by omega
      clear hL hl2
      by_cases hlt : k < atx.size
      · have hge := hexL_get atx.data.toList k (by rw [Array.length_toList]; exact hlt)
        obtain ⟨cb, hcb⟩ : ∃ cb : UInt8, atx[k] = cb := ⟨_, rfl⟩
        have hcb2 : atx.data.toList[k]'(by rw [Array.length_toList]; exact hlt) = cb := hcb
        rw [hcb2, hLq.out] at hge
        have Hge := Lib.hid hge
        have hc := UInt8.toNat_lt cb
        have e0 : IntKind.i64.wrap (cb.toNat : Int) = (cb.toNat : Int) := by rw [IntKind.wrap_i64]; omega
        have e6 : IntKind.i64.wrap ((cb.toNat % 16 : Nat) : Int) = ((cb.toNat % 16 : Nat) : Int) := by rw [IntKind.wrap_i64]; omega
        have e1 : (cb.toNat : Int).tdiv 16 = ((cb.toNat / 16 : Nat) : Int) := (Int.ofNat_tdiv _ 16).symm
        have e2 : (cb.toNat : Int).tmod 16 = ((cb.toNat % 16 : Nat) : Int) := (Int.ofNat_tmod _ 16).symm
        have f1 : cb.toNat / 16 < 16 := by omega
        have f2 : cb.toNat % 16 < 16 := by omega
        obtain ⟨m, hm⟩ : ∃ m, Hid (cb.toNat / 16 = m) := ⟨_, rfl⟩
        obtain ⟨q, hq⟩ : ∃ q, Hid (cb.toNat % 16 = q) := ⟨_, rfl⟩
        rw [hm.out] at e1 f1 Hge
        rw [hq.out] at e2 f2 Hge e6
        have e5 : IntKind.i64.wrap (m : Int) = (m : Int) := by rw [IntKind.wrap_i64]; omega
        clear hge hcb2 hLq
        go_wp2_with fail
        have hob : some w.heap.size ≠ u4.ownBlock := fun e => by have := (ho.own.lt _ e.symm).1; omega
        obtain ⟨ob, hobq⟩ : ∃ ob, Hid (u4.ownBlock = ob) := ⟨_, rfl⟩
        rw [hobq.out] at hob
        refine wp_region_pl0 (fun w' => Below wr.heap.size wr w') (fun w' => wr.grownBy w' ob) [17] (.q 0 (.q 1 (.q 2 (.q 3 (.q 4 (.q 5 (.q 6 (.q 8 (.q 9 (.q 10 (.q 11 (.q 12 (.q 13 (.l 7 (.l 14 (.l 15 (.l 16 (.qc 17 .nil)))))))))))))))))) (by kernel_rfl) (by kernel_rfl) (fun _ _ d _ _ h => by cases d <;> exact h) rfl (by kernel_rfl) ?_ ?_
        · exact ⟨below_drew _, grownBy_drew _ _⟩
        intro W1 hS0 hS1
        have hS := hS1
        repeat (first
          | (refine pl_q (by assumption) rfl rfl ?_; apply Exists.intro; refine ⟨fun w' hS => ?_, ?_⟩; (· (have hq := hkr.grown hS hob; have h3 := hq.cell 3; simp at h3; go_simp; exact rfl)); simp only [List.getElem_toArray, List.getElem_cons_zero, List.getElem_cons_succ, Act.put, List.setIfInBounds_toArray, List.set_cons_zero, List.set_cons_succ])
          | (refine pl_qc rfl rfl ?_; apply Exists.intro; refine ⟨fun w' _ => ?_, ?_⟩; (· (go_simp; exact rfl)); simp only [List.getElem_toArray, List.getElem_cons_zero, List.getElem_cons_succ, Act.put, List.setIfInBounds_toArray, List.set_cons_zero, List.set_cons_succ])
          | (refine pl_skip (by assumption) rfl rfl ?_; simp only [List.getElem_toArray, List.getElem_cons_zero, List.getElem_cons_succ, Act.put, List.setIfInBounds_toArray, List.set_cons_zero, List.set_cons_succ])
          | (refine pl_skipl (by assumption) rfl rfl ?_; simp only [List.getElem_toArray, List.getElem_cons_zero, List.getElem_cons_succ, Act.put, List.setIfInBounds_toArray, List.set_cons_zero, List.set_cons_succ]))
        first
          | refine pl_do rfl rfl (fun K hK => ?_)
          | refine op_do rfl rfl (fun K hK => ?_)
        try simp only [List.getElem_toArray, List.getElem_cons_zero, List.getElem_cons_succ]
        go_simp
        ((with_reducible refine (hexDigit_any m _ rfl f1 _).mono ?_))
        rintro e w3 ⟨rfl, rfl⟩
        refine hK.out _ _ (hS1) (fun hS => ?_)
        clear hK K
        try simp only [List.getElem_toArray, List.getElem_cons_zero, List.getElem_cons_succ, Act.put, List.setIfInBounds_toArray, List.set_cons_zero, List.set_cons_succ]
        first
          | refine pl_do rfl rfl (fun K hK => ?_)
          | refine op_do rfl rfl (fun K hK => ?_)
        try simp only [List.getElem_toArray, List.getElem_cons_zero, List.getElem_cons_succ]
        go_simp
        ((with_reducible refine (hexDigit_any q _ rfl f2 _).mono ?_))
        rintro e w3 ⟨rfl, rfl⟩
        refine hK.out _ _ (hS1) (fun hS => ?_)
        clear hK K
        try simp only [List.getElem_toArray, List.getElem_cons_zero, List.getElem_cons_succ, Act.put, List.setIfInBounds_toArray, List.set_cons_zero, List.set_cons_succ]
        first
          | refine pl_do rfl rfl (fun K hK => ?_)
          | refine op_do rfl rfl (fun K hK => ?_)
        try simp only [List.getElem_toArray, List.getElem_cons_zero, List.getElem_cons_succ]
        go_simp
        have hb4 := below_one W1 (.cells #[.int .u8 (hexd m).toNat, .int .u8 (hexd q).toNat] 5)
        have hn4 := Blk.new W1 5 #[.int .u8 (hexd m).toNat, .int .u8 (hexd q).toNat]
        have hS4 := grownBy_trans hS1 (grownBy_below ob hb4)
        have ho4 := (ho.kept hS0).kept hb4
        have hz4 := hS0.size
        refine hK.out _ _ (hS4) (fun hS => ?_)
        clear hK K
        try simp only [List.getElem_toArray, List.getElem_cons_zero, List.getElem_cons_succ, Act.put, List.setIfInBounds_toArray, List.set_cons_zero, List.set_cons_succ]
        first
          | refine pl_do rfl rfl (fun K hK => ?_)
          | refine op_do rfl rfl (fun K hK => ?_)
        try simp only [List.getElem_toArray, List.getElem_cons_zero, List.getElem_cons_succ]
        refine wp_append_at (n := 140737488355328) (ys := [hexd m, hexd q]) elemByte encB_one _ _ rfl rfl ho4 (by simp; have := hbr.size; omega) rfl (RVec.two _ _ (hn4.cell 0) (hn4.cell 1)) (by decide) (by simp; omega) (by simp; omega) (fun v6 w6 ho6 hg6 _ => ?_)
        replace hg6 : (W1.alloc (.cells #[.int .u8 (hexd m).toNat, .int .u8 (hexd q).toNat] 5)).grownBy w6 ob := by rw [← hobq.out]; exact hg6
        have hbl6 := hbr.trans ((Below.refl W.heap.size wr))
        have hg7 := grownBy_trans hS4 hg6
        have hbr6 : Below W.heap.size wd w6 := below_grownBy hbr (by have := hbr.size; omega) hg7 (fun j hj => by rw [← hobq.out] at hj; exact (ho.own.lt j hj).1)
        rw [← Hge.out] at ho6
        refine hK.out _ _ (hg7) (fun hS => ?_)
        clear hK K
        try simp only [List.getElem_toArray, List.getElem_cons_zero, List.getElem_cons_succ, Act.put, List.setIfInBounds_toArray, List.set_cons_zero, List.set_cons_succ]
        repeat (first
          | (refine pl_q (by assumption) rfl rfl ?_; apply Exists.intro; refine ⟨fun w' hS => ?_, ?_⟩; (· (skip; go_simp; exact rfl)); simp only [List.getElem_toArray, List.getElem_cons_zero, List.getElem_cons_succ, Act.put, List.setIfInBounds_toArray, List.set_cons_zero, List.set_cons_succ])
          | (refine pl_qc rfl rfl ?_; apply Exists.intro; refine ⟨fun w' _ => ?_, ?_⟩; (· (go_simp; exact rfl)); simp only [List.getElem_toArray, List.getElem_cons_zero, List.getElem_cons_succ, Act.put, List.setIfInBounds_toArray, List.set_cons_zero, List.set_cons_succ])
          | (refine pl_skip (by assumption) rfl rfl ?_; simp only [List.getElem_toArray, List.getElem_cons_zero, List.getElem_cons_succ, Act.put, List.setIfInBounds_toArray, List.set_cons_zero, List.set_cons_succ])
          | (refine pl_skipl (by assumption) rfl rfl ?_; simp only [List.getElem_toArray, List.getElem_cons_zero, List.getElem_cons_succ, Act.put, List.setIfInBounds_toArray, List.set_cons_zero, List.set_cons_succ]))
        clear ho ho4 hg6 hg7 hS hS1 hS0 hS4 hn4 hb4
        refine pl_nil ?_
        go_wp2_with fail
        go_roundw
        case rel => exact ⟨k + 1, by omega, by go_num, ho6, hbr6⟩
        case measure => simp [intOf]; omega
      · have hke : k = atx.size := by omega
        have hfin : hexL atx.data.toList = L := by rw [← hLq.out, hke, List.take_of_length_le (by rw [Array.length_toList]; exact Nat.le_refl _)]
        have ga := run_toStr (ho.reads (bs := 1) (by omega))
        rw [mkS_bstr] at ga
        obtain ⟨U, hU⟩ : ∃ U, Hid (mkS L = U) := ⟨_, rfl⟩
        rw [hU.out] at ga
        have hUs : U.size ≤ 8000 := by rw [← hU.out, mkS_size]; exact hL2
        have Hfin : Hid (U = mkS (hexL atx.data.toList)) := by show _ = _; rw [hfin, hU.out]
        clear hfin ho hLq hU
        go_wp2
        go_ret
        refine ⟨ret_str ?_, hbl0.trans ((hbl.trans hbr).mono hbl0.size)⟩
        rw [Hfin.out]
        rw [← hLL.out]
        unfold lineL
        simp only [n1, n2, n3, if_true, if_false, Bool.false_eq_true, Int.toNat_natCast]
        simp only [hs0.out, one_mkS, mkS_append, List.append_assoc, List.nil_append, List.singleton_append, List.cons_append]
  · go_wp2_with fail
    refine (hasNode_any _ _).mono ?_
    rintro e w9 ⟨rfl, rfl⟩
    go_wp2_with fail
    refine (hasPick_any _ _).mono ?_
    rintro e w9 ⟨rfl, rfl⟩
    go_wp2_with fail
    refine (dec_any ap (by omega) (by omega) _).mono ?_
    rintro e w2 ⟨sb, rfl, hsb, hzsb, hb2⟩
    replace hbl := hbl.trans (hb2.mono hbl.size)
    replace hk := hk.kept hb2
    clear k0 k1 k2 k3
    have k0 := hk.cell 0; have k1 := hk.cell 1; have k2 := hk.cell 2; have k3 := hk.cell 3
    simp at k0 k1 k2 k3
    go_wp2_with fail
    refine (hasText_any _ _).mono ?_
    rintro e w9 ⟨rfl, rfl⟩
    go_wp2
    go_ret
    refine ⟨ret_str ?_, hbl0.trans (hbl.mono hbl0.size)⟩
    rw [← hLL.out]
    unfold lineL
    simp only [n1, n2, n3, if_true, if_false, Bool.false_eq_true, Int.toNat_natCast]
    simp only [hs0.out, hsb.out, one_mkS, mkS_append, List.append_assoc, List.nil_append, List.singleton_append, List.cons_append]
  · go_wp2_with fail
    refine (hasNode_any _ _).mono ?_
    rintro e w9 ⟨rfl, rfl⟩
    go_wp2_with fail
    refine (hasPick_any _ _).mono ?_
    rintro e w9 ⟨rfl, rfl⟩
    go_wp2_with fail
    refine (dec_any ap (by omega) (by omega) _).mono ?_
    rintro e w2 ⟨sb, rfl, hsb, hzsb, hb2⟩
    replace hbl := hbl.trans (hb2.mono hbl.size)
    replace hk := hk.kept hb2
    clear k0 k1 k2 k3
    have k0 := hk.cell 0; have k1 := hk.cell 1; have k2 := hk.cell 2; have k3 := hk.cell 3
    simp at k0 k1 k2 k3
    go_wp2_with fail
    refine (hasText_any _ _).mono ?_
    rintro e w9 ⟨rfl, rfl⟩
    obtain ⟨wd, hwd⟩ : ∃ wd : World, wd = w2 := ⟨_, rfl⟩
    subst hwd
    have hbs := hbl.size
    go_wp2
    go_loopw [4, 5] (fun v i wr => ∃ k : Nat, k ≤ atx.size ∧ i = .int .i64 k ∧ OwnB wr W.heap.size v (hexL (atx.data.toList.take k)) ∧ Below W.heap.size wd wr) (fun _ i _ => atx.size - (intOf i).toNat)
    case atStart => exact ⟨0, Nat.zero_le _, rfl, OwnVec.nil _ _ _ _, Below.refl _ _⟩
    case round =>
      obtain ⟨k, hkk, rfl, ho, hbr⟩ := hrel
      have hkr := hk.below hbr (by omega)
      have k3r := hkr.cell 3
      simp at k3r
      have hL := hexL_len (atx.data.toList.take k)
      have hl2 : (atx.data.toList.take k).length ≤ k := List.length_take_le _ _
      obtain ⟨L, hLq⟩ : ∃ L, Hid (hexL (atx.data.toList.take k) = L) := ⟨_, rfl⟩
      rw [hLq.out] at ho hL
      have hL2 : L.length ≤ 8000 := by omega
      clear hL hl2
      by_cases hlt : k < atx.size
      · have hge := hexL_get atx.data.toList k (by rw [Array.length_toList]; exact hlt)
        obtain ⟨cb, hcb⟩ : ∃ cb : UInt8, atx[k] = cb := ⟨_, rfl⟩
        have hcb2 : atx.data.toList[k]'(by rw [Array.length_toList]; exact hlt) = cb := hcb
        rw [hcb2, hLq.out] at hge
        have Hge := Lib.hid hge
        have hc := UInt8.toNat_lt cb
        have e0 : IntKind.i64.wrap (cb.toNat : Int) = (cb.toNat : Int) := by rw [IntKind.wrap_i64]; omega
        have e6 : IntKind.i64.wrap ((cb.toNat % 16 : Nat) : Int) = ((cb.toNat % 16 : Nat) : Int) := by rw [IntKind.wrap_i64]; omega
        have e1 : (cb.toNat : Int).tdiv 16 = ((cb.toNat / 16 : Nat) : Int) := (Int.ofNat_tdiv _ 16).symm
        have e2 : (cb.toNat : Int).tmod 16 = ((cb.toNat % 16 : Nat) : Int) := (Int.ofNat_tmod _ 16).symm
        have f1 : cb.toNat / 16 < 16 := by omega
        have f2 : cb.toNat % 16 < 16 := by omega
        obtain ⟨m, hm⟩ : ∃ m, Hid (cb.toNat / 16 = m) := ⟨_, rfl⟩
        obtain ⟨q, hq⟩ : ∃ q, Hid (cb.toNat % 16 = q) := ⟨_, rfl⟩
        rw [hm.out] at e1 f1 Hge
        rw [hq.out] at e2 f2 Hge e6
        have e5 : IntKind.i64.wrap (m : Int) = (m : Int) := by rw [IntKind.wrap_i64]; omega
        clear hge hcb2 hLq
        go_wp2_with fail
        have hob : some w.heap.size ≠ u4.ownBlock := fun e => by have := (ho.own.lt _ e.symm).1; omega
        obtain ⟨ob, hobq⟩ : ∃ ob, Hid (u4.ownBlock = ob) := ⟨_, rfl⟩
        rw [hobq.out] at hob
        refine wp_region_pl0 (fun w' => Below wr.heap.size wr w') (fun w' => wr.grownBy w' ob) [17] (.q 0 (.q 1 (.q 2 (.q 3 (.q 4 (.q 5 (.q 6 (.q 8 (.q 9 (.q 10 (.q 11 (.q 12 (.q 13 (.l 7 (.l 14 (.l 15 (.l 16 (.qc 17 .nil)))))))))))))))))) (by kernel_rfl) (by kernel_rfl) (fun _ _ d _ _ h => by cases d <;> exact h) rfl (by kernel_rfl) ?_ ?_
        · exact ⟨below_drew _, grownBy_drew _ _⟩
        intro W1 hS0 hS1
        have hS := hS1
        repeat (first
          | (refine pl_q (by assumption) rfl rfl ?_; apply Exists.intro; refine ⟨fun w' hS => ?_, ?_⟩; (· (have hq := hkr.grown hS hob; have h3 := hq.cell 3; simp at h3; go_simp; exact rfl)); simp only [List.getElem_toArray, List.getElem_cons_zero, List.getElem_cons_succ, Act.put, List.setIfInBounds_toArray, List.set_cons_zero, List.set_cons_succ])
          | (refine pl_qc rfl rfl ?_; apply Exists.intro; refine ⟨fun w' _ => ?_, ?_⟩; (· (go_simp; exact rfl)); simp only [List.getElem_toArray, List.getElem_cons_zero, List.getElem_cons_succ, Act.put, List.setIfInBounds_toArray, List.set_cons_zero, List.set_cons_succ])
          | (refine pl_skip (by assumption) rfl rfl ?_; simp only [List.getElem_toArray, List.getElem_cons_zero, List.getElem_cons_succ, Act.put, List.setIfInBounds_toArray, List.set_cons_zero, List.set_cons_succ])
          | (refine pl_skipl (by assumption) rfl rfl ?_; simp only [List.getElem_toArray, List.getElem_cons_zero, List.getElem_cons_succ, Act.put, List.setIfInBounds_toArray, List.set_cons_zero, List.set_cons_succ]))
        first
          | refine pl_do rfl rfl (fun K hK => ?_)
          | refine op_do rfl rfl (fun K hK => ?_)
        try simp only [List.getElem_toArray, List.getElem_cons_zero, List.getElem_cons_succ]
        go_simp
        ((with_reducible refine (hexDigit_any m _ rfl f1 _).mono ?_))
        rintro e w3 ⟨rfl, rfl⟩
        refine hK.out _ _ (hS1) (fun hS => ?_)
        clear hK K
        try simp only [List.getElem_toArray, List.getElem_cons_zero, List.getElem_cons_succ, Act.put, List.setIfInBounds_toArray, List.set_cons_zero, List.set_cons_succ]
        first
          | refine pl_do rfl rfl (fun K hK => ?_)
          | refine op_do rfl rfl (fun K hK => ?_)
        try simp only [List.getElem_toArray, List.getElem_cons_zero, List.getElem_cons_succ]
        go_simp
        ((with_reducible refine (hexDigit_any q _ rfl f2 _).mono ?_))
        rintro e w3 ⟨rfl, rfl⟩
        refine hK.out _ _ (hS1) (fun hS => ?_)
        clear hK K
        try simp only [List.getElem_toArray, List.getElem_cons_zero, List.getElem_cons_succ, Act.put, List.setIfInBounds_toArray, List.set_cons_zero, List.set_cons_succ]
        first
          | refine pl_do rfl rfl (fun K hK => ?_)
          | refine op_do rfl rfl (fun K hK => ?_)
        try simp only [List.getElem_toArray, List.getElem_cons_zero, List.getElem_cons_succ]
        go_simp
        have hb4 := below_one W1 (.cells #[.int .u8 (hexd m).toNat, .int .u8 (hexd q).toNat] 5)
        have hn4 := Blk.new W1 5 #[.int .u8 (hexd m).toNat, .int .u8 (hexd q).toNat]
        have hS4 := grownBy_trans hS1 (grownBy_below ob hb4)
        have ho4 := (ho.kept hS0).kept hb4
        have hz4 := hS0.size
        refine hK.out _ _ (hS4) (fun hS => ?_)
        clear hK K
        try simp only [List.getElem_toArray, List.getElem_cons_zero, List.getElem_cons_succ, Act.put, List.setIfInBounds_toArray, List.set_cons_zero, List.set_cons_succ]
        first
          | refine pl_do rfl rfl (fun K hK => ?_)
          | refine op_do rfl rfl (fun K hK => ?_)
        try simp only [List.getElem_toArray, List.getElem_cons_zero, List.getElem_cons_succ]
        refine wp_append_at (n := 140737488355328) (ys := [hexd m, hexd q]) elemByte encB_one _ _ rfl rfl ho4 (by simp; have := hbr.size; omega) rfl (RVec.two _ _ (hn4.cell 0) (hn4.cell 1)) (by decide) (by simp; omega) (by simp; omega) (fun v6 w6 ho6 hg6 _ => ?_)
        replace hg6 : (W1.alloc (.cells #[.int .u8 (hexd m).toNat, .int .u8 (hexd q).toNat] 5)).grownBy w6 ob := by rw [← hobq.out]; exact hg6
        have hbl6 := hbr.trans ((Below.refl W.heap.size wr))
        have hg7 := grownBy_trans hS4 hg6
        have hbr6 : Below W.heap.size wd w6 := below_grownBy hbr (by have := hbr.size; omega) hg7 (fun j hj => by rw [← hobq.out] at hj; exact (ho.own.lt j hj).1)
        rw [← Hge.out] at ho6
        refine hK.out _ _ (hg7) (fun hS => ?_)
        clear hK K
        try simp only [List.getElem_toArray, List.getElem_cons_zero, List.getElem_cons_succ, Act.put, List.setIfInBounds_toArray, List.set_cons_zero, List.set_cons_succ]
        repeat (first
          | (refine pl_q (by assumption) rfl rfl ?_; apply Exists.intro; refine ⟨fun w' hS => ?_, ?_⟩; (· (skip; go_simp; exact rfl)); simp only [List.getElem_toArray, List.getElem_cons_zero, List.getElem_cons_succ, Act.put, List.setIfInBounds_toArray, List.set_cons_zero, List.set_cons_succ])
          | (refine pl_qc rfl rfl ?_; apply Exists.intro; refine ⟨fun w' _ => ?_, ?_⟩; (· (go_simp; exact rfl)); simp only [List.getElem_toArray, List.getElem_cons_zero, List.getElem_cons_succ, Act.put, List.setIfInBounds_toArray, List.set_cons_zero, List.set_cons_succ])
          | (refine pl_skip (by assumption) rfl rfl ?_; simp only [List.getElem_toArray, List.getElem_cons_zero, List.getElem_cons_succ, Act.put, List.setIfInBounds_toArray, List.set_cons_zero, List.set_cons_succ])
          | (refine pl_skipl (by assumption) rfl rfl ?_; simp only [List.getElem_toArray, List.getElem_cons_zero, List.getElem_cons_succ, Act.put, List.setIfInBounds_toArray, List.set_cons_zero, List.set_cons_succ]))
        clear ho ho4 hg6 hg7 hS hS1 hS0 hS4 hn4 hb4
        refine pl_nil ?_
        go_wp2_with fail
        go_roundw
        case rel => exact ⟨k + 1, by omega, by go_num, ho6, hbr6⟩
        case measure => simp [intOf]; omega
      · have hke : k = atx.size := by omega
        have hfin : hexL atx.data.toList = L := by rw [← hLq.out, hke, List.take_of_length_le (by rw [Array.length_toList]; exact Nat.le_refl _)]
        have ga := run_toStr (ho.reads (bs := 1) (by omega))
        rw [mkS_bstr] at ga
        obtain ⟨U, hU⟩ : ∃ U, Hid (mkS L = U) := ⟨_, rfl⟩
        rw [hU.out] at ga
        have hUs : U.size ≤ 8000 := by rw [← hU.out, mkS_size]; exact hL2
        have Hfin : Hid (U = mkS (hexL atx.data.toList)) := by show _ = _; rw [hfin, hU.out]
        clear hfin ho hLq hU
        go_wp2
        go_ret
        refine ⟨ret_str ?_, hbl0.trans ((hbl.trans hbr).mono hbl0.size)⟩
        rw [Hfin.out]
        rw [← hLL.out]
        unfold lineL
        simp only [n1, n2, n3, if_true, if_false, Bool.false_eq_true, Int.toNat_natCast]
        simp only [hs0.out, hsb.out, one_mkS, mkS_append, List.append_assoc, List.nil_append, List.singleton_append, List.cons_append]
  · go_wp2_with fail
    refine (hasNode_any _ _).mono ?_
    rintro e w9 ⟨rfl, rfl⟩
    go_wp2_with fail
    refine (dec_any an (by omega) (by omega) _).mono ?_
    rintro e w2 ⟨sa, rfl, hsa, hzsa, hb2⟩
    replace hbl := hbl.trans (hb2.mono hbl.size)
    replace hk := hk.kept hb2
    clear k0 k1 k2 k3
    have k0 := hk.cell 0; have k1 := hk.cell 1; have k2 := hk.cell 2; have k3 := hk.cell 3
    simp at k0 k1 k2 k3
    go_wp2_with fail
    refine (hasPick_any _ _).mono ?_
    rintro e w9 ⟨rfl, rfl⟩
    go_wp2_with fail
    refine (hasText_any _ _).mono ?_
    rintro e w9 ⟨rfl, rfl⟩
    go_wp2
    go_ret
    refine ⟨ret_str ?_, hbl0.trans (hbl.mono hbl0.size)⟩
    rw [← hLL.out]
    unfold lineL
    simp only [n1, n2, n3, if_true, if_false, Bool.false_eq_true, Int.toNat_natCast]
    simp only [hs0.out, hsa.out, one_mkS, mkS_append, List.append_assoc, List.nil_append, List.singleton_append, List.cons_append]
  · go_wp2_with fail
    refine (hasNode_any _ _).mono ?_
    rintro e w9 ⟨rfl, rfl⟩
    go_wp2_with fail
    refine (dec_any an (by omega) (by omega) _).mono ?_
    rintro e w2 ⟨sa, rfl, hsa, hzsa, hb2⟩
    replace hbl := hbl.trans (hb2.mono hbl.size)
    replace hk := hk.kept hb2
    clear k0 k1 k2 k3
    have k0 := hk.cell 0; have k1 := hk.cell 1; have k2 := hk.cell 2; have k3 := hk.cell 3
    simp at k0 k1 k2 k3
    go_wp2_with fail
    refine (hasPick_any _ _).mono ?_
    rintro e w9 ⟨rfl, rfl⟩
    go_wp2_with fail
    refine (hasText_any _ _).mono ?_
    rintro e w9 ⟨rfl, rfl⟩
    obtain ⟨wd, hwd⟩ : ∃ wd : World, wd = w2 := ⟨_, rfl⟩
    subst hwd
    have hbs := hbl.size
    go_wp2
    go_loopw [4, 5] (fun v i wr => ∃ k : Nat, k ≤ atx.size ∧ i = .int .i64 k ∧ OwnB wr W.heap.size v (hexL (atx.data.toList.take k)) ∧ Below W.heap.size wd wr) (fun _ i _ => atx.size - (intOf i).toNat)
    case atStart => exact ⟨0, Nat.zero_le _, rfl, OwnVec.nil _ _ _ _, Below.refl _ _⟩
    case round =>
      obtain ⟨k, hkk, rfl, ho, hbr⟩ := hrel
      have hkr := hk.below hbr (by omega)
      have k3r := hkr.cell 3
      simp at k3r
      have hL := hexL_len (atx.data.toList.take k)
      have hl2 : (atx.data.toList.take k).length ≤ k := List.length_take_le _ _
      obtain ⟨L, hLq⟩ : ∃ L, Hid (hexL (atx.data.toList.take k) = L) := ⟨_, rfl⟩
      rw [hLq.out] at ho hL
      have hL2 : L.length ≤ 8000 := by omega
      clear hL hl2
      by_cases hlt : k < atx.size
      · have hge := hexL_get atx.data.toList k (by rw [Array.length_toList]; exact hlt)
        obtain ⟨cb, hcb⟩ : ∃ cb : UInt8, atx[k] = cb := ⟨_, rfl⟩
        have hcb2 : atx.data.toList[k]'(by rw [Array.length_toList]; exact hlt) = cb := hcb
        rw [hcb2, hLq.out] at hge
        have Hge := Lib.hid hge
        have hc := UInt8.toNat_lt cb
        have e0 : IntKind.i64.wrap (cb.toNat : Int) = (cb.toNat : Int) := by rw [IntKind.wrap_i64]; omega
        have e6 : IntKind.i64.wrap ((cb.toNat % 16 : Nat) : Int) = ((cb.toNat % 16 : Nat) : Int) := by rw [IntKind.wrap_i64]; omega
        have e1 : (cb.toNat : Int).tdiv 16 = ((cb.toNat / 16 : Nat) : Int) := (Int.ofNat_tdiv _ 16).symm
        have e2 : (cb.toNat : Int).tmod 16 = ((cb.toNat % 16 : Nat) : Int) := (Int.ofNat_tmod _ 16).symm
        have f1 : cb.toNat / 16 < 16 := by omega
        have f2 : cb.toNat % 16 < 16 := by omega
        obtain ⟨m, hm⟩ : ∃ m, Hid (cb.toNat / 16 = m) := ⟨_, rfl⟩
        obtain ⟨q, hq⟩ : ∃ q, Hid (cb.toNat % 16 = q) := ⟨_, rfl⟩
        rw [hm.out] at e1 f1 Hge
        rw [hq.out] at e2 f2 Hge e6
        have e5 : IntKind.i64.wrap (m : Int) = (m : Int) := by rw [IntKind.wrap_i64]; omega
        clear hge hcb2 hLq
        go_wp2_with fail
        have hob : some w.heap.size ≠ u4.ownBlock := fun e => by have := (ho.own.lt _ e.symm).1; omega
        obtain ⟨ob, hobq⟩ : ∃ ob, Hid (u4.ownBlock = ob) := ⟨_, rfl⟩
        rw [hobq.out] at hob
        refine wp_region_pl0 (fun w' => Below wr.heap.size wr w') (fun w' => wr.grownBy w' ob) [17] (.q 0 (.q 1 (.q 2 (.q 3 (.q 4 (.q 5 (.q 6 (.q 8 (.q 9 (.q 10 (.q 11 (.q 12 (.q 13 (.l 7 (.l 14 (.l 15 (.l 16 (.qc 17 .nil)))))))))))))))))) (by kernel_rfl) (by kernel_rfl) (fun _ _ d _ _ h => by cases d <;> exact h) rfl (by kernel_rfl) ?_ ?_
        · exact ⟨below_drew _, grownBy_drew _ _⟩
        intro W1 hS0 hS1
        have hS := hS1
        repeat (first
          | (refine pl_q (by assumption) rfl rfl ?_; apply Exists.intro; refine ⟨fun w' hS => ?_, ?_⟩; (· (have hq := hkr.grown hS hob; have h3 := hq.cell 3; simp at h3; go_simp; exact rfl)); simp only [List.getElem_toArray, List.getElem_cons_zero, List.getElem_cons_succ, Act.put, List.setIfInBounds_toArray, List.set_cons_zero, List.set_cons_succ])
          | (refine pl_qc rfl rfl ?_; apply Exists.intro; refine ⟨fun w' _ => ?_, ?_⟩; (· (go_simp; exact rfl)); simp only [List.getElem_toArray, List.getElem_cons_zero, List.getElem_cons_succ, Act.put, List.setIfInBounds_toArray, List.set_cons_zero, List.set_cons_succ])
          | (refine pl_skip (by assumption) rfl rfl ?_; simp only [List.getElem_toArray, List.getElem_cons_zero, List.getElem_cons_succ, Act.put, List.setIfInBounds_toArray, List.set_cons_zero, List.set_cons_succ])
          | (refine pl_skipl (by assumption) rfl rfl ?_; simp only [List.getElem_toArray, List.getElem_cons_zero, List.getElem_cons_succ, Act.put, List.setIfInBounds_toArray, List.set_cons_zero, List.set_cons_succ]))
        first
          | refine pl_do rfl rfl (fun K hK => ?_)
          | refine op_do rfl rfl (fun K hK => ?_)
        try simp only [List.getElem_toArray, List.getElem_cons_zero, List.getElem_cons_succ]
        go_simp
        ((with_reducible refine (hexDigit_any m _ rfl f1 _).mono ?_))
        rintro e w3 ⟨rfl, rfl⟩
        refine hK.out _ _ (hS1) (fun hS => ?_)
        clear hK K
        try simp only [List.getElem_toArray, List.getElem_cons_zero, List.getElem_cons_succ, Act.put, List.setIfInBounds_toArray, List.set_cons_zero, List.set_cons_succ]
        first
          | refine pl_do rfl rfl (fun K hK => ?_)
          | refine op_do rfl rfl (fun K hK => ?_)
        try simp only [List.getElem_toArray, List.getElem_cons_zero, List.getElem_cons_succ]
        go_simp
        ((with_reducible refine (hexDigit_any q _ rfl f2 _).mono ?_))
        rintro e w3 ⟨rfl, rfl⟩
        refine hK.out _ _ (hS1) (fun hS => ?_)
        clear hK K
        try simp only [List.getElem_toArray, List.getElem_cons_zero, List.getElem_cons_succ, Act.put, List.setIfInBounds_toArray, List.set_cons_zero, List.set_cons_succ]
        first
          | refine pl_do rfl rfl (fun K hK => ?_)
          | refine op_do rfl rfl (fun K hK => ?_)
        try simp only [List.getElem_toArray, List.getElem_cons_zero, List.getElem_cons_succ]
        go_simp
        have hb4 := below_one W1 (.cells #[.int .u8 (hexd m).toNat, .int .u8 (hexd q).toNat] 5)
        have hn4 := Blk.new W1 5 #[.int .u8 (hexd m).toNat, .int .u8 (hexd q).toNat]
        have hS4 := grownBy_trans hS1 (grownBy_below ob hb4)
        have ho4 := (ho.kept hS0).kept hb4
        have hz4 := hS0.size
        refine hK.out _ _ (hS4) (fun hS => ?_)
        clear hK K
        try simp only [List.getElem_toArray, List.getElem_cons_zero, List.getElem_cons_succ, Act.put, List.setIfInBounds_toArray, List.set_cons_zero, List.set_cons_succ]
        first
          | refine pl_do rfl rfl (fun K hK => ?_)
          | refine op_do rfl rfl (fun K hK => ?_)
        try simp only [List.getElem_toArray, List.getElem_cons_zero, List.getElem_cons_succ]
        refine wp_append_at (n := 140737488355328) (ys := [hexd m, hexd q]) elemByte encB_one _ _ rfl rfl ho4 (by simp; have := hbr.size; omega) rfl (RVec.two _ _ (hn4.cell 0) (hn4.cell 1)) (by decide) (by simp; omega) (by simp; omega) (fun v6 w6 ho6 hg6 _ => ?_)
        replace hg6 : (W1.alloc (.cells #[.int .u8 (hexd m).toNat, .int .u8 (hexd q).toNat] 5)).grownBy w6 ob := by rw [← hobq.out]; exact hg6
        have hbl6 := hbr.trans ((Below.refl W.heap.size wr))
        have hg7 := grownBy_trans hS4 hg6
        have hbr6 : Below W.heap.size wd w6 := below_grownBy hbr (by have := hbr.size; omega) hg7 (fun j hj => by rw [← hobq.out] at hj; exact (ho.own.lt j hj).1)
        rw [← Hge.out] at ho6
        refine hK.out _ _ (hg7) (fun hS => ?_)
        clear hK K
        try simp only [List.getElem_toArray, List.getElem_cons_zero, List.getElem_cons_succ, Act.put, List.setIfInBounds_toArray, List.set_cons_zero, List.set_cons_succ]
        repeat (first
          | (refine pl_q (by assumption) rfl rfl ?_; apply Exists.intro; refine ⟨fun w' hS => ?_, ?_⟩; (· (skip; go_simp; exact rfl)); simp only [List.getElem_toArray, List.getElem_cons_zero, List.getElem_cons_succ, Act.put, List.setIfInBounds_toArray, List.set_cons_zero, List.set_cons_succ])
          | (refine pl_qc rfl rfl ?_; apply Exists.intro; refine ⟨fun w' _ => ?_, ?_⟩; (· (go_simp; exact rfl)); simp only [List.getElem_toArray, List.getElem_cons_zero, List.getElem_cons_succ, Act.put, List.setIfInBounds_toArray, List.set_cons_zero, List.set_cons_succ])
          | (refine pl_skip (by assumption) rfl rfl ?_; simp only [List.getElem_toArray, List.getElem_cons_zero, List.getElem_cons_succ, Act.put, List.setIfInBounds_toArray, List.set_cons_zero, List.set_cons_succ])
          | (refine pl_skipl (by assumption) rfl rfl ?_; simp only [List.getElem_toArray, List.getElem_cons_zero, List.getElem_cons_succ, Act.put, List.setIfInBounds_toArray, List.set_cons_zero, List.set_cons_succ]))
        clear ho ho4 hg6 hg7 hS hS1 hS0 hS4 hn4 hb4
        refine pl_nil ?_
        go_wp2_with fail
        go_roundw
        case rel => exact ⟨k + 1, by omega, by go_num, ho6, hbr6⟩
        case measure => simp [intOf]; omega
      · have hke : k = atx.size := by omega
        have hfin : hexL atx.data.toList = L := by rw [← hLq.out, hke, List.take_of_length_le (by rw [Array.length_toList]; exact Nat.le_refl _)]
        have ga := run_toStr (ho.reads (bs := 1) (by omega))
        rw [mkS_bstr] at ga
        obtain ⟨U, hU⟩ : ∃ U, Hid (mkS L = U) := ⟨_, rfl⟩
        rw [hU.out] at ga
        have hUs : U.size ≤ 8000 := by rw [← hU.out, mkS_size]; exact hL2
        have Hfin : Hid (U = mkS (hexL atx.data.toList)) := by show _ = _; rw [hfin, hU.out]
        clear hfin ho hLq hU
        go_wp2
        go_ret
        refine ⟨ret_str ?_, hbl0.trans ((hbl.trans hbr).mono hbl0.size)⟩
        rw [Hfin.out]
        rw [← hLL.out]
        unfold lineL
        simp only [n1, n2, n3, if_true, if_false, Bool.false_eq_true, Int.toNat_natCast]
        simp only [hs0.out, hsa.out, one_mkS, mkS_append, List.append_assoc, List.nil_append, List.singleton_append, List.cons_append]
  · go_wp2_with fail
    refine (hasNode_any _ _).mono ?_
    rintro e w9 ⟨rfl, rfl⟩
    go_wp2_with fail
    refine (dec_any an (by omega) (by omega) _).mono ?_
    rintro e w2 ⟨sa, rfl, hsa, hzsa, hb2⟩
    replace hbl := hbl.trans (hb2.mono hbl.size)
    replace hk := hk.kept hb2
    clear k0 k1 k2 k3
    have k0 := hk.cell 0; have k1 := hk.cell 1; have k2 := hk.cell 2; have k3 := hk.cell 3
    simp at k0 k1 k2 k3
    go_wp2_with fail
    refine (hasPick_any _ _).mono ?_
    rintro e w9 ⟨rfl, rfl⟩
    go_wp2_with fail
    refine (dec_any ap (by omega) (by omega) _).mono ?_
    rintro e w3 ⟨sb, rfl, hsb, hzsb, hb3⟩
    replace hbl := hbl.trans (hb3.mono hbl.size)
    replace hk := hk.kept hb3
    clear k0 k1 k2 k3
    have k0 := hk.cell 0; have k1 := hk.cell 1; have k2 := hk.cell 2; have k3 := hk.cell 3
    simp at k0 k1 k2 k3
    go_wp2_with fail
    refine (hasText_any _ _).mono ?_
    rintro e w9 ⟨rfl, rfl⟩
    go_wp2
    go_ret
    refine ⟨ret_str ?_, hbl0.trans (hbl.mono hbl0.size)⟩
    rw [← hLL.out]
    unfold lineL
    simp only [n1, n2, n3, if_true, if_false, Bool.false_eq_true, Int.toNat_natCast]
    simp only [hs0.out, hsa.out, hsb.out, one_mkS, mkS_append, List.append_assoc, List.nil_append, List.singleton_append, List.cons_append]
  · go_wp2_with fail
    refine (hasNode_any _ _).mono ?_
    rintro e w9 ⟨rfl, rfl⟩
    go_wp2_with fail
    refine (dec_any an (by omega) (by omega) _).mono ?_
    rintro e w2 ⟨sa, rfl, hsa, hzsa, hb2⟩
    replace hbl := hbl.trans (hb2.mono hbl.size)
    replace hk := hk.kept hb2
    clear k0 k1 k2 k3
    have k0 := hk.cell 0; have k1 := hk.cell 1; have k2 := hk.cell 2; have k3 := hk.cell 3
    simp at k0 k1 k2 k3
    go_wp2_with fail
    refine (hasPick_any _ _).mono ?_
    rintro e w9 ⟨rfl, rfl⟩
    go_wp2_with fail
    refine (dec_any ap (by omega) (by omega) _).mono ?_
    rintro e w3 ⟨sb, rfl, hsb, hzsb, hb3⟩
    replace hbl := hbl.trans (hb3.mono hbl.size)
    replace hk := hk.kept hb3
    clear k0 k1 k2 k3
    have k0 := hk.cell 0; have k1 := hk.cell 1; have k2 := hk.cell 2; have k3 := hk.cell 3
    simp at k0 k1 k2 k3
    go_wp2_with fail
    refine (hasText_any _ _).mono ?_
    rintro e w9 ⟨rfl, rfl⟩
    obtain ⟨wd, hwd⟩ : ∃ wd : World, wd = w3 := ⟨_, rfl⟩
    subst hwd
    have hbs := hbl.size
    go_wp2
    go_loopw [4, 5] (fun v i wr => ∃ k : Nat, k ≤ atx.size ∧ i = .int .i64 k ∧ OwnB wr W.heap.size v (hexL (atx.data.toList.take k)) ∧ Below W.heap.size wd wr) (fun _ i _ => atx.size - (intOf i).toNat)
    case atStart => exact ⟨0, Nat.zero_le _, rfl, OwnVec.nil _ _ _ _, Below.refl _ _⟩
    case round =>
      obtain ⟨k, hkk, rfl, ho, hbr⟩ := hrel
      have hkr := hk.below hbr (by omega)
      have k3r := hkr.cell 3
      simp at k3r
      have hL := hexL_len (atx.data.toList.take k)
      have hl2 : (atx.data.toList.take k).length ≤ k := List.length_take_le _ _
      obtain ⟨L, hLq⟩ : ∃ L, Hid (hexL (atx.data.toList.take k) = L) := ⟨_, rfl⟩
      rw [hLq.out] at ho hL
      have hL2 : L.length ≤ 8000 := by omega
      clear hL hl2
      by_cases hlt : k < atx.size
      · have hge := hexL_get atx.data.toList k (by rw [Array.length_toList]; exact hlt)
        obtain ⟨cb, hcb⟩ : ∃ cb : UInt8, atx[k] = cb := ⟨_, rfl⟩
        have hcb2 : atx.data.toList[k]'(by rw [Array.length_toList]; exact hlt) = cb := hcb
        rw [hcb2, hLq.out] at hge
        have Hge := Lib.hid hge
        have hc := UInt8.toNat_lt cb
        have e0 : IntKind.i64.wrap (cb.toNat : Int) = (cb.toNat : Int) := by rw [IntKind.wrap_i64]; omega
        have e6 : IntKind.i64.wrap ((cb.toNat % 16 : Nat) : Int) = ((cb.toNat % 16 : Nat) : Int) := by rw [IntKind.wrap_i64]; omega
        have e1 : (cb.toNat : Int).tdiv 16 = ((cb.toNat / 16 : Nat) : Int) := (Int.ofNat_tdiv _ 16).symm
        have e2 : (cb.toNat : Int).tmod 16 = ((cb.toNat % 16 : Nat) : Int) := (Int.ofNat_tmod _ 16).symm
        have f1 : cb.toNat / 16 < 16 := by omega
        have f2 : cb.toNat % 16 < 16 := by omega
        obtain ⟨m, hm⟩ : ∃ m, Hid (cb.toNat / 16 = m) := ⟨_, rfl⟩
        obtain ⟨q, hq⟩ : ∃ q, Hid (cb.toNat % 16 = q) := ⟨_, rfl⟩
        rw [hm.out] at e1 f1 Hge
        rw [hq.out] at e2 f2 Hge e6
        have e5 : IntKind.i64.wrap (m : Int) = (m : Int) := by rw [IntKind.wrap_i64]; omega
        clear hge hcb2 hLq
        go_wp2_with fail
        have hob : some w.heap.size ≠ u4.ownBlock := fun e => by have := (ho.own.lt _ e.symm).1; omega
        obtain ⟨ob, hobq⟩ : ∃ ob, Hid (u4.ownBlock = ob) := ⟨_, rfl⟩
        rw [hobq.out] at hob
        refine wp_region_pl0 (fun w' => Below wr.heap.size wr w') (fun w' => wr.grownBy w' ob) [17] (.q 0 (.q 1 (.q 2 (.q 3 (.q 4 (.q 5 (.q 6 (.q 8 (.q 9 (.q 10 (.q 11 (.q 12 (.q 13 (.l 7 (.l 14 (.l 15 (.l 16 (.qc 17 .nil)))))))))))))))))) (by kernel_rfl) (by kernel_rfl) (fun _ _ d _ _ h => by cases d <;> exact h) rfl (by kernel_rfl) ?_ ?_
        · exact ⟨below_drew _, grownBy_drew _ _⟩
        intro W1 hS0 hS1
        have hS := hS1
        repeat (first
          | (refine pl_q (by assumption) rfl rfl ?_; apply Exists.intro; refine ⟨fun w' hS => ?_, ?_⟩; (· (have hq := hkr.grown hS hob; have h3 := hq.cell 3; simp at h3; go_simp; exact rfl)); simp only [List.getElem_toArray, List.getElem_cons_zero, List.getElem_cons_succ, Act.put, List.setIfInBounds_toArray, List.set_cons_zero, List.set_cons_succ])
          | (refine pl_qc rfl rfl ?_; apply Exists.intro; refine ⟨fun w' _ => ?_, ?_⟩; (· (go_simp; exact rfl)); simp only [List.getElem_toArray, List.getElem_cons_zero, List.getElem_cons_succ, Act.put, List.setIfInBounds_toArray, List.set_cons_zero, List.set_cons_succ])
          | (refine pl_skip (by assumption) rfl rfl ?_; simp only [List.getElem_toArray, List.getElem_cons_zero, List.getElem_cons_succ, Act.put, List.setIfInBounds_toArray, List.set_cons_zero, List.set_cons_succ])
          | (refine pl_skipl (by assumption) rfl rfl ?_; simp only [List.getElem_toArray, List.getElem_cons_zero, List.getElem_cons_succ, Act.put, List.setIfInBounds_toArray, List.set_cons_zero, List.set_cons_succ]))
        first
          | refine pl_do rfl rfl (fun K hK => ?_)
          | refine op_do rfl rfl (fun K hK => ?_)
        try simp only [List.getElem_toArray, List.getElem_cons_zero, List.getElem_cons_succ]
        go_simp
        ((with_reducible refine (hexDigit_any m _ rfl f1 _).mono ?_))
        rintro e w3 ⟨rfl, rfl⟩
        refine hK.out _ _ (hS1) (fun hS => ?_)
        clear hK K
        try simp only [List.getElem_toArray, List.getElem_cons_zero, List.getElem_cons_succ, Act.put, List.setIfInBounds_toArray, List.set_cons_zero, List.set_cons_succ]
        first
          | refine pl_do rfl rfl (fun K hK => ?_)
          | refine op_do rfl rfl (fun K hK => ?_)
        try simp only [List.getElem_toArray, List.getElem_cons_zero, List.getElem_cons_succ]
        go_simp
        ((with_reducible refine (hexDigit_any q _ rfl f2 _).mono ?_))
        rintro e w3 ⟨rfl, rfl⟩
        refine hK.out _ _ (hS1) (fun hS => ?_)
        clear hK K
        try simp only [List.getElem_toArray, List.getElem_cons_zero, List.getElem_cons_succ, Act.put, List.setIfInBounds_toArray, List.set_cons_zero, List.set_cons_succ]
        first
          | refine pl_do rfl rfl (fun K hK => ?_)
          | refine op_do rfl rfl (fun K hK => ?_)
        try simp only [List.getElem_toArray, List.getElem_cons_zero, List.getElem_cons_succ]
        go_simp
        have hb4 := below_one W1 (.cells #[.int .u8 (hexd m).toNat, .int .u8 (hexd q).toNat] 5)
        have hn4 := Blk.new W1 5 #[.int .u8 (hexd m).toNat, .int .u8 (hexd q).toNat]
        have hS4 := grownBy_trans hS1 (grownBy_below ob hb4)
        have ho4 := (ho.kept hS0).kept hb4
        have hz4 := hS0.size
        refine hK.out _ _ (hS4) (fun hS => ?_)
        clear hK K
        try simp only [List.getElem_toArray, List.getElem_cons_zero, List.getElem_cons_succ, Act.put, List.setIfInBounds_toArray, List.set_cons_zero, List.set_cons_succ]
        first
          | refine pl_do rfl rfl (fun K hK => ?_)
          | refine op_do rfl rfl (fun K hK => ?_)
        try simp only [List.getElem_toArray, List.getElem_cons_zero, List.getElem_cons_succ]
        refine wp_append_at (n := 140737488355328) (ys := [hexd m, hexd q]) elemByte encB_one _ _ rfl rfl ho4 (by simp; have := hbr.size; omega) rfl (RVec.two _ _ (hn4.cell 0) (hn4.cell 1)) (by decide) (by simp; omega) (by simp; omega) (fun v6 w6 ho6 hg6 _ => ?_)
        replace hg6 : (W1.alloc (.cells #[.int .u8 (hexd m).toNat, .int .u8 (hexd q).toNat] 5)).grownBy w6 ob := by rw [← hobq.out]; exact hg6
        have hbl6 := hbr.trans ((Below.refl W.heap.size wr))
        have hg7 := grownBy_trans hS4 hg6
        have hbr6 : Below W.heap.size wd w6 := below_grownBy hbr (by have := hbr.size; omega) hg7 (fun j hj => by rw [← hobq.out] at hj; exact (ho.own.lt j hj).1)
        rw [← Hge.out] at ho6
        refine hK.out _ _ (hg7) (fun hS => ?_)
        clear hK K
        try simp only [List.getElem_toArray, List.getElem_cons_zero, List.getElem_cons_succ, Act.put, List.setIfInBounds_toArray, List.set_cons_zero, List.set_cons_succ]
        repeat (first
          | (refine pl_q (by assumption) rfl rfl ?_; apply Exists.intro; refine ⟨fun w' hS => ?_, ?_⟩; (· (skip; go_simp; exact rfl)); simp only [List.getElem_toArray, List.getElem_cons_zero, List.getElem_cons_succ, Act.put, List.setIfInBounds_toArray, List.set_cons_zero, List.set_cons_succ])
          | (refine pl_qc rfl rfl ?_; apply Exists.intro; refine ⟨fun w' _ => ?_, ?_⟩; (· (go_simp; exact rfl)); simp only [List.getElem_toArray, List.getElem_cons_zero, List.getElem_cons_succ, Act.put, List.setIfInBounds_toArray, List.set_cons_zero, List.set_cons_succ])
          | (refine pl_skip (by assumption) rfl rfl ?_; simp only [List.getElem_toArray, List.getElem_cons_zero, List.getElem_cons_succ, Act.put, List.setIfInBounds_toArray, List.set_cons_zero, List.set_cons_succ])
          | (refine pl_skipl (by assumption) rfl rfl ?_; simp only [List.getElem_toArray, List.getElem_cons_zero, List.getElem_cons_succ, Act.put, List.setIfInBounds_toArray, List.set_cons_zero, List.set_cons_succ]))
        clear ho ho4 hg6 hg7 hS hS1 hS0 hS4 hn4 hb4
        refine pl_nil ?_
        go_wp2_with fail
        go_roundw
        case rel => exact ⟨k + 1, by omega, by go_num, ho6, hbr6⟩
        case measure => simp [intOf]; omega
      · have hke : k = atx.size := by omega
        have hfin : hexL atx.data.toList = L := by rw [← hLq.out, hke, List.take_of_length_le (by rw [Array.length_toList]; exact Nat.le_refl _)]
        have ga := run_toStr (ho.reads (bs := 1) (by omega))
        rw [mkS_bstr] at ga
        obtain ⟨U, hU⟩ : ∃ U, Hid (mkS L = U) := ⟨_, rfl⟩
        rw [hU.out] at ga
        have hUs : U.size ≤ 8000 := by rw [← hU.out, mkS_size]; exact hL2
        have Hfin : Hid (U = mkS (hexL atx.data.toList)) := by show _ = _; rw [hfin, hU.out]
        clear hfin ho hLq hU
        go_wp2
        go_ret
        refine ⟨ret_str ?_, hbl0.trans ((hbl.trans hbr).mono hbl0.size)⟩
        rw [Hfin.out]
        rw [← hLL.out]
        unfold lineL
        simp only [n1, n2, n3, if_true, if_false, Bool.false_eq_true, Int.toNat_natCast]
        simp only [hs0.out, hsa.out, hsb.out, one_mkS, mkS_append, List.append_assoc, List.nil_append, List.singleton_append, List.cons_append]
end Ln
end Go.Proofs.YtbcoecmeoemmeaaDoor
