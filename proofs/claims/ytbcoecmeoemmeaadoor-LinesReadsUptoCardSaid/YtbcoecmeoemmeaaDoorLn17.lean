/- The reference reads one line. -/
import Derived.Test.YtbcoecmeoemmeaaDoorLn16
namespace Go.Proofs.YtbcoecmeoemmeaaDoor
open Go.ChangeShapes Go.WideShapes Go.ChangeAt Go.RowKit
set_option linter.unusedVariables false
set_option linter.unusedSimpArgs false
namespace Ln
theorem RWords.at {h : View} {v : Value} {ps : List (List UInt8)} (r : RWords h v ps) : ∃ A c, v = .slice A ps.length c ∧ ps.length ≤ c ∧ c ≤ maxLen ∧ (0 < ps.length → ∃ b o, A = some ⟨b, o, none⟩ ∧ ∀ i (hi : i < ps.length), h ⟨b, o + i, none⟩ = some (.string (mkS ps[i]))) := by
  obtain ⟨A, c, e, h1, h2, _, _, h5⟩ := r
  have hlm : (ps.map mkS).length = ps.length := List.length_map _
  rw [hlm] at e h1
  refine ⟨A, c, e, h1, h2, fun hp => ?_⟩
  obtain ⟨b, o, ea, hc⟩ := h5 (by rw [hlm]; exact hp)
  refine ⟨b, o, ea, fun i hi => ?_⟩
  have := hc i (by rw [hlm]; exact hi)
  rw [List.getElem_map] at this
  exact this
theorem numRo_some {l : List UInt8} (h1 : 0 ≤ numR l) (h2 : great l = false) : numRo l = some (numR l) := by unfold numRo; rw [if_pos ⟨h1, h2⟩]
theorem numRo_neg {l : List UInt8} (h : ¬ 0 ≤ numR l) : numRo l = none := by unfold numRo; rw [if_neg (fun e => h e.1)]
theorem numRo_great {l : List UInt8} (h : great l = true) : numRo l = none := by unfold numRo; rw [if_neg (fun e => by rw [h] at e; cases e.2)]
def okOf (o : Option Ac) (x : Ac) (b : Bool) : Prop := match o with | some y => y = x ∧ b = true | none => b = false
def b0_no (n : Nat) (K : Int) : Prop := n ≠ manyOf K
set_option maxHeartbeats 8000000 in
set_option maxRecDepth 100000 in
theorem lineAct_any (s : ByteArray) (hs : s.size ≤ 1048576) (w : World) : Calls Tryd.prog 21 #[.string s] w (OneOut (lineG numRo s.data.toList) w) := by
  obtain ⟨O, hO⟩ : ∃ O, Hid (lineG numRo s.data.toList = O) := ⟨_, rfl⟩
  have hO2 := hO.out
  unfold lineG at hO2
  rw [hO.out]
  clear hO
  have hsp := partsOf_any s hs
  have hne := spl_ne 32 s.data.toList
  have hsl := spl_len 32 s.data.toList
  have hll : s.data.toList.length = s.size := Array.length_toList
  have hsb : ∀ x ∈ spl 32 s.data.toList, x.length ≤ 1048576 := fun x hx => by
    have := spl_part 32 s.data.toList x hx
    omega
  rw [hll] at hsl
  obtain ⟨ps, hps⟩ : ∃ ps, spl 32 s.data.toList = ps := ⟨_, rfl⟩
  rw [hps] at hO2 hsp hne hsl hsb
  cases ps with
  | nil => exact absurd rfl hne
  | cons p0 r =>
  have Hsp := Lib.hid hsp
  obtain ⟨P0, hP0⟩ : ∃ P, Hid (mkS p0 = P) := ⟨_, rfl⟩
  have HO : Hid (O = if kindOf p0 = 0 ∨ r.length ≠ manyOf (kindOf p0) then none else actR numRo (kindOf p0) r) := hO2.symm
  obtain ⟨n, hn⟩ : ∃ n, Hid (r.length = n) := ⟨_, rfl⟩
  have Hsb := Lib.hid hsb
  have hn2 : n ≤ 1048576 := by have := hn.out; simp at hsl; omega
  clear hsp hne hsl hsb hps hO2 hll
  go_enter Tryd.func21, Tryd.ntmps21
  go_wp2_with fail
  refine (Hsp.out _).mono ?_
  rintro e w2 ⟨v, rfl, hv, hb2⟩
  have hR2 := (Blk.new w 37 #[.int .i64 0, .int .i64 0, .int .i64 0, .string ByteArray.empty]).kept hb2
  have hb2w := (below_one w (.cells #[.int .i64 0, .int .i64 0, .int .i64 0, .string ByteArray.empty] 37)).trans (hb2.mono (by simp))
  obtain ⟨A, cc, rfl, h1, h2, h3⟩ := hv.at
  obtain ⟨bb, oo, rfl, hcs⟩ := h3 (by simp)
  have hpl : (p0 :: r).length = n + 1 := by simp [hn.out]
  rw [hpl] at h1 ⊢
  have c0 : w2.cell? ⟨bb, oo, none⟩ = some (.string P0) := by rw [← hP0.out]; exact hcs 0 (by simp)
  have hcr : Hid (∀ i (hi : i < r.length), w2.cell? ⟨bb, oo + (i + 1), none⟩ = some (.string (mkS r[i]))) := by
    show ∀ i (hi : i < r.length), _
    intro i hi
    exact hcs (i + 1) (by simp; omega)
  have hblt := World.block_lt_of_cell? _ _ c0
  simp only at hblt
  clear hv h3 hcs hpl Hsp hb2
  go_upto_region 3 with fail
  refine one_block _ _ _ (fun W => Code.wp _ _ _ _ W) (fun W hA hsz hb => ?_)
  have hRW := hR2.kept hb
  have hbW := hb2w.trans (hb.mono hb2w.size)
  have hga : w.heap.size + 1 ≤ w2.heap.size := by have := hR2.lt; omega
  have c0W := vle_below hb _ _ c0
  clear hR2 hb2w c0
  go_wp2
  go_loopw [6] (fun i wr => ∃ (k : Nat) (K : Int), 1 ≤ k ∧ k ≤ 11 ∧ i = .int .i64 k ∧ Hid (K = kindTo p0 k) ∧ Blk wr w2.heap.size 37 #[.int .i64 K, .int .i64 0, .int .i64 0, .string ByteArray.empty] ∧ W.grownBy wr (some w2.heap.size)) (fun i _ => 11 - (intOf i).toNat)
  case atStart => exact ⟨1, 0, by decide, by decide, rfl, rfl, hA, grownBy_refl _ _⟩
  case round =>
    obtain ⟨k, K, hk1, hk, rfl, hK, hAr, hg⟩ := hrel
    have c0r := hg.cell c0W (by simp; omega)
    have ha0 := hAr.cell 0
    have haf := hAr.frozen 0
    simp at ha0
    by_cases hlt : k < 11
    · have hkt : kindTo p0 (k + 1) = if 0 < k ∧ wordL k = p0 then (k : Int) else kindTo p0 k := rfl
      obtain ⟨T, hT⟩ : ∃ T, Hid (mkS (wordL k) = T) := ⟨_, rfl⟩
      by_cases hq : wordL k = p0
      · have heq : (T.toList == P0.toList) = true := by rw [← hT.out, ← hP0.out, hq]; simp
        have hK2 : Hid ((k : Int) = kindTo p0 (k + 1)) := by show _ = _; rw [hkt, if_pos ⟨hk1, hq⟩]
        clear hkt hq
        go_wp2_with fail
        refine wp_region_pl (fun w' => Below wr.heap.size wr w') [] (.q 0 (.q 2 (.q 3 (.q 4 (.l 1 (.q 5 .nil)))))) (by kernel_rfl) (by kernel_rfl) (fun _ _ d _ _ h => by cases d <;> exact h) rfl (by kernel_rfl) ?_ ?_
        · exact below_drew _
        intro X hS
        repeat (first
          | (refine pl_q (by assumption) rfl rfl ?_; apply Exists.intro; refine ⟨fun w' hS => ?_, ?_⟩; (· (have cx := vle_below hS _ _ c0r; go_simp; exact rfl)); simp only [List.getElem_toArray, List.getElem_cons_zero, List.getElem_cons_succ, Act.put, List.setIfInBounds_toArray, List.set_cons_zero, List.set_cons_succ])
          | (refine pl_qc rfl rfl ?_; apply Exists.intro; refine ⟨fun w' _ => ?_, ?_⟩; (· (go_simp; exact rfl)); simp only [List.getElem_toArray, List.getElem_cons_zero, List.getElem_cons_succ, Act.put, List.setIfInBounds_toArray, List.set_cons_zero, List.set_cons_succ])
          | (refine pl_skip (by assumption) rfl rfl ?_; simp only [List.getElem_toArray, List.getElem_cons_zero, List.getElem_cons_succ, Act.put, List.setIfInBounds_toArray, List.set_cons_zero, List.set_cons_succ])
          | (refine pl_skipl (by assumption) rfl rfl ?_; simp only [List.getElem_toArray, List.getElem_cons_zero, List.getElem_cons_succ, Act.put, List.setIfInBounds_toArray, List.set_cons_zero, List.set_cons_succ]))
        first
          | refine pl_do rfl rfl (fun K hK => ?_)
          | refine op_do rfl rfl (fun K hK => ?_)
        try simp only [List.getElem_toArray, List.getElem_cons_zero, List.getElem_cons_succ]
        go_simp
        ((with_reducible refine (actWord_any k hk1 (by omega) _).mono ?_))
        rintro e w5 ⟨rfl, hb5⟩
        rw [hT.out]
        have hb6 := hS.trans (hb5.mono hS.size)
        refine hK.out _ _ (hb6) (fun hS => ?_)
        clear hK K
        try simp only [List.getElem_toArray, List.getElem_cons_zero, List.getElem_cons_succ, Act.put, List.setIfInBounds_toArray, List.set_cons_zero, List.set_cons_succ]
        repeat (first
          | (refine pl_q (by assumption) rfl rfl ?_; apply Exists.intro; refine ⟨fun w' hS => ?_, ?_⟩; (· (skip; go_simp; exact rfl)); simp only [List.getElem_toArray, List.getElem_cons_zero, List.getElem_cons_succ, Act.put, List.setIfInBounds_toArray, List.set_cons_zero, List.set_cons_succ])
          | (refine pl_qc rfl rfl ?_; apply Exists.intro; refine ⟨fun w' _ => ?_, ?_⟩; (· (go_simp; exact rfl)); simp only [List.getElem_toArray, List.getElem_cons_zero, List.getElem_cons_succ, Act.put, List.setIfInBounds_toArray, List.set_cons_zero, List.set_cons_succ])
          | (refine pl_skip (by assumption) rfl rfl ?_; simp only [List.getElem_toArray, List.getElem_cons_zero, List.getElem_cons_succ, Act.put, List.setIfInBounds_toArray, List.set_cons_zero, List.set_cons_succ])
          | (refine pl_skipl (by assumption) rfl rfl ?_; simp only [List.getElem_toArray, List.getElem_cons_zero, List.getElem_cons_succ, Act.put, List.setIfInBounds_toArray, List.set_cons_zero, List.set_cons_succ]))
        refine pl_nil ?_
        have hA6 := hAr.kept hb6
        have q0 := hA6.cell 0
        have qf := hA6.frozen 0
        simp at q0
        obtain ⟨k1, k2⟩ := blk_setCell hA6 0 (.int .i64 k)
        have hg2 := grownBy_trans (grownBy_trans hg (grownBy_below (some w2.heap.size) hb6)) k2
        clear hAr hg c0r ha0 haf
        go_wp2
        go_roundw
        case rel => exact ⟨k + 1, _, by omega, by omega, by go_num, hK2, k1, hg2⟩
        case measure => simp [intOf]; omega
      · have heq : (T.toList == P0.toList) = false := by
          rw [← hT.out, ← hP0.out, ByteArray.toList_eq, ByteArray.toList_eq, beq_eq_false_iff_ne]
          exact fun e => hq e
        have hK2 : Hid (K = kindTo p0 (k + 1)) := by show _ = _; rw [hkt, if_neg (fun e => hq e.2)]; exact hK.out
        clear hkt hq
        go_wp2_with fail
        refine wp_region_pl (fun w' => Below wr.heap.size wr w') [] (.q 0 (.q 2 (.q 3 (.q 4 (.l 1 (.q 5 .nil)))))) (by kernel_rfl) (by kernel_rfl) (fun _ _ d _ _ h => by cases d <;> exact h) rfl (by kernel_rfl) ?_ ?_
        · exact below_drew _
        intro X hS
        repeat (first
          | (refine pl_q (by assumption) rfl rfl ?_; apply Exists.intro; refine ⟨fun w' hS => ?_, ?_⟩; (· (have cx := vle_below hS _ _ c0r; go_simp; exact rfl)); simp only [List.getElem_toArray, List.getElem_cons_zero, List.getElem_cons_succ, Act.put, List.setIfInBounds_toArray, List.set_cons_zero, List.set_cons_succ])
          | (refine pl_qc rfl rfl ?_; apply Exists.intro; refine ⟨fun w' _ => ?_, ?_⟩; (· (go_simp; exact rfl)); simp only [List.getElem_toArray, List.getElem_cons_zero, List.getElem_cons_succ, Act.put, List.setIfInBounds_toArray, List.set_cons_zero, List.set_cons_succ])
          | (refine pl_skip (by assumption) rfl rfl ?_; simp only [List.getElem_toArray, List.getElem_cons_zero, List.getElem_cons_succ, Act.put, List.setIfInBounds_toArray, List.set_cons_zero, List.set_cons_succ])
          | (refine pl_skipl (by assumption) rfl rfl ?_; simp only [List.getElem_toArray, List.getElem_cons_zero, List.getElem_cons_succ, Act.put, List.setIfInBounds_toArray, List.set_cons_zero, List.set_cons_succ]))
        first
          | refine pl_do rfl rfl (fun K hK => ?_)
          | refine op_do rfl rfl (fun K hK => ?_)
        try simp only [List.getElem_toArray, List.getElem_cons_zero, List.getElem_cons_succ]
        go_simp
        ((with_reducible refine (actWord_any k hk1 (by omega) _).mono ?_))
        rintro e w5 ⟨rfl, hb5⟩
        rw [hT.out]
        have hb6 := hS.trans (hb5.mono hS.size)
        refine hK.out _ _ (hb6) (fun hS => ?_)
        clear hK K
        try simp only [List.getElem_toArray, List.getElem_cons_zero, List.getElem_cons_succ, Act.put, List.setIfInBounds_toArray, List.set_cons_zero, List.set_cons_succ]
        repeat (first
          | (refine pl_q (by assumption) rfl rfl ?_; apply Exists.intro; refine ⟨fun w' hS => ?_, ?_⟩; (· (skip; go_simp; exact rfl)); simp only [List.getElem_toArray, List.getElem_cons_zero, List.getElem_cons_succ, Act.put, List.setIfInBounds_toArray, List.set_cons_zero, List.set_cons_succ])
          | (refine pl_qc rfl rfl ?_; apply Exists.intro; refine ⟨fun w' _ => ?_, ?_⟩; (· (go_simp; exact rfl)); simp only [List.getElem_toArray, List.getElem_cons_zero, List.getElem_cons_succ, Act.put, List.setIfInBounds_toArray, List.set_cons_zero, List.set_cons_succ])
          | (refine pl_skip (by assumption) rfl rfl ?_; simp only [List.getElem_toArray, List.getElem_cons_zero, List.getElem_cons_succ, Act.put, List.setIfInBounds_toArray, List.set_cons_zero, List.set_cons_succ])
          | (refine pl_skipl (by assumption) rfl rfl ?_; simp only [List.getElem_toArray, List.getElem_cons_zero, List.getElem_cons_succ, Act.put, List.setIfInBounds_toArray, List.set_cons_zero, List.set_cons_succ]))
        refine pl_nil ?_
        have hA6 := hAr.kept hb6
        have hg2 := grownBy_trans hg (grownBy_below (some w2.heap.size) hb6)
        clear hAr hg c0r ha0 haf
        go_wp2
        go_roundw
        case rel => exact ⟨k + 1, _, by omega, by omega, by go_num, hK2, hA6, hg2⟩
        case measure => simp [intOf]; omega
    · obtain rfl : k = 11 := by omega
      replace hK : Hid (K = kindOf p0) := hK
      have hRr := hRW.grown hg (by simp; omega)
      have hbl : Below w.heap.size w wr := below_grownBy hbW (by have := hbW.size; omega) hg (by intro j e; injection e; omega)
      have hzr : w2.heap.size + 1 ≤ wr.heap.size := by have := hg.size; omega
      have HO2 : Hid (O = if K = 0 ∨ n ≠ manyOf K then none else actR numRo K r) := by show _ = _; rw [HO.out, hK.out, hn.out]
      have hKr : 0 ≤ K ∧ K ≤ 10 := by rw [hK.out]; exact kindOf_rng p0
      have hrc : Hid (∀ i (hi : i < r.length), wr.cell? ⟨bb, oo + (i + 1), none⟩ = some (.string (mkS r[i]))) := by
        show ∀ i (hi : i < r.length), _
        intro i hi
        exact hg.cell (vle_below hb _ _ (hcr.out i hi)) (by simp; omega)
      clear hK HO haf hA hRW hbW hg hlt hk hk1 c0W c0r hcr hb
      obtain ⟨hK0, hK1⟩ := hKr
      by_cases hz : K = 0
      · have hO3 : O = none := by rw [HO2.out, if_pos (.inl hz)]
        have hzb : (K == 0) = true := by rw [hz]; rfl
        have ha1 := hAr.cell 1
        have ha2 := hAr.cell 2
        have ha3 := hAr.cell 3
        simp at ha1 ha2 ha3
        clear HO2
        go_wp2_with (refine wpList_store_whole (n := 4) rfl rfl rfl rfl (by kernel_rfl) rfl hRr rfl rfl ?_)
        intro w9 hR9 hg9
        go_wp2
        refine bodyPost_ret (results_blk_tmp rfl rfl (by kernel_rfl) (by kernel_rfl) hR9 rfl) rfl ?_
        exact ⟨⟨_, _, _, _, _, rfl, by rw [hO3]⟩, below_grownBy hbl (by have := hbl.size; omega) hg9 (by intro j e; injection e; omega)⟩
      · have hzb : (K == 0) = false := by simpa using hz
        obtain ⟨B1, hB1⟩ : ∃ b, Hid (hN K = b) := ⟨_, rfl⟩
        obtain ⟨B2, hB2⟩ : ∃ b, Hid (hP K = b) := ⟨_, rfl⟩
        obtain ⟨B3, hB3⟩ : ∃ b, Hid (hT K = b) := ⟨_, rfl⟩
        go_upto_if 30 with (go_at_call 26; refine (hasNode_any K _).mono ?_; rintro e w9 ⟨rfl, rfl⟩; rw [hB1.out])
        have HO3 : Hid (O = if n ≠ manyOf K then none else actR numRo K r) := by
          show _ = _
          rw [HO2.out]
          by_cases h : n ≠ manyOf K
          · rw [if_pos (.inr h), if_pos h]
          · rw [if_neg (fun e => e.elim hz h), if_neg h]
        have hmn : Hid (manyOf K = (if B1 then 1 else 0) + ((if B2 then 1 else 0) + (if B3 then 1 else 0))) := by
          show _ = _
          unfold manyOf
          rw [hB1.out, hB2.out, hB3.out]
        clear HO2
        obtain ⟨wd, hwd⟩ : ∃ wd : World, wd = wr := ⟨_, rfl⟩
        subst hwd
        obtain ⟨m1, hm1⟩ : ∃ m1 : Nat, Hid (1 + (if B1 then 1 else 0) = m1) := ⟨_, rfl⟩
        obtain ⟨m2, hm2⟩ : ∃ m2 : Nat, Hid (m1 + (if B2 then 1 else 0) = m2) := ⟨_, rfl⟩
        obtain ⟨m3, hm3⟩ : ∃ m3 : Nat, Hid (m2 + (if B3 then 1 else 0) = m3) := ⟨_, rfl⟩
        have hm31 : Hid (m3 = 1 + manyOf K) := by
          show _ = _
          have a1 := hm1.out
          have a2 := hm2.out
          have a3 := hm3.out
          rw [hmn.out]; omega
        go_cut [7, 8] (fun q7 q8 w' => ∃ (b : Bool) (vn : Int), q7 = .int .i64 m1 ∧ q8 = .bool b ∧ Blk w' w2.heap.size 37 #[.int .i64 K, .int .i64 vn, .int .i64 0, .string ByteArray.empty] ∧ Hid ((b = true → nodeR numRo K r = some vn) ∧ (b = false → n = manyOf K → nodeR numRo K r = none)) ∧ wd.grownBy w' (some w2.heap.size))
        case first =>
          have ha1 := hAr.cell 1
          have haf1 := hAr.frozen 1
          simp at ha1
          cases B1
          · have hf : nodeR numRo K r = some 0 := by unfold nodeR; rw [hB1.out]; rfl
            obtain rfl : 1 = m1 := hm1.out
            go_wp2_with fail
            go_meet
            exact ⟨true, 0, rfl, rfl, hAr, ⟨fun _ => hf, (by intro e; cases e)⟩, grownBy_refl _ _⟩
          · obtain rfl : 2 = m1 := hm1.out
            cases r with
            | nil =>
              have hn0 : n = 0 := hn.out.symm
              have hno : b0_no n K := fun e => by
                have := hmn.out
                rw [if_pos rfl] at this
                omega
              subst hn0
              go_wp2_with fail
              go_meet
              exact ⟨false, 0, rfl, rfl, hAr, ⟨(by intro e; cases e), fun _ e => absurd e hno⟩, grownBy_refl _ _⟩
            | cons ra r' =>
              have hn1 : 1 ≤ n := by have := hn.out; simp at this; omega
              obtain ⟨SA, hSA⟩ : ∃ S, Hid (mkS ra = S) := ⟨_, rfl⟩
              have cA : wd.cell? ⟨bb, oo + 1, none⟩ = some (.string SA) := by rw [← hSA.out]; exact hrc.out 0 (by simp)
              have hzA : SA.size ≤ 1048576 := by rw [← hSA.out, mkS_size]; exact Hsb.out ra (by simp)
              have hdA : SA.data.toList = ra := by rw [← hSA.out]; rfl
              have hnm := numberOf_any SA hzA wd
              have htg := tooGreat_any SA wd
              rw [hdA] at hnm htg
              have Hnr : Hid (nodeR numRo K (ra :: r') = numRo ra) := by show _ = _; unfold nodeR; rw [hB1.out]; rfl
              obtain ⟨V, hV⟩ : ∃ V, Hid (numR ra = V) := ⟨_, rfl⟩
              obtain ⟨G, hG⟩ : ∃ G, Hid (great ra = G) := ⟨_, rfl⟩
              rw [hV.out] at hnm
              rw [hG.out] at htg
              have Hnm := Lib.hid hnm
              have Htg := Lib.hid htg
              clear hnm htg hdA
              by_cases hV0 : 0 ≤ V
              · cases G
                · have hs := numRo_some (l := ra) (by rw [hV.out]; exact hV0) hG.out
                  rw [hV.out] at hs
                  obtain ⟨k1, k2⟩ := blk_setCell hAr 1 (.int .i64 V)
                  have Hs := Lib.hid hs
                  clear hs
                  go_wp2_with (first | (go_at_call 37; refine Hnm.out.mono ?_; rintro e w9 ⟨rfl, rfl⟩) | (go_at_call 38; refine Htg.out.mono ?_; rintro e w9 ⟨rfl, rfl⟩) | fail)
                  go_meet
                  exact ⟨true, V, rfl, rfl, k1, ⟨fun _ => Hnr.out.trans Hs.out, (by intro e; cases e)⟩, k2⟩
                · have Hs := Lib.hid (numRo_great hG.out)
                  go_wp2_with (first | (go_at_call 37; refine Hnm.out.mono ?_; rintro e w9 ⟨rfl, rfl⟩) | (go_at_call 38; refine Htg.out.mono ?_; rintro e w9 ⟨rfl, rfl⟩) | fail)
                  go_meet
                  exact ⟨false, 0, rfl, rfl, hAr, ⟨(by intro e; cases e), fun _ _ => Hnr.out.trans Hs.out⟩, grownBy_refl _ _⟩
              · have Hs := Lib.hid (numRo_neg (l := ra) (by rw [hV.out]; exact hV0))
                go_wp2_with (first | (go_at_call 37; refine Hnm.out.mono ?_; rintro e w9 ⟨rfl, rfl⟩) | (go_at_call 38; refine Htg.out.mono ?_; rintro e w9 ⟨rfl, rfl⟩) | fail)
                go_meet
                exact ⟨false, 0, rfl, rfl, hAr, ⟨(by intro e; cases e), fun _ _ => Hnr.out.trans Hs.out⟩, grownBy_refl _ _⟩
        case rest =>
          obtain ⟨bN, vN, rfl, rfl, hAc, hN1, hg1⟩ := hcut
          obtain ⟨we, hwe⟩ : ∃ we : World, we = wc := ⟨_, rfl⟩
          subst hwe
          have hRe := hRr.grown hg1 (by simp; omega)
          have hble : Below w.heap.size w we := below_grownBy hbl (by have := hbl.size; omega) hg1 (by intro j e; injection e; omega)
          have hze : w2.heap.size + 1 ≤ we.heap.size := by have := hg1.size; omega
          have hre : Hid (∀ i (hi : i < r.length), we.cell? ⟨bb, oo + (i + 1), none⟩ = some (.string (mkS r[i]))) := by
            show ∀ i (hi : i < r.length), _
            intro i hi
            exact hg1.cell (hrc.out i hi) (by simp; omega)
          clear hRr hbl hzr hrc hAr hg1 ha0
          have e0 := hAc.cell 0
          simp at e0
          go_upto_if 61 with (go_at_call 27; refine (hasPick_any K _).mono ?_; rintro e w9 ⟨rfl, rfl⟩; rw [hB2.out])
          go_cut [7, 8] (fun q7 q8 w' => ∃ (b : Bool) (vp : Int), q7 = .int .i64 m2 ∧ q8 = .bool b ∧ Blk w' w2.heap.size 37 #[.int .i64 K, .int .i64 vN, .int .i64 vp, .string ByteArray.empty] ∧ Hid ((b = true → bN = true ∧ pickR numRo K r = some vp) ∧ (b = false → n = manyOf K → bN = false ∨ pickR numRo K r = none)) ∧ we.grownBy w' (some w2.heap.size))
          case first =>
            have ha2 := hAc.cell 2
            have haf2 := hAc.frozen 2
            simp at ha2
            cases B2
            · have hf : pickR numRo K r = some 0 := by unfold pickR; rw [hB2.out]; rfl
              obtain rfl : m1 = m2 := hm2.out
              go_wp2_with fail
              go_meet
              exact ⟨bN, 0, rfl, rfl, hAc, ⟨fun e => ⟨e, hf⟩, fun e _ => .inl e⟩, grownBy_refl _ _⟩
            · obtain rfl : m1 + 1 = m2 := hm2.out
              have hm1v : m1 = 1 + (if B1 then 1 else 0) := hm1.out.symm
              by_cases hin : m1 < n + 1
              · obtain ⟨j, hj⟩ : ∃ j, m1 = j + 1 := ⟨m1 - 1, by omega⟩
                have hjl : j < r.length := by have := hn.out; omega
                obtain ⟨ra, hra⟩ : ∃ ra, Hid (r[j] = ra) := ⟨_, Lib.hid rfl⟩
                obtain ⟨SA, hSA⟩ : ∃ S, Hid (mkS ra = S) := ⟨_, rfl⟩
                have cA : we.cell? ⟨bb, oo + m1, none⟩ = some (.string SA) := by rw [← hSA.out, ← hra.out, hj]; exact hre.out j hjl
                have hzA : SA.size ≤ 1048576 := by rw [← hSA.out, mkS_size]; exact Hsb.out ra (by rw [← hra.out]; exact List.mem_cons_of_mem _ (List.getElem_mem hjl))
                have hdA : SA.data.toList = ra := by rw [← hSA.out]; rfl
                have hnm := numberOf_any SA hzA we
                have htg := tooGreat_any SA we
                rw [hdA] at hnm htg
                have Hnr : Hid (pickR numRo K r = numRo ra) := by
                  show _ = _
                  unfold pickR
                  rw [hB2.out, hB1.out, if_pos rfl, List.getD_eq_getElem?_getD]
                  have : (if B1 = true then 1 else 0) = j := by omega
                  rw [this, List.getElem?_eq_getElem hjl, hra.out]; rfl
                obtain ⟨V, hV⟩ : ∃ V, Hid (numR ra = V) := ⟨_, rfl⟩
                obtain ⟨G, hG⟩ : ∃ G, Hid (great ra = G) := ⟨_, rfl⟩
                rw [hV.out] at hnm
                rw [hG.out] at htg
                have Hnm := Lib.hid hnm
                have Htg := Lib.hid htg
                clear hnm htg hdA hm1v hj
                have hmb : (m1 : Int) < (n : Int) + 1 := by omega
                by_cases hV0 : 0 ≤ V
                · cases G
                  · have hs := numRo_some (l := ra) (by rw [hV.out]; exact hV0) hG.out
                    rw [hV.out] at hs
                    obtain ⟨k1, k2⟩ := blk_setCell hAc 2 (.int .i64 V)
                    have Hs := Lib.hid hs
                    clear hs
                    go_wp2_with (first | (go_at_call 37; refine Hnm.out.mono ?_; rintro e w9 ⟨rfl, rfl⟩) | (go_at_call 38; refine Htg.out.mono ?_; rintro e w9 ⟨rfl, rfl⟩) | fail)
                    go_meet
                    exact ⟨bN, V, by go_num, rfl, k1, ⟨fun e => ⟨e, Hnr.out.trans Hs.out⟩, fun e _ => .inl e⟩, k2⟩
                  · have Hs := Lib.hid (numRo_great hG.out)
                    go_wp2_with (first | (go_at_call 37; refine Hnm.out.mono ?_; rintro e w9 ⟨rfl, rfl⟩) | (go_at_call 38; refine Htg.out.mono ?_; rintro e w9 ⟨rfl, rfl⟩) | fail)
                    go_meet
                    exact ⟨false, 0, by go_num, rfl, hAc, ⟨(by intro e; cases e), fun _ _ => .inr (Hnr.out.trans Hs.out)⟩, grownBy_refl _ _⟩
                · have Hs := Lib.hid (numRo_neg (l := ra) (by rw [hV.out]; exact hV0))
                  go_wp2_with (first | (go_at_call 37; refine Hnm.out.mono ?_; rintro e w9 ⟨rfl, rfl⟩) | (go_at_call 38; refine Htg.out.mono ?_; rintro e w9 ⟨rfl, rfl⟩) | fail)
                  go_meet
                  exact ⟨false, 0, by go_num, rfl, hAc, ⟨(by intro e; cases e), fun _ _ => .inr (Hnr.out.trans Hs.out)⟩, grownBy_refl _ _⟩
              · have hno : b0_no n K := fun e => by
                  have q := hmn.out
                  cases B1 <;> cases B3 <;> simp at q hm1v <;> omega
                have hmb : ¬ (m1 : Int) < (n : Int) + 1 := by omega
                have hm1b : m1 ≤ 2 := by rw [hm1v]; split <;> omega
                clear hm1v
                go_wp2_with fail
                go_meet
                exact ⟨false, 0, by go_num, rfl, hAc, ⟨(by intro e; cases e), fun _ e => absurd e hno⟩, grownBy_refl _ _⟩
          case rest =>
            obtain ⟨bP, vP, rfl, rfl, hAd, hN2, hg2⟩ := hcut
            obtain ⟨wf, hwf⟩ : ∃ wf : World, wf = wc := ⟨_, rfl⟩
            subst hwf
            have hRf := hRe.grown hg2 (by simp; omega)
            have hblf : Below w.heap.size w wf := below_grownBy hble (by have := hble.size; omega) hg2 (by intro j e; injection e; omega)
            have hzf : w2.heap.size + 1 ≤ wf.heap.size := by have := hg2.size; omega
            have hrf : Hid (∀ i (hi : i < r.length), wf.cell? ⟨bb, oo + (i + 1), none⟩ = some (.string (mkS r[i]))) := by
              show ∀ i (hi : i < r.length), _
              intro i hi
              exact hg2.cell (hre.out i hi) (by simp; omega)
            clear hRe hble hze hre hAc hg2 e0
            have e0 := hAd.cell 0
            simp at e0
            go_upto_if 92 with (go_at_call 28; refine (hasText_any K _).mono ?_; rintro e w9 ⟨rfl, rfl⟩; rw [hB3.out])
            go_cut [7, 8] (fun q7 q8 w' => ∃ (b : Bool) (vx : ByteArray), q7 = .int .i64 m3 ∧ q8 = .bool b ∧ Blk w' w2.heap.size 37 #[.int .i64 K, .int .i64 vN, .int .i64 vP, .string vx] ∧ Hid ((b = true → bP = true ∧ textR K r = some vx.data.toList) ∧ (b = false → n = manyOf K → bP = false ∨ textR K r = none)) ∧ wf.grownBy w' (some w2.heap.size))
            case first =>
              cases B3
              · have hf : textR K r = some [] := by unfold textR; rw [hB3.out]; rfl
                obtain rfl : m2 = m3 := hm3.out
                go_wp2_with fail
                go_meet
                exact ⟨bP, ByteArray.empty, rfl, rfl, hAd, ⟨fun e => ⟨e, hf⟩, fun e _ => .inl e⟩, grownBy_refl _ _⟩
              · obtain rfl : m2 + 1 = m3 := hm3.out
                have hb12 : B1 = true ∧ B2 = false := by
                  have h1 := hB1.out
                  have h2 := hB2.out
                  have h3 := hB3.out
                  unfold hN at h1
                  unfold hP inB at h2
                  unfold hT at h3
                  rw [← h1, ← h2]
                  simp at h3 ⊢
                  omega
                obtain ⟨rfl, rfl⟩ := hb12
                have hm2v : m2 = 2 := by have a1 := hm1.out; have a2 := hm2.out; simp at a1 a2; omega
                subst hm2v
                by_cases hin : 2 < n + 1
                · have hjl : 1 < r.length := by have := hn.out; omega
                  obtain ⟨ra, hra⟩ : ∃ ra, Hid (r[1] = ra) := ⟨_, Lib.hid rfl⟩
                  obtain ⟨SA, hSA⟩ : ∃ S, Hid (mkS ra = S) := ⟨_, rfl⟩
                  have cA : wf.cell? ⟨bb, oo + 2, none⟩ = some (.string SA) := by rw [← hSA.out, ← hra.out]; exact hrf.out 1 hjl
                  have hzA : SA.size ≤ 1048576 := by rw [← hSA.out, mkS_size]; exact Hsb.out ra (by rw [← hra.out]; exact List.mem_cons_of_mem _ (List.getElem_mem hjl))
                  have hdA : SA.data.toList = ra := by rw [← hSA.out]; rfl
                  have Hnr : Hid (textR K r = unhexL SA.data.toList) := by
                    show _ = _
                    unfold textR
                    rw [hB3.out, if_pos rfl, List.getD_eq_getElem?_getD, List.getElem?_eq_getElem hjl, hra.out, hdA]; rfl
                  have hmb : (2 : Int) < (n : Int) + 1 := by omega
                  clear hdA
                  cases bP
                  · go_wp2_with fail
                    go_meet
                    exact ⟨false, ByteArray.empty, by go_num, rfl, hAd, ⟨(by intro e; cases e), fun _ _ => .inl trivial⟩, grownBy_refl _ _⟩
                  · go_wp2_with fail
                    refine (bytesOfHex_any SA hzA _).mono ?_
                    rintro e w8 ⟨⟨vx, bx, rfl, hm⟩, hb8⟩
                    have hA8 := hAd.kept hb8
                    have hx3 := hA8.cell 3
                    have hxf := hA8.frozen 3
                    simp at hx3
                    obtain ⟨k1, k2⟩ := blk_setCell hA8 3 (.string vx)
                    have Hm := Lib.hid hm
                    have hlt8 := hA8.lt
                    clear hm
                    go_wp2_with fail
                    go_meet
                    refine ⟨bx, vx, by go_num, rfl, k1, ⟨fun e => ⟨trivial, ?_⟩, fun e _ => .inr ?_⟩, grownBy_trans (grownBy_below _ hb8) k2⟩
                    · rw [Hnr.out]
                      have hm := Hm.out
                      cases hu : unhexL SA.data.toList with
                      | none => rw [hu] at hm; rw [e] at hm; cases hm
                      | some t => rw [hu] at hm; rw [hm.1]; rfl
                    · rw [Hnr.out]
                      have hm := Hm.out
                      cases hu : unhexL SA.data.toList with
                      | none => rfl
                      | some t => rw [hu] at hm; rw [e] at hm; cases hm.2
                · have hno : b0_no n K := fun e => by
                    have q := hmn.out
                    simp at q
                    omega
                  have hmb : ¬ (2 : Int) < (n : Int) + 1 := by omega
                  go_wp2_with fail
                  go_meet
                  exact ⟨false, ByteArray.empty, by go_num, rfl, hAd, ⟨(by intro e; cases e), fun _ e => absurd e hno⟩, grownBy_refl _ _⟩
            case rest =>
              obtain ⟨bT, vT, rfl, rfl, hAe, hN3, hg3⟩ := hcut
              obtain ⟨wg, hwg⟩ : ∃ wg : World, wg = wc := ⟨_, rfl⟩
              subst hwg
              have hRg := hRf.grown hg3 (by simp; omega)
              have hblg : Below w.heap.size w wg := below_grownBy hblf (by have := hblf.size; omega) hg3 (by intro j e; injection e; omega)
              clear hRf hblf hzf hrf hAd hg3 e0
              have e0 := hAe.cell 0; have e1 := hAe.cell 1; have e2 := hAe.cell 2; have e3 := hAe.cell 3
              simp at e0 e1 e2 e3
              have hfin : ∃ fl : Bool, Hid (fl = (bT && decide (m3 = n + 1))) ∧ okOf O ⟨K, vN, vP, vT⟩ fl := by
                refine ⟨_, rfl, ?_⟩
                have hO4 := HO3.out
                by_cases hnm : n = manyOf K
                · rw [if_neg (fun e => e hnm)] at hO4
                  rw [decide_eq_true (by rw [hm31.out, hnm]; omega), Bool.and_true, hO4]
                  unfold actR
                  cases bT
                  · rcases hN3.out.2 rfl hnm with e | e
                    · rcases hN2.out.2 e hnm with e | e
                      · rw [hN1.out.2 e hnm]; rfl
                      · rw [e]; cases nodeR numRo K r <;> rfl
                    · rw [e]; cases nodeR numRo K r <;> cases pickR numRo K r <;> rfl
                  · obtain ⟨q1, q2⟩ := hN3.out.1 rfl
                    obtain ⟨q3, q4⟩ := hN2.out.1 q1
                    rw [hN1.out.1 q3, q4, q2]
                    exact ⟨rfl, rfl⟩
                · rw [if_pos hnm] at hO4
                  rw [decide_eq_false (by rw [hm31.out]; omega), Bool.and_false, hO4]
                  rfl
              obtain ⟨fl, hfl, hmO⟩ := hfin
              have HmO := Lib.hid hmO
              clear hmO hN1 hN2 hN3 HO3 hm1 hm2 hm3 hm31 hmn hB1 hB2 hB3
              by_cases hme : m3 = n + 1
              · have hb1 : ((m3 : Int) == (n : Int) + 1) = true := by simp; omega
                have hfl2 : Hid (fl = bT) := by show _ = _; rw [hfl.out, decide_eq_true hme, Bool.and_true]
                clear hfl hme
                cases bT
                all_goals
                  go_wp2_with (refine wpList_store_whole (n := 4) rfl rfl rfl rfl (by kernel_rfl) rfl hRg rfl rfl ?_)
                  intro w9 hR9 hg9
                  go_wp2
                  refine bodyPost_ret (results_blk_tmp rfl rfl (by kernel_rfl) (by kernel_rfl) hR9 rfl) rfl ?_
                  exact ⟨⟨_, _, _, _, _, rfl, by have h := HmO.out; rw [hfl2.out] at h; exact h⟩, below_grownBy hblg (by have := hblg.size; omega) hg9 (by intro j e; injection e; omega)⟩
              · have hb1 : ((m3 : Int) == (n : Int) + 1) = false := by rw [beq_eq_false_iff_ne]; omega
                have hfl2 : Hid (fl = false) := by show _ = _; rw [hfl.out, decide_eq_false hme, Bool.and_false]
                clear hfl
                cases bT
                all_goals
                  go_wp2_with (refine wpList_store_whole (n := 4) rfl rfl rfl rfl (by kernel_rfl) rfl hRg rfl rfl ?_)
                  intro w9 hR9 hg9
                  go_wp2
                  refine bodyPost_ret (results_blk_tmp rfl rfl (by kernel_rfl) (by kernel_rfl) hR9 rfl) rfl ?_
                  exact ⟨⟨_, _, _, _, _, rfl, by have h := HmO.out; rw [hfl2.out] at h; exact h⟩, below_grownBy hblg (by have := hblg.size; omega) hg9 (by intro j e; injection e; omega)⟩
end Ln
end Go.Proofs.YtbcoecmeoemmeaaDoor
