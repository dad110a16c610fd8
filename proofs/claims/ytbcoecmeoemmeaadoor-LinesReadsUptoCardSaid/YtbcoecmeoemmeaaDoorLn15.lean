/- The program reads one line. -/
import Derived.Test.YtbcoecmeoemmeaaDoorLn14
namespace Go.Proofs.YtbcoecmeoemmeaaDoor
open Go.ChangeShapes Go.WideShapes Go.ChangeAt Go.RowKit
set_option linter.unusedVariables false
set_option linter.unusedSimpArgs false
namespace Ln
theorem three_blks (w : World) (c1 c2 c3 : Array Value) (t1 t2 t3 : TypeId) (R : World → Prop)
    (h : ∀ W, Blk W w.heap.size t1 c1 → Blk W (w.heap.size + 1) t2 c2 → Blk W (w.heap.size + 2) t3 c3 → W.heap.size = w.heap.size + 3 → Below w.heap.size w W → R W) : R (((w.alloc (.cells c1 t1)).alloc (.cells c2 t2)).alloc (.cells c3 t3)) := by
  refine h _ (((Blk.new w t1 c1).alloc _).alloc _) ?_ ?_ (by simp) ((((Below.refl _ _).alloc (Nat.le_refl _) _).alloc (le_alloc _ (Nat.le_refl _)) _).alloc (le_alloc _ (le_alloc _ (Nat.le_refl _))) _)
  · have := (Blk.new (w.alloc (.cells c1 t1)) t2 c2).alloc (.cells c3 t3)
    simpa using this
  · have := Blk.new ((w.alloc (.cells c1 t1)).alloc (.cells c2 t2)) t3 c3
    simpa using this
theorem spl_part (c : UInt8) (l : List UInt8) : ∀ x ∈ spl c l, x.length ≤ l.length := by
  induction l with
  | nil => intro x hx; simp [spl] at hx; subst hx; exact Nat.le_refl _
  | cons b l ih =>
    intro x hx
    unfold spl at hx
    split at hx
    · rcases List.mem_cons.1 hx with rfl | h
      · simp
      · have := ih x h; simp; omega
    · split at hx
      · rename_i h t e
        rcases List.mem_cons.1 hx with rfl | h1
        · have := ih h (by rw [e]; simp)
          simp; omega
        · have := ih x (by rw [e]; simp [h1])
          simp; omega
      · simp at hx; subst hx; simp
theorem index_words (S : Nat → ByteArray) (j : Nat) (hj : j < 11) (w : World) : (Instr.index 45 (.agg #[.string (S 0), .string (S 1), .string (S 2), .string (S 3), .string (S 4), .string (S 5), .string (S 6), .string (S 7), .string (S 8), .string (S 9), .string (S 10)]) (.int .i64 j)).run Tryd.prog w = .ok (.string (S j)) w :=
  match j, hj with
  | 0, _ => by kernel_rfl
  | 1, _ => by kernel_rfl
  | 2, _ => by kernel_rfl
  | 3, _ => by kernel_rfl
  | 4, _ => by kernel_rfl
  | 5, _ => by kernel_rfl
  | 6, _ => by kernel_rfl
  | 7, _ => by kernel_rfl
  | 8, _ => by kernel_rfl
  | 9, _ => by kernel_rfl
  | 10, _ => by kernel_rfl
theorem index_bools (a b c : Bool) (S : Nat → Bool) (h0 : S 0 = a) (h1 : S 1 = b) (h2 : S 2 = c) (j : Nat) (hj : j < 3) (w : World) : (Instr.index 62 (.agg #[.bool a, .bool b, .bool c]) (.int .i64 j)).run Tryd.prog w = .ok (.bool (S j)) w :=
  match j, hj with
  | 0, _ => by rw [h0]; kernel_rfl
  | 1, _ => by rw [h1]; kernel_rfl
  | 2, _ => by rw [h2]; kernel_rfl
theorem run_equalIn_bools (a b c x y z : Bool) (w : World) : (Op.equalIn 10000 62 (.agg #[.bool a, .bool b, .bool c]) (.agg #[.bool x, .bool y, .bool z])).run Tryd.prog w = .ok (a == x && (b == y && c == z)) w := by
  cases a <;> cases b <;> cases c <;> cases x <;> cases y <;> cases z <;> kernel_rfl
theorem mkS_nil : mkS [] = ByteArray.empty := rfl
def cntTo (S : Nat → Bool) : Nat → Nat
  | 0 => 0
  | k + 1 => if S k then cntTo S k + 1 else cntTo S k
theorem cntTo_le (S : Nat → Bool) : ∀ k, cntTo S k ≤ k
  | 0 => Nat.le_refl _
  | k + 1 => by have := cntTo_le S k; unfold cntTo; split <;> omega
def hasS (K : Int) (j : Nat) : Bool := if j = 0 then hN K else if j = 1 then hP K else hT K
theorem cnt_many (K : Int) : cntTo (hasS K) 3 = manyOf K := by
  unfold manyOf
  simp only [cntTo, hasS]
  cases hN K <;> cases hP K <;> cases hT K <;> rfl
def zeroAct : Array Value := #[.int .i64 0, .int .i64 0, .int .i64 0, .string ByteArray.empty]
set_option maxHeartbeats 8000000 in
set_option maxRecDepth 100000 in
theorem one_any (s : ByteArray) (hs : s.size ≤ 1048576) (w : World) (hE : Env w) : Calls Tryd.prog 20 #[.string s] w (OneOut (lineG numP s.data.toList) w) := by
  obtain ⟨O, hO⟩ : ∃ O, Hid (lineG numP s.data.toList = O) := ⟨_, rfl⟩
  have hO2 := hO.out
  unfold lineG at hO2
  rw [hO.out]
  clear hO
  have hsp := split_any s hs
  have hne := spl_ne 32 s.data.toList
  have hsl := spl_len 32 s.data.toList
  have hsb : ∀ x ∈ spl 32 s.data.toList, x.length ≤ 1048576 := fun x hx => by
    have := spl_part 32 s.data.toList x hx
    have : s.data.toList.length = s.size := Array.length_toList
    omega
  have hll : s.data.toList.length = s.size := Array.length_toList
  rw [hll] at hsl
  obtain ⟨ps, hps⟩ : ∃ ps, spl 32 s.data.toList = ps := ⟨_, rfl⟩
  rw [hps] at hO2 hsp hne hsl hsb
  cases ps with
  | nil => exact absurd rfl hne
  | cons p0 r =>
  have Hsp := Lib.hid hsp
  obtain ⟨P0, hP0⟩ : ∃ P, Hid (mkS p0 = P) := ⟨_, rfl⟩
  have HO : Hid (O = if kindOf p0 = 0 ∨ r.length ≠ manyOf (kindOf p0) then none else actR numP (kindOf p0) r) := hO2.symm
  obtain ⟨n, hn⟩ : ∃ n, Hid (r.length = n) := ⟨_, rfl⟩
  have Hsb := Lib.hid hsb
  have hn2 : n ≤ 1048576 := by have := hn.out; simp at hsl; omega
  clear hsp hne hsl hsb hps hO2 hll
  go_enter Tryd.func20, Tryd.ntmps20
  go_wp2_with fail
  refine (Hsp.out _ (hE.kept (below_one _ _))).mono ?_
  rintro e w2 ⟨rfl, rfl⟩
  rw [show (p0 :: r).length = n + 1 by simp [hn.out]]
  go_upto_region 3 with fail
  refine three_blks _ _ _ _ _ _ _ (fun W => Code.wp _ _ _ _ W) (fun W hR hP hA hsz hb => ?_)
  have hEW := hE.kept hb
  have p0c : W.cell? ⟨w.heap.size + 1, 0, none⟩ = some (.string P0) := by
    rw [hP.cell 0, ← hP0.out]
    rfl
  have hpl := hP.lt
  obtain ⟨WS, hWS⟩ : ∃ WS : Nat → ByteArray, Hid (∀ k, k < 11 → WS k = mkS (wordL k)) := ⟨fun k => mkS (wordL k), fun k _ => rfl⟩
  have hw : ∀ k, k < 11 → W.cell? ⟨0, k, none⟩ = some (.string (WS k)) := fun k hk => by rw [hWS.out k hk]; exact hEW.words k hk
  have w0 := hw 0 (by decide); have w1 := hw 1 (by decide); have w2 := hw 2 (by decide); have w3 := hw 3 (by decide); have w4 := hw 4 (by decide); have w5 := hw 5 (by decide); have w6 := hw 6 (by decide); have w7 := hw 7 (by decide); have w8 := hw 8 (by decide); have w9 := hw 9 (by decide); have w10 := hw 10 (by decide)
  have hEq : Hid (∀ k, k < 11 → (((WS k).toList == P0.toList) = decide (wordL k = p0))) := by
    show ∀ k, k < 11 → (((WS k).toList == P0.toList) = decide (wordL k = p0))
    intro k hk
    rw [hWS.out k hk, ← hP0.out, ByteArray.toList_eq, ByteArray.toList_eq, Bool.eq_iff_iff]
    simp [mkS]
  clear hw
  have hq0 := hA.cell 0
  go_wp2
  clear w0 w1 w2 w3 w4 w5 w6 w7 w8 w9 w10 hq0
  obtain ⟨AG, hAG⟩ : ∃ AG, Hid (Value.agg #[.string (WS 0), .string (WS 1), .string (WS 2), .string (WS 3), .string (WS 4), .string (WS 5), .string (WS 6), .string (WS 7), .string (WS 8), .string (WS 9), .string (WS 10)] = AG) := ⟨_, rfl⟩
  rw [hAG.out]
  have hix : Hid (∀ j, j < 11 → ∀ w, (Instr.index 45 AG (.int .i64 (j : Nat))).run Tryd.prog w = .ok (.string (WS j)) w) := by
    show ∀ j, j < 11 → ∀ w, _
    intro j hj w
    rw [← hAG.out]
    exact index_words WS j hj w
  go_loopw [18] (fun i wr => ∃ (k : Nat) (K : Int), k ≤ 11 ∧ i = .int .i64 k ∧ Hid (K = kindTo p0 k) ∧ Blk wr (w.heap.size + 2) 37 #[.int .i64 K, .int .i64 0, .int .i64 0, .string ByteArray.empty] ∧ W.grownBy wr (some (w.heap.size + 2))) (fun i _ => 11 - (intOf i).toNat)
  case atStart => exact ⟨0, 0, by decide, rfl, rfl, hA, grownBy_refl _ _⟩
  case round =>
    obtain ⟨k, K, hk, rfl, hK, hAr, hg⟩ := hrel
    have hp0r := (hP.grown hg (by simp)).cell 0
    rw [hP.cell 0 |>.symm, p0c] at hp0r
    have ha0 := hAr.cell 0
    have haf := hAr.frozen 0
    simp at ha0
    by_cases hlt : k < 11
    · have hkt : kindTo p0 (k + 1) = if 0 < k ∧ wordL k = p0 then (k : Int) else kindTo p0 k := rfl
      by_cases hq : 0 < k ∧ wordL k = p0
      · have hpos := hq.1
        have heq : ((WS k).toList == P0.toList) = true := by rw [hEq.out k hlt]; simpa using hq.2
        have hK2 : Hid ((k : Int) = kindTo p0 (k + 1)) := by show _ = _; rw [hkt, if_pos hq]
        obtain ⟨k1, k2⟩ := blk_setCell hAr 0 (.int .i64 k)
        clear hkt hq
        have hi := hix.out k hlt
        go_wp2
        go_roundw
        case rel => exact ⟨k + 1, _, by omega, by go_num, hK2, k1, grownBy_trans hg k2⟩
        case measure => simp [intOf]; omega
      · have hK2 : Hid (K = kindTo p0 (k + 1)) := by show _ = _; rw [hkt, if_neg hq]; exact hK.out
        by_cases hpos : 0 < k
        · have heq : ((WS k).toList == P0.toList) = false := by
            rw [hEq.out k hlt]
            exact decide_eq_false (fun e => hq ⟨hpos, e⟩)
          clear hkt hq
          have hi := hix.out k hlt
          go_wp2
          go_roundw
          case rel => exact ⟨k + 1, _, by omega, by go_num, hK2, hAr, hg⟩
          case measure => simp [intOf]; omega
        · clear hkt hq
          have hi := hix.out k hlt
          go_wp2
          go_roundw
          case rel => exact ⟨k + 1, _, by omega, by go_num, hK2, hAr, hg⟩
          case measure => simp [intOf]; omega
    · obtain rfl : k = 11 := by omega
      replace hK : Hid (K = kindOf p0) := hK
      have hRr := hR.grown hg (by simp)
      have hPr := hP.grown hg (by simp)
      have hbl : Below w.heap.size w wr := below_grownBy hb (by have := hb.size; omega) hg (by intro j e; injection e; omega)
      have hzr : w.heap.size + 3 ≤ wr.heap.size := by have := hg.size; omega
      have HO2 : Hid (O = if K = 0 ∨ n ≠ manyOf K then none else actR numP K r) := by show _ = _; rw [HO.out, hK.out, hn.out]
      have hKr : 0 ≤ K ∧ K ≤ 10 := by rw [hK.out]; exact kindOf_rng p0
      clear hK HO ha0 haf hp0r hA hR hP hg hEq hix hWS hlt hk p0c hpl hEW
      obtain ⟨wd, hwd⟩ : ∃ wd : World, wd = wr := ⟨_, rfl⟩
      subst hwd
      obtain ⟨hK0, hK1⟩ := hKr
      have ha0 := hAr.cell 0
      have haf := hAr.frozen 0
      simp at ha0
      have hBG : Hid (∀ j, j < 3 → ∀ w, (Instr.index 62 (.agg #[.bool (hN K), .bool (hP K), .bool (hT K)]) (.int .i64 (j : Nat))).run Tryd.prog w = .ok (.bool (hasS K j)) w) := fun j hj w => index_bools _ _ _ (hasS K) rfl rfl rfl j hj w
      obtain ⟨B1, hB1⟩ : ∃ b, Hid (hN K = b) := ⟨_, rfl⟩
      obtain ⟨B2, hB2⟩ : ∃ b, Hid (hP K = b) := ⟨_, rfl⟩
      obtain ⟨B3, hB3⟩ : ∃ b, Hid (hT K = b) := ⟨_, rfl⟩
      rw [hB1.out, hB2.out, hB3.out] at hBG
      obtain ⟨BG, hBGq⟩ : ∃ BG, Hid (Value.agg #[.bool B1, .bool B2, .bool B3] = BG) := ⟨_, rfl⟩
      rw [hBGq.out] at hBG
      rcases Nat.eq_zero_or_pos n with rfl | hnp
      · go_wp2_with fail
        refine (has_any K _).mono ?_
        rintro e w9 ⟨rfl, rfl⟩
        rw [hB1.out, hB2.out, hB3.out]
        go_wp2
        rw [hBGq.out]
        go_loopw [11, 47] (fun mv i wr => ∃ k m : Nat, k ≤ 3 ∧ i = .int .i64 k ∧ mv = .int .i64 m ∧ Hid (m = cntTo (hasS K) k) ∧ m ≤ k ∧ wd = wr) (fun _ i _ => 3 - (intOf i).toNat)
        case atStart => exact ⟨0, 0, by decide, rfl, rfl, rfl, Nat.le_refl _, rfl⟩
        case round =>
          obtain ⟨k, m, hk, rfl, rfl, hm, hmk, rfl⟩ := hrel
          by_cases hlt : k < 3
          · have hi := hBG.out k hlt
            cases hsk : hasS K k
            · rw [hsk] at hi
              have hm2 : Hid (m = cntTo (hasS K) (k + 1)) := by show _ = _; unfold cntTo; rw [hsk]; exact hm.out
              clear hsk
              go_wp2
              go_roundw
              case rel => exact ⟨k + 1, m, by omega, by go_num, rfl, hm2, by omega, trivial⟩
              case measure => simp [intOf]; omega
            · rw [hsk] at hi
              have hm2 : Hid (m + 1 = cntTo (hasS K) (k + 1)) := by show _ = _; unfold cntTo; rw [hsk, if_pos rfl, ← hm.out]
              clear hsk
              go_wp2
              go_roundw
              case rel => exact ⟨k + 1, m + 1, by omega, by go_num, by go_num, hm2, by omega, trivial⟩
              case measure => simp [intOf]; omega
          · obtain rfl : k = 3 := by omega
            have hmm : Hid (m = manyOf K) := by show _ = _; rw [hm.out, cnt_many]
            clear hm hlt hBG hBGq
            by_cases hbad : K = 0 ∨ 0 ≠ m
            · have hO3 : O = none := by
                rw [HO2.out, if_pos]
                exact hbad.imp id (fun e q => e (q.trans hmm.out.symm))
              have ha1 := hAr.cell 1
              have ha2 := hAr.cell 2
              have ha3 := hAr.cell 3
              simp at ha1 ha2 ha3
              rcases hbad with hz | hnm
              · have hzb : (K == 0) = true := by rw [hz]; rfl
                clear HO2
                go_wp2_with (refine wpList_store_whole (n := 4) rfl rfl rfl rfl (by kernel_rfl) rfl hRr rfl rfl ?_)
                intro w9 hR9 hg9
                go_wp2
                refine bodyPost_ret (results_blk_tmp rfl rfl (by kernel_rfl) (by kernel_rfl) hR9 rfl) rfl ?_
                exact ⟨⟨_, _, _, _, _, rfl, by rw [hO3]⟩, below_grownBy hbl (by have := hbl.size; omega) hg9 (by intro j e; injection e; omega)⟩
              · by_cases hz : K = 0
                · have hzb : (K == 0) = true := by rw [hz]; rfl
                  clear HO2
                  go_wp2_with (refine wpList_store_whole (n := 4) rfl rfl rfl rfl (by kernel_rfl) rfl hRr rfl rfl ?_)
                  intro w9 hR9 hg9
                  go_wp2
                  refine bodyPost_ret (results_blk_tmp rfl rfl (by kernel_rfl) (by kernel_rfl) hR9 rfl) rfl ?_
                  exact ⟨⟨_, _, _, _, _, rfl, by rw [hO3]⟩, below_grownBy hbl (by have := hbl.size; omega) hg9 (by intro j e; injection e; omega)⟩
                · have hzb : (K == 0) = false := by simpa using hz
                  have hnb : (((0 : Nat) : Int) != (m : Int)) = true := by simp; omega
                  have hnb2 : ((m : Int) != ((0 : Nat) : Int)) = true := by simp; omega
                  clear HO2
                  go_wp2_with (refine wpList_store_whole (n := 4) rfl rfl rfl rfl (by kernel_rfl) rfl hRr rfl rfl ?_)
                  intro w9 hR9 hg9
                  go_wp2
                  refine bodyPost_ret (results_blk_tmp rfl rfl (by kernel_rfl) (by kernel_rfl) hR9 rfl) rfl ?_
                  exact ⟨⟨_, _, _, _, _, rfl, by rw [hO3]⟩, below_grownBy hbl (by have := hbl.size; omega) hg9 (by intro j e; injection e; omega)⟩
            · have hz : K ≠ 0 := fun e => hbad (.inl e)
              have hnm : 0 = m := Classical.byContradiction fun e => hbad (.inr e)
              subst hnm
              have hzb : (K == 0) = false := by simpa using hz
              have HO3 : Hid (O = actR numP K r) := by
                show _ = _
                rw [HO2.out, if_neg]
                rintro (e | e)
                · exact hz e
                · exact e hmm.out
              clear HO2 hbad
              cases B1 <;> cases B2 <;> cases B3
              all_goals
                have hmv := hmm.out
                unfold manyOf at hmv
                rw [hB1.out, hB2.out, hB3.out] at hmv
                first | (exfalso; simp at hmv; done) | (exfalso; simp at hmv; omega) | clear hmv
              · obtain rfl : r = [] := by
                  exact List.eq_nil_of_length_eq_zero (by have := hn.out; omega)
                have hOk := Blk.new wd 62 #[.bool false, .bool false, .bool false]
                have hb9 := below_one wd (.cells #[.bool false, .bool false, .bool false] 62)
                replace hRr := hRr.kept hb9; replace hPr := hPr.kept hb9; replace hAr := hAr.kept hb9; replace hbl := hbl.trans (hb9.mono hbl.size)
                go_wp2_with fail
                refine wp_region_pl0 (fun w' => Below ((wd.alloc (.cells #[.bool false, .bool false, .bool false] 62))).heap.size ((wd.alloc (.cells #[.bool false, .bool false, .bool false] 62))) w') (fun w' => ((wd.alloc (.cells #[.bool false, .bool false, .bool false] 62))).grownBy w' (some w.heap.size)) [8] (.q 0 (.q 1 (.q 2 (.q 3 (.q 4 (.q 5 (.q 6 (.l 7 (.qc 8 .nil))))))))) (by kernel_rfl) (by kernel_rfl) (fun _ _ d _ _ h => by cases d <;> exact h) rfl (by kernel_rfl) ?_ ?_
                · exact ⟨below_drew _, grownBy_drew _ _⟩
                intro X hS0 hS1
                have hS := hS1
                have hRX := hRr.kept hS0
                repeat (first
                  | (refine pl_q (by assumption) rfl rfl ?_; apply Exists.intro; refine ⟨fun w' hS => ?_, ?_⟩; (· (have he := run_equalIn_bools false false false false false false w'; have ha := hAr.grown hS (by simp); have hk := hOk.grown hS (by first | (simp; done) | (simp; omega)); have a0 := ha.cell 0; have a1 := ha.cell 1; have a2 := ha.cell 2; have a3 := ha.cell 3; have k0 := hk.cell 0; have k1 := hk.cell 1; have k2 := hk.cell 2; simp at a0 a1 a2 a3 k0 k1 k2; go_simp; exact rfl)); simp only [List.getElem_toArray, List.getElem_cons_zero, List.getElem_cons_succ, Act.put, List.setIfInBounds_toArray, List.set_cons_zero, List.set_cons_succ])
                  | (refine pl_qc rfl rfl ?_; apply Exists.intro; refine ⟨fun w' _ => ?_, ?_⟩; (· (go_simp; exact rfl)); simp only [List.getElem_toArray, List.getElem_cons_zero, List.getElem_cons_succ, Act.put, List.setIfInBounds_toArray, List.set_cons_zero, List.set_cons_succ])
                  | (refine pl_skip (by assumption) rfl rfl ?_; simp only [List.getElem_toArray, List.getElem_cons_zero, List.getElem_cons_succ, Act.put, List.setIfInBounds_toArray, List.set_cons_zero, List.set_cons_succ])
                  | (refine pl_skipl (by assumption) rfl rfl ?_; simp only [List.getElem_toArray, List.getElem_cons_zero, List.getElem_cons_succ, Act.put, List.setIfInBounds_toArray, List.set_cons_zero, List.set_cons_succ]))
                first
                  | refine pl_do rfl rfl (fun K hK => ?_)
                  | refine op_do rfl rfl (fun K hK => ?_)
                try simp only [List.getElem_toArray, List.getElem_cons_zero, List.getElem_cons_succ]
                refine wp_store_whole (n := 4) rfl rfl rfl (by kernel_rfl) rfl hRX rfl rfl ?_
                intro X2 hR2 hg2
                refine hK.out _ _ (grownBy_trans hS1 hg2) (fun hS => ?_)
                clear hK K
                try simp only [List.getElem_toArray, List.getElem_cons_zero, List.getElem_cons_succ, Act.put, List.setIfInBounds_toArray, List.set_cons_zero, List.set_cons_succ]
                repeat (first
                  | (refine pl_q (by assumption) rfl rfl ?_; apply Exists.intro; refine ⟨fun w' hS => ?_, ?_⟩; (· (skip; go_simp; exact rfl)); simp only [List.getElem_toArray, List.getElem_cons_zero, List.getElem_cons_succ, Act.put, List.setIfInBounds_toArray, List.set_cons_zero, List.set_cons_succ])
                  | (refine pl_qc rfl rfl ?_; apply Exists.intro; refine ⟨fun w' _ => ?_, ?_⟩; (· (go_simp; exact rfl)); simp only [List.getElem_toArray, List.getElem_cons_zero, List.getElem_cons_succ, Act.put, List.setIfInBounds_toArray, List.set_cons_zero, List.set_cons_succ])
                  | (refine pl_skip (by assumption) rfl rfl ?_; simp only [List.getElem_toArray, List.getElem_cons_zero, List.getElem_cons_succ, Act.put, List.setIfInBounds_toArray, List.set_cons_zero, List.set_cons_succ])
                  | (refine pl_skipl (by assumption) rfl rfl ?_; simp only [List.getElem_toArray, List.getElem_cons_zero, List.getElem_cons_succ, Act.put, List.setIfInBounds_toArray, List.set_cons_zero, List.set_cons_succ]))
                refine pl_nil ?_
                go_wp2
                refine bodyPost_ret (results_blk_tmp rfl rfl (by kernel_rfl) (by kernel_rfl) hR2 rfl) rfl ?_
                refine ⟨⟨_, _, _, _, _, rfl, ?_⟩, below_grownBy (hbl.trans (hS0.mono hbl.size)) (by have := hbl.size; have := hS0.size; omega) hg2 (by intro j e; injection e; omega)⟩
                rw [HO3.out]
                simp only [actR, nodeR, pickR, textR, hB1.out, hB2.out, hB3.out, if_true, if_false, Bool.false_eq_true, List.getD_cons_zero, List.getD_cons_succ]
                simp [mkS_data]; rfl
      · go_wp2_with fail
        refine (has_any K _).mono ?_
        rintro e w9 ⟨rfl, rfl⟩
        rw [hB1.out, hB2.out, hB3.out]
        go_wp2
        rw [hBGq.out]
        go_loopw [11, 47] (fun mv i wr => ∃ k m : Nat, k ≤ 3 ∧ i = .int .i64 k ∧ mv = .int .i64 m ∧ Hid (m = cntTo (hasS K) k) ∧ m ≤ k ∧ wd = wr) (fun _ i _ => 3 - (intOf i).toNat)
        case atStart => exact ⟨0, 0, by decide, rfl, rfl, rfl, Nat.le_refl _, rfl⟩
        case round =>
          obtain ⟨k, m, hk, rfl, rfl, hm, hmk, rfl⟩ := hrel
          by_cases hlt : k < 3
          · have hi := hBG.out k hlt
            cases hsk : hasS K k
            · rw [hsk] at hi
              have hm2 : Hid (m = cntTo (hasS K) (k + 1)) := by show _ = _; unfold cntTo; rw [hsk]; exact hm.out
              clear hsk
              go_wp2
              go_roundw
              case rel => exact ⟨k + 1, m, by omega, by go_num, rfl, hm2, by omega, trivial⟩
              case measure => simp [intOf]; omega
            · rw [hsk] at hi
              have hm2 : Hid (m + 1 = cntTo (hasS K) (k + 1)) := by show _ = _; unfold cntTo; rw [hsk, if_pos rfl, ← hm.out]
              clear hsk
              go_wp2
              go_roundw
              case rel => exact ⟨k + 1, m + 1, by omega, by go_num, by go_num, hm2, by omega, trivial⟩
              case measure => simp [intOf]; omega
          · obtain rfl : k = 3 := by omega
            have hmm : Hid (m = manyOf K) := by show _ = _; rw [hm.out, cnt_many]
            clear hm hlt hBG hBGq
            by_cases hbad : K = 0 ∨ n ≠ m
            · have hO3 : O = none := by
                rw [HO2.out, if_pos]
                exact hbad.imp id (fun e q => e (q.trans hmm.out.symm))
              have ha1 := hAr.cell 1
              have ha2 := hAr.cell 2
              have ha3 := hAr.cell 3
              simp at ha1 ha2 ha3
              rcases hbad with hz | hnm
              · have hzb : (K == 0) = true := by rw [hz]; rfl
                clear HO2
                go_wp2_with (refine wpList_store_whole (n := 4) rfl rfl rfl rfl (by kernel_rfl) rfl hRr rfl rfl ?_)
                intro w9 hR9 hg9
                go_wp2
                refine bodyPost_ret (results_blk_tmp rfl rfl (by kernel_rfl) (by kernel_rfl) hR9 rfl) rfl ?_
                exact ⟨⟨_, _, _, _, _, rfl, by rw [hO3]⟩, below_grownBy hbl (by have := hbl.size; omega) hg9 (by intro j e; injection e; omega)⟩
              · by_cases hz : K = 0
                · have hzb : (K == 0) = true := by rw [hz]; rfl
                  clear HO2
                  go_wp2_with (refine wpList_store_whole (n := 4) rfl rfl rfl rfl (by kernel_rfl) rfl hRr rfl rfl ?_)
                  intro w9 hR9 hg9
                  go_wp2
                  refine bodyPost_ret (results_blk_tmp rfl rfl (by kernel_rfl) (by kernel_rfl) hR9 rfl) rfl ?_
                  exact ⟨⟨_, _, _, _, _, rfl, by rw [hO3]⟩, below_grownBy hbl (by have := hbl.size; omega) hg9 (by intro j e; injection e; omega)⟩
                · have hzb : (K == 0) = false := by simpa using hz
                  have hnb : (((n : Nat) : Int) != (m : Int)) = true := by simp; omega
                  have hnb2 : ((m : Int) != ((n : Nat) : Int)) = true := by simp; omega
                  clear HO2
                  go_wp2_with (refine wpList_store_whole (n := 4) rfl rfl rfl rfl (by kernel_rfl) rfl hRr rfl rfl ?_)
                  intro w9 hR9 hg9
                  go_wp2
                  refine bodyPost_ret (results_blk_tmp rfl rfl (by kernel_rfl) (by kernel_rfl) hR9 rfl) rfl ?_
                  exact ⟨⟨_, _, _, _, _, rfl, by rw [hO3]⟩, below_grownBy hbl (by have := hbl.size; omega) hg9 (by intro j e; injection e; omega)⟩
            · have hz : K ≠ 0 := fun e => hbad (.inl e)
              have hnm : n = m := Classical.byContradiction fun e => hbad (.inr e)
              subst hnm
              have hzb : (K == 0) = false := by simpa using hz
              have HO3 : Hid (O = actR numP K r) := by
                show _ = _
                rw [HO2.out, if_neg]
                rintro (e | e)
                · exact hz e
                · exact e hmm.out
              clear HO2 hbad
              cases B1 <;> cases B2 <;> cases B3
              all_goals
                have hmv := hmm.out
                unfold manyOf at hmv
                rw [hB1.out, hB2.out, hB3.out] at hmv
                first | (exfalso; simp at hmv; done) | (exfalso; simp at hmv; omega) | clear hmv
              · exfalso
                have h1 := hB1.out
                have h2 := hB2.out
                have h3 := hB3.out
                unfold hN at h1
                unfold hP inB at h2
                unfold hT at h3
                simp at h1 h2 h3
                omega
              · obtain rfl : n = 1 := by have h := hmm.out; unfold manyOf at h; rw [hB1.out, hB2.out, hB3.out] at h; simpa using h
                obtain ⟨ra, rfl⟩ : ∃ ra, r = [ra] := by
                  have hrl : r.length = 1 := by have := hn.out; omega
                  match r, hrl with
                  | [ra], _ => exact ⟨ra, rfl⟩
                obtain ⟨Sra, hSra⟩ : ∃ S, Hid (mkS ra = S) := ⟨_, rfl⟩
                have hzra : Sra.size ≤ 1048576 := by rw [← hSra.out, mkS_size]; exact Hsb.out ra (by simp)
                have hdra : Hid (Sra.data.toList = ra) := by show _ = _; rw [← hSra.out]; rfl
                have hOk := Blk.new wd 62 #[.bool false, .bool false, .bool false]
                have hb9 := below_one wd (.cells #[.bool false, .bool false, .bool false] 62)
                replace hRr := hRr.kept hb9; replace hPr := hPr.kept hb9; replace hAr := hAr.kept hb9; replace hbl := hbl.trans (hb9.mono hbl.size)
                have cra : (wd.alloc (.cells #[.bool false, .bool false, .bool false] 62)).cell? ⟨w.heap.size + 1, 1, none⟩ = some (.string Sra) := by rw [hPr.cell 1, ← hSra.out]; rfl
                go_wp2_with fail
                refine (number_any Sra hzra _ (hE.kept hbl)).mono ?_
                rintro e x1 ⟨vp, bp, rfl, htbp, hfbp, hbw⟩
                replace hRr := hRr.kept hbw; replace hPr := hPr.kept hbw; replace hAr := hAr.kept hbw; replace hOk := hOk.kept hbw; replace hbl := hbl.trans (hbw.mono hbl.size)
                clear cra
                have cra : x1.cell? ⟨w.heap.size + 1, 1, none⟩ = some (.string Sra) := by rw [hPr.cell 1, ← hSra.out]; rfl
                go_wp2_with (refine wpList_store_blkL (n := 1) (v := .int .i64 vp) rfl rfl rfl rfl (by kernel_rfl) rfl hAr (Nat.le_of_ble_eq_true rfl) rfl ?_)
                intro x2 hq hg
                replace hq : Blk x2 (w.heap.size + 2) 37 #[.int .i64 K, .int .i64 0, .int .i64 vp, .string ByteArray.empty] := hq
                replace hRr := hRr.grown hg (by first | (simp; done) | (simp; omega))
                replace hPr := hPr.grown hg (by first | (simp; done) | (simp; omega))
                replace hOk := hOk.grown hg (by first | (simp; done) | (simp; omega))
                replace hAr := hq
                replace hbl := below_grownBy hbl (by have := hbl.size; omega) hg (by intro j e; injection e; omega)
                clear hg hq
                clear cra
                have cra : x2.cell? ⟨w.heap.size + 1, 1, none⟩ = some (.string Sra) := by rw [hPr.cell 1, ← hSra.out]; rfl
                go_wp2_with (refine wpList_store_blkL (n := 1) (v := .bool bp) rfl rfl rfl rfl (by kernel_rfl) rfl hOk (Nat.le_of_ble_eq_true rfl) rfl ?_)
                intro x3 hq hg
                replace hq : Blk x3 (wd.heap.size) 62 #[.bool false, .bool bp, .bool false] := hq
                replace hRr := hRr.grown hg (by first | (simp; done) | (simp; omega))
                replace hPr := hPr.grown hg (by first | (simp; done) | (simp; omega))
                replace hAr := hAr.grown hg (by first | (simp; done) | (simp; omega))
                replace hOk := hq
                replace hbl := below_grownBy hbl (by have := hbl.size; omega) hg (by intro j e; injection e; omega)
                clear hg hq
                clear cra
                have cra : x3.cell? ⟨w.heap.size + 1, 1, none⟩ = some (.string Sra) := by rw [hPr.cell 1, ← hSra.out]; rfl
                clear cra
                go_wp2_with fail
                refine wp_region_pl0 (fun w' => Below (x3).heap.size (x3) w') (fun w' => (x3).grownBy w' (some w.heap.size)) [8] (.q 0 (.q 1 (.q 2 (.q 3 (.q 4 (.q 5 (.q 6 (.l 7 (.qc 8 .nil))))))))) (by kernel_rfl) (by kernel_rfl) (fun _ _ d _ _ h => by cases d <;> exact h) rfl (by kernel_rfl) ?_ ?_
                · exact ⟨below_drew _, grownBy_drew _ _⟩
                intro X hS0 hS1
                have hS := hS1
                have hRX := hRr.kept hS0
                repeat (first
                  | (refine pl_q (by assumption) rfl rfl ?_; apply Exists.intro; refine ⟨fun w' hS => ?_, ?_⟩; (· (have he := run_equalIn_bools false bp false false true false w'; have ha := hAr.grown hS (by simp); have hk := hOk.grown hS (by first | (simp; done) | (simp; omega)); have a0 := ha.cell 0; have a1 := ha.cell 1; have a2 := ha.cell 2; have a3 := ha.cell 3; have k0 := hk.cell 0; have k1 := hk.cell 1; have k2 := hk.cell 2; simp at a0 a1 a2 a3 k0 k1 k2; go_simp; exact rfl)); simp only [List.getElem_toArray, List.getElem_cons_zero, List.getElem_cons_succ, Act.put, List.setIfInBounds_toArray, List.set_cons_zero, List.set_cons_succ])
                  | (refine pl_qc rfl rfl ?_; apply Exists.intro; refine ⟨fun w' _ => ?_, ?_⟩; (· (go_simp; exact rfl)); simp only [List.getElem_toArray, List.getElem_cons_zero, List.getElem_cons_succ, Act.put, List.setIfInBounds_toArray, List.set_cons_zero, List.set_cons_succ])
                  | (refine pl_skip (by assumption) rfl rfl ?_; simp only [List.getElem_toArray, List.getElem_cons_zero, List.getElem_cons_succ, Act.put, List.setIfInBounds_toArray, List.set_cons_zero, List.set_cons_succ])
                  | (refine pl_skipl (by assumption) rfl rfl ?_; simp only [List.getElem_toArray, List.getElem_cons_zero, List.getElem_cons_succ, Act.put, List.setIfInBounds_toArray, List.set_cons_zero, List.set_cons_succ]))
                first
                  | refine pl_do rfl rfl (fun K hK => ?_)
                  | refine op_do rfl rfl (fun K hK => ?_)
                try simp only [List.getElem_toArray, List.getElem_cons_zero, List.getElem_cons_succ]
                refine wp_store_whole (n := 4) rfl rfl rfl (by kernel_rfl) rfl hRX rfl rfl ?_
                intro X2 hR2 hg2
                refine hK.out _ _ (grownBy_trans hS1 hg2) (fun hS => ?_)
                clear hK K
                try simp only [List.getElem_toArray, List.getElem_cons_zero, List.getElem_cons_succ, Act.put, List.setIfInBounds_toArray, List.set_cons_zero, List.set_cons_succ]
                repeat (first
                  | (refine pl_q (by assumption) rfl rfl ?_; apply Exists.intro; refine ⟨fun w' hS => ?_, ?_⟩; (· (skip; go_simp; exact rfl)); simp only [List.getElem_toArray, List.getElem_cons_zero, List.getElem_cons_succ, Act.put, List.setIfInBounds_toArray, List.set_cons_zero, List.set_cons_succ])
                  | (refine pl_qc rfl rfl ?_; apply Exists.intro; refine ⟨fun w' _ => ?_, ?_⟩; (· (go_simp; exact rfl)); simp only [List.getElem_toArray, List.getElem_cons_zero, List.getElem_cons_succ, Act.put, List.setIfInBounds_toArray, List.set_cons_zero, List.set_cons_succ])
                  | (refine pl_skip (by assumption) rfl rfl ?_; simp only [List.getElem_toArray, List.getElem_cons_zero, List.getElem_cons_succ, Act.put, List.setIfInBounds_toArray, List.set_cons_zero, List.set_cons_succ])
                  | (refine pl_skipl (by assumption) rfl rfl ?_; simp only [List.getElem_toArray, List.getElem_cons_zero, List.getElem_cons_succ, Act.put, List.setIfInBounds_toArray, List.set_cons_zero, List.set_cons_succ]))
                refine pl_nil ?_
                go_wp2
                refine bodyPost_ret (results_blk_tmp rfl rfl (by kernel_rfl) (by kernel_rfl) hR2 rfl) rfl ?_
                refine ⟨⟨_, _, _, _, _, rfl, ?_⟩, below_grownBy (hbl.trans (hS0.mono hbl.size)) (by have := hbl.size; have := hS0.size; omega) hg2 (by intro j e; injection e; omega)⟩
                have e2 : numP ra = if bp then some vp else none := by rw [← hdra.out]; cases bp; exact hfbp.out rfl; exact htbp.out rfl
                rw [HO3.out]
                simp only [actR, nodeR, pickR, textR, hB1.out, hB2.out, hB3.out, if_true, if_false, Bool.false_eq_true, List.getD_cons_zero, List.getD_cons_succ, e2]
                cases bp <;> simp [mkS_data, mkS_nil]
              · exfalso
                have h1 := hB1.out
                have h2 := hB2.out
                have h3 := hB3.out
                unfold hN at h1
                unfold hP inB at h2
                unfold hT at h3
                simp at h1 h2 h3
                omega
              · obtain rfl : n = 1 := by have h := hmm.out; unfold manyOf at h; rw [hB1.out, hB2.out, hB3.out] at h; simpa using h
                obtain ⟨ra, rfl⟩ : ∃ ra, r = [ra] := by
                  have hrl : r.length = 1 := by have := hn.out; omega
                  match r, hrl with
                  | [ra], _ => exact ⟨ra, rfl⟩
                obtain ⟨Sra, hSra⟩ : ∃ S, Hid (mkS ra = S) := ⟨_, rfl⟩
                have hzra : Sra.size ≤ 1048576 := by rw [← hSra.out, mkS_size]; exact Hsb.out ra (by simp)
                have hdra : Hid (Sra.data.toList = ra) := by show _ = _; rw [← hSra.out]; rfl
                have hOk := Blk.new wd 62 #[.bool false, .bool false, .bool false]
                have hb9 := below_one wd (.cells #[.bool false, .bool false, .bool false] 62)
                replace hRr := hRr.kept hb9; replace hPr := hPr.kept hb9; replace hAr := hAr.kept hb9; replace hbl := hbl.trans (hb9.mono hbl.size)
                have cra : (wd.alloc (.cells #[.bool false, .bool false, .bool false] 62)).cell? ⟨w.heap.size + 1, 1, none⟩ = some (.string Sra) := by rw [hPr.cell 1, ← hSra.out]; rfl
                go_wp2_with fail
                refine (number_any Sra hzra _ (hE.kept hbl)).mono ?_
                rintro e x1 ⟨vn, bn, rfl, htbn, hfbn, hbw⟩
                replace hRr := hRr.kept hbw; replace hPr := hPr.kept hbw; replace hAr := hAr.kept hbw; replace hOk := hOk.kept hbw; replace hbl := hbl.trans (hbw.mono hbl.size)
                clear cra
                have cra : x1.cell? ⟨w.heap.size + 1, 1, none⟩ = some (.string Sra) := by rw [hPr.cell 1, ← hSra.out]; rfl
                go_wp2_with (refine wpList_store_blkL (n := 1) (v := .int .i64 vn) rfl rfl rfl rfl (by kernel_rfl) rfl hAr (Nat.le_of_ble_eq_true rfl) rfl ?_)
                intro x2 hq hg
                replace hq : Blk x2 (w.heap.size + 2) 37 #[.int .i64 K, .int .i64 vn, .int .i64 0, .string ByteArray.empty] := hq
                replace hRr := hRr.grown hg (by first | (simp; done) | (simp; omega))
                replace hPr := hPr.grown hg (by first | (simp; done) | (simp; omega))
                replace hOk := hOk.grown hg (by first | (simp; done) | (simp; omega))
                replace hAr := hq
                replace hbl := below_grownBy hbl (by have := hbl.size; omega) hg (by intro j e; injection e; omega)
                clear hg hq
                clear cra
                have cra : x2.cell? ⟨w.heap.size + 1, 1, none⟩ = some (.string Sra) := by rw [hPr.cell 1, ← hSra.out]; rfl
                go_wp2_with (refine wpList_store_blkL (n := 1) (v := .bool bn) rfl rfl rfl rfl (by kernel_rfl) rfl hOk (Nat.le_of_ble_eq_true rfl) rfl ?_)
                intro x3 hq hg
                replace hq : Blk x3 (wd.heap.size) 62 #[.bool bn, .bool false, .bool false] := hq
                replace hRr := hRr.grown hg (by first | (simp; done) | (simp; omega))
                replace hPr := hPr.grown hg (by first | (simp; done) | (simp; omega))
                replace hAr := hAr.grown hg (by first | (simp; done) | (simp; omega))
                replace hOk := hq
                replace hbl := below_grownBy hbl (by have := hbl.size; omega) hg (by intro j e; injection e; omega)
                clear hg hq
                clear cra
                have cra : x3.cell? ⟨w.heap.size + 1, 1, none⟩ = some (.string Sra) := by rw [hPr.cell 1, ← hSra.out]; rfl
                clear cra
                go_wp2_with fail
                refine wp_region_pl0 (fun w' => Below (x3).heap.size (x3) w') (fun w' => (x3).grownBy w' (some w.heap.size)) [8] (.q 0 (.q 1 (.q 2 (.q 3 (.q 4 (.q 5 (.q 6 (.l 7 (.qc 8 .nil))))))))) (by kernel_rfl) (by kernel_rfl) (fun _ _ d _ _ h => by cases d <;> exact h) rfl (by kernel_rfl) ?_ ?_
                · exact ⟨below_drew _, grownBy_drew _ _⟩
                intro X hS0 hS1
                have hS := hS1
                have hRX := hRr.kept hS0
                repeat (first
                  | (refine pl_q (by assumption) rfl rfl ?_; apply Exists.intro; refine ⟨fun w' hS => ?_, ?_⟩; (· (have he := run_equalIn_bools bn false false true false false w'; have ha := hAr.grown hS (by simp); have hk := hOk.grown hS (by first | (simp; done) | (simp; omega)); have a0 := ha.cell 0; have a1 := ha.cell 1; have a2 := ha.cell 2; have a3 := ha.cell 3; have k0 := hk.cell 0; have k1 := hk.cell 1; have k2 := hk.cell 2; simp at a0 a1 a2 a3 k0 k1 k2; go_simp; exact rfl)); simp only [List.getElem_toArray, List.getElem_cons_zero, List.getElem_cons_succ, Act.put, List.setIfInBounds_toArray, List.set_cons_zero, List.set_cons_succ])
                  | (refine pl_qc rfl rfl ?_; apply Exists.intro; refine ⟨fun w' _ => ?_, ?_⟩; (· (go_simp; exact rfl)); simp only [List.getElem_toArray, List.getElem_cons_zero, List.getElem_cons_succ, Act.put, List.setIfInBounds_toArray, List.set_cons_zero, List.set_cons_succ])
                  | (refine pl_skip (by assumption) rfl rfl ?_; simp only [List.getElem_toArray, List.getElem_cons_zero, List.getElem_cons_succ, Act.put, List.setIfInBounds_toArray, List.set_cons_zero, List.set_cons_succ])
                  | (refine pl_skipl (by assumption) rfl rfl ?_; simp only [List.getElem_toArray, List.getElem_cons_zero, List.getElem_cons_succ, Act.put, List.setIfInBounds_toArray, List.set_cons_zero, List.set_cons_succ]))
                first
                  | refine pl_do rfl rfl (fun K hK => ?_)
                  | refine op_do rfl rfl (fun K hK => ?_)
                try simp only [List.getElem_toArray, List.getElem_cons_zero, List.getElem_cons_succ]
                refine wp_store_whole (n := 4) rfl rfl rfl (by kernel_rfl) rfl hRX rfl rfl ?_
                intro X2 hR2 hg2
                refine hK.out _ _ (grownBy_trans hS1 hg2) (fun hS => ?_)
                clear hK K
                try simp only [List.getElem_toArray, List.getElem_cons_zero, List.getElem_cons_succ, Act.put, List.setIfInBounds_toArray, List.set_cons_zero, List.set_cons_succ]
                repeat (first
                  | (refine pl_q (by assumption) rfl rfl ?_; apply Exists.intro; refine ⟨fun w' hS => ?_, ?_⟩; (· (skip; go_simp; exact rfl)); simp only [List.getElem_toArray, List.getElem_cons_zero, List.getElem_cons_succ, Act.put, List.setIfInBounds_toArray, List.set_cons_zero, List.set_cons_succ])
                  | (refine pl_qc rfl rfl ?_; apply Exists.intro; refine ⟨fun w' _ => ?_, ?_⟩; (· (go_simp; exact rfl)); simp only [List.getElem_toArray, List.getElem_cons_zero, List.getElem_cons_succ, Act.put, List.setIfInBounds_toArray, List.set_cons_zero, List.set_cons_succ])
                  | (refine pl_skip (by assumption) rfl rfl ?_; simp only [List.getElem_toArray, List.getElem_cons_zero, List.getElem_cons_succ, Act.put, List.setIfInBounds_toArray, List.set_cons_zero, List.set_cons_succ])
                  | (refine pl_skipl (by assumption) rfl rfl ?_; simp only [List.getElem_toArray, List.getElem_cons_zero, List.getElem_cons_succ, Act.put, List.setIfInBounds_toArray, List.set_cons_zero, List.set_cons_succ]))
                refine pl_nil ?_
                go_wp2
                refine bodyPost_ret (results_blk_tmp rfl rfl (by kernel_rfl) (by kernel_rfl) hR2 rfl) rfl ?_
                refine ⟨⟨_, _, _, _, _, rfl, ?_⟩, below_grownBy (hbl.trans (hS0.mono hbl.size)) (by have := hbl.size; have := hS0.size; omega) hg2 (by intro j e; injection e; omega)⟩
                have e1 : numP ra = if bn then some vn else none := by rw [← hdra.out]; cases bn; exact hfbn.out rfl; exact htbn.out rfl
                rw [HO3.out]
                simp only [actR, nodeR, pickR, textR, hB1.out, hB2.out, hB3.out, if_true, if_false, Bool.false_eq_true, List.getD_cons_zero, List.getD_cons_succ, e1]
                cases bn <;> simp [mkS_data, mkS_nil]
              · obtain rfl : n = 2 := by have h := hmm.out; unfold manyOf at h; rw [hB1.out, hB2.out, hB3.out] at h; simpa using h
                obtain ⟨ra, rb, rfl⟩ : ∃ ra rb, r = [ra, rb] := by
                  have hrl : r.length = 2 := by have := hn.out; omega
                  match r, hrl with
                  | [ra, rb], _ => exact ⟨ra, rb, rfl⟩
                obtain ⟨Sra, hSra⟩ : ∃ S, Hid (mkS ra = S) := ⟨_, rfl⟩
                have hzra : Sra.size ≤ 1048576 := by rw [← hSra.out, mkS_size]; exact Hsb.out ra (by simp)
                have hdra : Hid (Sra.data.toList = ra) := by show _ = _; rw [← hSra.out]; rfl
                obtain ⟨Srb, hSrb⟩ : ∃ S, Hid (mkS rb = S) := ⟨_, rfl⟩
                have hzrb : Srb.size ≤ 1048576 := by rw [← hSrb.out, mkS_size]; exact Hsb.out rb (by simp)
                have hdrb : Hid (Srb.data.toList = rb) := by show _ = _; rw [← hSrb.out]; rfl
                have hOk := Blk.new wd 62 #[.bool false, .bool false, .bool false]
                have hb9 := below_one wd (.cells #[.bool false, .bool false, .bool false] 62)
                replace hRr := hRr.kept hb9; replace hPr := hPr.kept hb9; replace hAr := hAr.kept hb9; replace hbl := hbl.trans (hb9.mono hbl.size)
                have cra : (wd.alloc (.cells #[.bool false, .bool false, .bool false] 62)).cell? ⟨w.heap.size + 1, 1, none⟩ = some (.string Sra) := by rw [hPr.cell 1, ← hSra.out]; rfl
                have crb : (wd.alloc (.cells #[.bool false, .bool false, .bool false] 62)).cell? ⟨w.heap.size + 1, 2, none⟩ = some (.string Srb) := by rw [hPr.cell 2, ← hSrb.out]; rfl
                go_wp2_with fail
                refine (number_any Sra hzra _ (hE.kept hbl)).mono ?_
                rintro e x1 ⟨vn, bn, rfl, htbn, hfbn, hbw⟩
                replace hRr := hRr.kept hbw; replace hPr := hPr.kept hbw; replace hAr := hAr.kept hbw; replace hOk := hOk.kept hbw; replace hbl := hbl.trans (hbw.mono hbl.size)
                clear cra crb
                have cra : x1.cell? ⟨w.heap.size + 1, 1, none⟩ = some (.string Sra) := by rw [hPr.cell 1, ← hSra.out]; rfl
                have crb : x1.cell? ⟨w.heap.size + 1, 2, none⟩ = some (.string Srb) := by rw [hPr.cell 2, ← hSrb.out]; rfl
                go_wp2_with (refine wpList_store_blkL (n := 1) (v := .int .i64 vn) rfl rfl rfl rfl (by kernel_rfl) rfl hAr (Nat.le_of_ble_eq_true rfl) rfl ?_)
                intro x2 hq hg
                replace hq : Blk x2 (w.heap.size + 2) 37 #[.int .i64 K, .int .i64 vn, .int .i64 0, .string ByteArray.empty] := hq
                replace hRr := hRr.grown hg (by first | (simp; done) | (simp; omega))
                replace hPr := hPr.grown hg (by first | (simp; done) | (simp; omega))
                replace hOk := hOk.grown hg (by first | (simp; done) | (simp; omega))
                replace hAr := hq
                replace hbl := below_grownBy hbl (by have := hbl.size; omega) hg (by intro j e; injection e; omega)
                clear hg hq
                clear cra crb
                have cra : x2.cell? ⟨w.heap.size + 1, 1, none⟩ = some (.string Sra) := by rw [hPr.cell 1, ← hSra.out]; rfl
                have crb : x2.cell? ⟨w.heap.size + 1, 2, none⟩ = some (.string Srb) := by rw [hPr.cell 2, ← hSrb.out]; rfl
                go_wp2_with (refine wpList_store_blkL (n := 1) (v := .bool bn) rfl rfl rfl rfl (by kernel_rfl) rfl hOk (Nat.le_of_ble_eq_true rfl) rfl ?_)
                intro x3 hq hg
                replace hq : Blk x3 (wd.heap.size) 62 #[.bool bn, .bool false, .bool false] := hq
                replace hRr := hRr.grown hg (by first | (simp; done) | (simp; omega))
                replace hPr := hPr.grown hg (by first | (simp; done) | (simp; omega))
                replace hAr := hAr.grown hg (by first | (simp; done) | (simp; omega))
                replace hOk := hq
                replace hbl := below_grownBy hbl (by have := hbl.size; omega) hg (by intro j e; injection e; omega)
                clear hg hq
                clear cra crb
                have cra : x3.cell? ⟨w.heap.size + 1, 1, none⟩ = some (.string Sra) := by rw [hPr.cell 1, ← hSra.out]; rfl
                have crb : x3.cell? ⟨w.heap.size + 1, 2, none⟩ = some (.string Srb) := by rw [hPr.cell 2, ← hSrb.out]; rfl
                go_wp2_with fail
                refine (unhex_bool Srb hzrb _).mono ?_
                rintro e x4 ⟨vt, bt, rfl, htbt, hfbt, hbw⟩
                replace hRr := hRr.kept hbw; replace hPr := hPr.kept hbw; replace hAr := hAr.kept hbw; replace hOk := hOk.kept hbw; replace hbl := hbl.trans (hbw.mono hbl.size)
                clear cra crb
                have cra : x4.cell? ⟨w.heap.size + 1, 1, none⟩ = some (.string Sra) := by rw [hPr.cell 1, ← hSra.out]; rfl
                have crb : x4.cell? ⟨w.heap.size + 1, 2, none⟩ = some (.string Srb) := by rw [hPr.cell 2, ← hSrb.out]; rfl
                go_wp2_with (refine wpList_store_blkL (n := 1) (v := .string vt) rfl rfl rfl rfl (by kernel_rfl) rfl hAr (Nat.le_of_ble_eq_true rfl) rfl ?_)
                intro x5 hq hg
                replace hq : Blk x5 (w.heap.size + 2) 37 #[.int .i64 K, .int .i64 vn, .int .i64 0, .string vt] := hq
                replace hRr := hRr.grown hg (by first | (simp; done) | (simp; omega))
                replace hPr := hPr.grown hg (by first | (simp; done) | (simp; omega))
                replace hOk := hOk.grown hg (by first | (simp; done) | (simp; omega))
                replace hAr := hq
                replace hbl := below_grownBy hbl (by have := hbl.size; omega) hg (by intro j e; injection e; omega)
                clear hg hq
                clear cra crb
                have cra : x5.cell? ⟨w.heap.size + 1, 1, none⟩ = some (.string Sra) := by rw [hPr.cell 1, ← hSra.out]; rfl
                have crb : x5.cell? ⟨w.heap.size + 1, 2, none⟩ = some (.string Srb) := by rw [hPr.cell 2, ← hSrb.out]; rfl
                go_wp2_with (refine wpList_store_blkL (n := 1) (v := .bool bt) rfl rfl rfl rfl (by kernel_rfl) rfl hOk (Nat.le_of_ble_eq_true rfl) rfl ?_)
                intro x6 hq hg
                replace hq : Blk x6 (wd.heap.size) 62 #[.bool bn, .bool false, .bool bt] := hq
                replace hRr := hRr.grown hg (by first | (simp; done) | (simp; omega))
                replace hPr := hPr.grown hg (by first | (simp; done) | (simp; omega))
                replace hAr := hAr.grown hg (by first | (simp; done) | (simp; omega))
                replace hOk := hq
                replace hbl := below_grownBy hbl (by have := hbl.size; omega) hg (by intro j e; injection e; omega)
                clear hg hq
                clear cra crb
                have cra : x6.cell? ⟨w.heap.size + 1, 1, none⟩ = some (.string Sra) := by rw [hPr.cell 1, ← hSra.out]; rfl
                have crb : x6.cell? ⟨w.heap.size + 1, 2, none⟩ = some (.string Srb) := by rw [hPr.cell 2, ← hSrb.out]; rfl
                clear cra crb
                go_wp2_with fail
                refine wp_region_pl0 (fun w' => Below (x6).heap.size (x6) w') (fun w' => (x6).grownBy w' (some w.heap.size)) [8] (.q 0 (.q 1 (.q 2 (.q 3 (.q 4 (.q 5 (.q 6 (.l 7 (.qc 8 .nil))))))))) (by kernel_rfl) (by kernel_rfl) (fun _ _ d _ _ h => by cases d <;> exact h) rfl (by kernel_rfl) ?_ ?_
                · exact ⟨below_drew _, grownBy_drew _ _⟩
                intro X hS0 hS1
                have hS := hS1
                have hRX := hRr.kept hS0
                repeat (first
                  | (refine pl_q (by assumption) rfl rfl ?_; apply Exists.intro; refine ⟨fun w' hS => ?_, ?_⟩; (· (have he := run_equalIn_bools bn false bt true false true w'; have ha := hAr.grown hS (by simp); have hk := hOk.grown hS (by first | (simp; done) | (simp; omega)); have a0 := ha.cell 0; have a1 := ha.cell 1; have a2 := ha.cell 2; have a3 := ha.cell 3; have k0 := hk.cell 0; have k1 := hk.cell 1; have k2 := hk.cell 2; simp at a0 a1 a2 a3 k0 k1 k2; go_simp; exact rfl)); simp only [List.getElem_toArray, List.getElem_cons_zero, List.getElem_cons_succ, Act.put, List.setIfInBounds_toArray, List.set_cons_zero, List.set_cons_succ])
                  | (refine pl_qc rfl rfl ?_; apply Exists.intro; refine ⟨fun w' _ => ?_, ?_⟩; (· (go_simp; exact rfl)); simp only [List.getElem_toArray, List.getElem_cons_zero, List.getElem_cons_succ, Act.put, List.setIfInBounds_toArray, List.set_cons_zero, List.set_cons_succ])
                  | (refine pl_skip (by assumption) rfl rfl ?_; simp only [List.getElem_toArray, List.getElem_cons_zero, List.getElem_cons_succ, Act.put, List.setIfInBounds_toArray, List.set_cons_zero, List.set_cons_succ])
                  | (refine pl_skipl (by assumption) rfl rfl ?_; simp only [List.getElem_toArray, List.getElem_cons_zero, List.getElem_cons_succ, Act.put, List.setIfInBounds_toArray, List.set_cons_zero, List.set_cons_succ]))
                first
                  | refine pl_do rfl rfl (fun K hK => ?_)
                  | refine op_do rfl rfl (fun K hK => ?_)
                try simp only [List.getElem_toArray, List.getElem_cons_zero, List.getElem_cons_succ]
                refine wp_store_whole (n := 4) rfl rfl rfl (by kernel_rfl) rfl hRX rfl rfl ?_
                intro X2 hR2 hg2
                refine hK.out _ _ (grownBy_trans hS1 hg2) (fun hS => ?_)
                clear hK K
                try simp only [List.getElem_toArray, List.getElem_cons_zero, List.getElem_cons_succ, Act.put, List.setIfInBounds_toArray, List.set_cons_zero, List.set_cons_succ]
                repeat (first
                  | (refine pl_q (by assumption) rfl rfl ?_; apply Exists.intro; refine ⟨fun w' hS => ?_, ?_⟩; (· (skip; go_simp; exact rfl)); simp only [List.getElem_toArray, List.getElem_cons_zero, List.getElem_cons_succ, Act.put, List.setIfInBounds_toArray, List.set_cons_zero, List.set_cons_succ])
                  | (refine pl_qc rfl rfl ?_; apply Exists.intro; refine ⟨fun w' _ => ?_, ?_⟩; (· (go_simp; exact rfl)); simp only [List.getElem_toArray, List.getElem_cons_zero, List.getElem_cons_succ, Act.put, List.setIfInBounds_toArray, List.set_cons_zero, List.set_cons_succ])
                  | (refine pl_skip (by assumption) rfl rfl ?_; simp only [List.getElem_toArray, List.getElem_cons_zero, List.getElem_cons_succ, Act.put, List.setIfInBounds_toArray, List.set_cons_zero, List.set_cons_succ])
                  | (refine pl_skipl (by assumption) rfl rfl ?_; simp only [List.getElem_toArray, List.getElem_cons_zero, List.getElem_cons_succ, Act.put, List.setIfInBounds_toArray, List.set_cons_zero, List.set_cons_succ]))
                refine pl_nil ?_
                go_wp2
                refine bodyPost_ret (results_blk_tmp rfl rfl (by kernel_rfl) (by kernel_rfl) hR2 rfl) rfl ?_
                refine ⟨⟨_, _, _, _, _, rfl, ?_⟩, below_grownBy (hbl.trans (hS0.mono hbl.size)) (by have := hbl.size; have := hS0.size; omega) hg2 (by intro j e; injection e; omega)⟩
                have e1 : numP ra = if bn then some vn else none := by rw [← hdra.out]; cases bn; exact hfbn.out rfl; exact htbn.out rfl
                have e3 : unhexL rb = if bt then some vt.data.toList else none := by rw [← hdrb.out]; cases bt; exact hfbt.out rfl; exact htbt.out rfl
                rw [HO3.out]
                simp only [actR, nodeR, pickR, textR, hB1.out, hB2.out, hB3.out, if_true, if_false, Bool.false_eq_true, List.getD_cons_zero, List.getD_cons_succ, e1, e3]
                cases bn <;> cases bt <;> simp [mkS_data, mkS_nil]
              · obtain rfl : n = 2 := by have h := hmm.out; unfold manyOf at h; rw [hB1.out, hB2.out, hB3.out] at h; simpa using h
                obtain ⟨ra, rb, rfl⟩ : ∃ ra rb, r = [ra, rb] := by
                  have hrl : r.length = 2 := by have := hn.out; omega
                  match r, hrl with
                  | [ra, rb], _ => exact ⟨ra, rb, rfl⟩
                obtain ⟨Sra, hSra⟩ : ∃ S, Hid (mkS ra = S) := ⟨_, rfl⟩
                have hzra : Sra.size ≤ 1048576 := by rw [← hSra.out, mkS_size]; exact Hsb.out ra (by simp)
                have hdra : Hid (Sra.data.toList = ra) := by show _ = _; rw [← hSra.out]; rfl
                obtain ⟨Srb, hSrb⟩ : ∃ S, Hid (mkS rb = S) := ⟨_, rfl⟩
                have hzrb : Srb.size ≤ 1048576 := by rw [← hSrb.out, mkS_size]; exact Hsb.out rb (by simp)
                have hdrb : Hid (Srb.data.toList = rb) := by show _ = _; rw [← hSrb.out]; rfl
                have hOk := Blk.new wd 62 #[.bool false, .bool false, .bool false]
                have hb9 := below_one wd (.cells #[.bool false, .bool false, .bool false] 62)
                replace hRr := hRr.kept hb9; replace hPr := hPr.kept hb9; replace hAr := hAr.kept hb9; replace hbl := hbl.trans (hb9.mono hbl.size)
                have cra : (wd.alloc (.cells #[.bool false, .bool false, .bool false] 62)).cell? ⟨w.heap.size + 1, 1, none⟩ = some (.string Sra) := by rw [hPr.cell 1, ← hSra.out]; rfl
                have crb : (wd.alloc (.cells #[.bool false, .bool false, .bool false] 62)).cell? ⟨w.heap.size + 1, 2, none⟩ = some (.string Srb) := by rw [hPr.cell 2, ← hSrb.out]; rfl
                go_wp2_with fail
                refine (number_any Sra hzra _ (hE.kept hbl)).mono ?_
                rintro e x1 ⟨vn, bn, rfl, htbn, hfbn, hbw⟩
                replace hRr := hRr.kept hbw; replace hPr := hPr.kept hbw; replace hAr := hAr.kept hbw; replace hOk := hOk.kept hbw; replace hbl := hbl.trans (hbw.mono hbl.size)
                clear cra crb
                have cra : x1.cell? ⟨w.heap.size + 1, 1, none⟩ = some (.string Sra) := by rw [hPr.cell 1, ← hSra.out]; rfl
                have crb : x1.cell? ⟨w.heap.size + 1, 2, none⟩ = some (.string Srb) := by rw [hPr.cell 2, ← hSrb.out]; rfl
                go_wp2_with (refine wpList_store_blkL (n := 1) (v := .int .i64 vn) rfl rfl rfl rfl (by kernel_rfl) rfl hAr (Nat.le_of_ble_eq_true rfl) rfl ?_)
                intro x2 hq hg
                replace hq : Blk x2 (w.heap.size + 2) 37 #[.int .i64 K, .int .i64 vn, .int .i64 0, .string ByteArray.empty] := hq
                replace hRr := hRr.grown hg (by first | (simp; done) | (simp; omega))
                replace hPr := hPr.grown hg (by first | (simp; done) | (simp; omega))
                replace hOk := hOk.grown hg (by first | (simp; done) | (simp; omega))
                replace hAr := hq
                replace hbl := below_grownBy hbl (by have := hbl.size; omega) hg (by intro j e; injection e; omega)
                clear hg hq
                clear cra crb
                have cra : x2.cell? ⟨w.heap.size + 1, 1, none⟩ = some (.string Sra) := by rw [hPr.cell 1, ← hSra.out]; rfl
                have crb : x2.cell? ⟨w.heap.size + 1, 2, none⟩ = some (.string Srb) := by rw [hPr.cell 2, ← hSrb.out]; rfl
                go_wp2_with (refine wpList_store_blkL (n := 1) (v := .bool bn) rfl rfl rfl rfl (by kernel_rfl) rfl hOk (Nat.le_of_ble_eq_true rfl) rfl ?_)
                intro x3 hq hg
                replace hq : Blk x3 (wd.heap.size) 62 #[.bool bn, .bool false, .bool false] := hq
                replace hRr := hRr.grown hg (by first | (simp; done) | (simp; omega))
                replace hPr := hPr.grown hg (by first | (simp; done) | (simp; omega))
                replace hAr := hAr.grown hg (by first | (simp; done) | (simp; omega))
                replace hOk := hq
                replace hbl := below_grownBy hbl (by have := hbl.size; omega) hg (by intro j e; injection e; omega)
                clear hg hq
                clear cra crb
                have cra : x3.cell? ⟨w.heap.size + 1, 1, none⟩ = some (.string Sra) := by rw [hPr.cell 1, ← hSra.out]; rfl
                have crb : x3.cell? ⟨w.heap.size + 1, 2, none⟩ = some (.string Srb) := by rw [hPr.cell 2, ← hSrb.out]; rfl
                go_wp2_with fail
                refine (number_any Srb hzrb _ (hE.kept hbl)).mono ?_
                rintro e x4 ⟨vp, bp, rfl, htbp, hfbp, hbw⟩
                replace hRr := hRr.kept hbw; replace hPr := hPr.kept hbw; replace hAr := hAr.kept hbw; replace hOk := hOk.kept hbw; replace hbl := hbl.trans (hbw.mono hbl.size)
                clear cra crb
                have cra : x4.cell? ⟨w.heap.size + 1, 1, none⟩ = some (.string Sra) := by rw [hPr.cell 1, ← hSra.out]; rfl
                have crb : x4.cell? ⟨w.heap.size + 1, 2, none⟩ = some (.string Srb) := by rw [hPr.cell 2, ← hSrb.out]; rfl
                go_wp2_with (refine wpList_store_blkL (n := 1) (v := .int .i64 vp) rfl rfl rfl rfl (by kernel_rfl) rfl hAr (Nat.le_of_ble_eq_true rfl) rfl ?_)
                intro x5 hq hg
                replace hq : Blk x5 (w.heap.size + 2) 37 #[.int .i64 K, .int .i64 vn, .int .i64 vp, .string ByteArray.empty] := hq
                replace hRr := hRr.grown hg (by first | (simp; done) | (simp; omega))
                replace hPr := hPr.grown hg (by first | (simp; done) | (simp; omega))
                replace hOk := hOk.grown hg (by first | (simp; done) | (simp; omega))
                replace hAr := hq
                replace hbl := below_grownBy hbl (by have := hbl.size; omega) hg (by intro j e; injection e; omega)
                clear hg hq
                clear cra crb
                have cra : x5.cell? ⟨w.heap.size + 1, 1, none⟩ = some (.string Sra) := by rw [hPr.cell 1, ← hSra.out]; rfl
                have crb : x5.cell? ⟨w.heap.size + 1, 2, none⟩ = some (.string Srb) := by rw [hPr.cell 2, ← hSrb.out]; rfl
                go_wp2_with (refine wpList_store_blkL (n := 1) (v := .bool bp) rfl rfl rfl rfl (by kernel_rfl) rfl hOk (Nat.le_of_ble_eq_true rfl) rfl ?_)
                intro x6 hq hg
                replace hq : Blk x6 (wd.heap.size) 62 #[.bool bn, .bool bp, .bool false] := hq
                replace hRr := hRr.grown hg (by first | (simp; done) | (simp; omega))
                replace hPr := hPr.grown hg (by first | (simp; done) | (simp; omega))
                replace hAr := hAr.grown hg (by first | (simp; done) | (simp; omega))
                replace hOk := hq
                replace hbl := below_grownBy hbl (by have := hbl.size; omega) hg (by intro j e; injection e; omega)
                clear hg hq
                clear cra crb
                have cra : x6.cell? ⟨w.heap.size + 1, 1, none⟩ = some (.string Sra) := by rw [hPr.cell 1, ← hSra.out]; rfl
                have crb : x6.cell? ⟨w.heap.size + 1, 2, none⟩ = some (.string Srb) := by rw [hPr.cell 2, ← hSrb.out]; rfl
                clear cra crb
                go_wp2_with fail
                refine wp_region_pl0 (fun w' => Below (x6).heap.size (x6) w') (fun w' => (x6).grownBy w' (some w.heap.size)) [8] (.q 0 (.q 1 (.q 2 (.q 3 (.q 4 (.q 5 (.q 6 (.l 7 (.qc 8 .nil))))))))) (by kernel_rfl) (by kernel_rfl) (fun _ _ d _ _ h => by cases d <;> exact h) rfl (by kernel_rfl) ?_ ?_
                · exact ⟨below_drew _, grownBy_drew _ _⟩
                intro X hS0 hS1
                have hS := hS1
                have hRX := hRr.kept hS0
                repeat (first
                  | (refine pl_q (by assumption) rfl rfl ?_; apply Exists.intro; refine ⟨fun w' hS => ?_, ?_⟩; (· (have he := run_equalIn_bools bn bp false true true false w'; have ha := hAr.grown hS (by simp); have hk := hOk.grown hS (by first | (simp; done) | (simp; omega)); have a0 := ha.cell 0; have a1 := ha.cell 1; have a2 := ha.cell 2; have a3 := ha.cell 3; have k0 := hk.cell 0; have k1 := hk.cell 1; have k2 := hk.cell 2; simp at a0 a1 a2 a3 k0 k1 k2; go_simp; exact rfl)); simp only [List.getElem_toArray, List.getElem_cons_zero, List.getElem_cons_succ, Act.put, List.setIfInBounds_toArray, List.set_cons_zero, List.set_cons_succ])
                  | (refine pl_qc rfl rfl ?_; apply Exists.intro; refine ⟨fun w' _ => ?_, ?_⟩; (· (go_simp; exact rfl)); simp only [List.getElem_toArray, List.getElem_cons_zero, List.getElem_cons_succ, Act.put, List.setIfInBounds_toArray, List.set_cons_zero, List.set_cons_succ])
                  | (refine pl_skip (by assumption) rfl rfl ?_; simp only [List.getElem_toArray, List.getElem_cons_zero, List.getElem_cons_succ, Act.put, List.setIfInBounds_toArray, List.set_cons_zero, List.set_cons_succ])
                  | (refine pl_skipl (by assumption) rfl rfl ?_; simp only [List.getElem_toArray, List.getElem_cons_zero, List.getElem_cons_succ, Act.put, List.setIfInBounds_toArray, List.set_cons_zero, List.set_cons_succ]))
                first
                  | refine pl_do rfl rfl (fun K hK => ?_)
                  | refine op_do rfl rfl (fun K hK => ?_)
                try simp only [List.getElem_toArray, List.getElem_cons_zero, List.getElem_cons_succ]
                refine wp_store_whole (n := 4) rfl rfl rfl (by kernel_rfl) rfl hRX rfl rfl ?_
                intro X2 hR2 hg2
                refine hK.out _ _ (grownBy_trans hS1 hg2) (fun hS => ?_)
                clear hK K
                try simp only [List.getElem_toArray, List.getElem_cons_zero, List.getElem_cons_succ, Act.put, List.setIfInBounds_toArray, List.set_cons_zero, List.set_cons_succ]
                repeat (first
                  | (refine pl_q (by assumption) rfl rfl ?_; apply Exists.intro; refine ⟨fun w' hS => ?_, ?_⟩; (· (skip; go_simp; exact rfl)); simp only [List.getElem_toArray, List.getElem_cons_zero, List.getElem_cons_succ, Act.put, List.setIfInBounds_toArray, List.set_cons_zero, List.set_cons_succ])
                  | (refine pl_qc rfl rfl ?_; apply Exists.intro; refine ⟨fun w' _ => ?_, ?_⟩; (· (go_simp; exact rfl)); simp only [List.getElem_toArray, List.getElem_cons_zero, List.getElem_cons_succ, Act.put, List.setIfInBounds_toArray, List.set_cons_zero, List.set_cons_succ])
                  | (refine pl_skip (by assumption) rfl rfl ?_; simp only [List.getElem_toArray, List.getElem_cons_zero, List.getElem_cons_succ, Act.put, List.setIfInBounds_toArray, List.set_cons_zero, List.set_cons_succ])
                  | (refine pl_skipl (by assumption) rfl rfl ?_; simp only [List.getElem_toArray, List.getElem_cons_zero, List.getElem_cons_succ, Act.put, List.setIfInBounds_toArray, List.set_cons_zero, List.set_cons_succ]))
                refine pl_nil ?_
                go_wp2
                refine bodyPost_ret (results_blk_tmp rfl rfl (by kernel_rfl) (by kernel_rfl) hR2 rfl) rfl ?_
                refine ⟨⟨_, _, _, _, _, rfl, ?_⟩, below_grownBy (hbl.trans (hS0.mono hbl.size)) (by have := hbl.size; have := hS0.size; omega) hg2 (by intro j e; injection e; omega)⟩
                have e1 : numP ra = if bn then some vn else none := by rw [← hdra.out]; cases bn; exact hfbn.out rfl; exact htbn.out rfl
                have e2 : numP rb = if bp then some vp else none := by rw [← hdrb.out]; cases bp; exact hfbp.out rfl; exact htbp.out rfl
                rw [HO3.out]
                simp only [actR, nodeR, pickR, textR, hB1.out, hB2.out, hB3.out, if_true, if_false, Bool.false_eq_true, List.getD_cons_zero, List.getD_cons_succ, e1, e2]
                cases bn <;> cases bp <;> simp [mkS_data, mkS_nil]
              · exfalso
                have h1 := hB1.out
                have h2 := hB2.out
                have h3 := hB3.out
                unfold hN at h1
                unfold hP inB at h2
                unfold hT at h3
                simp at h1 h2 h3
                omega
end Ln
end Go.Proofs.YtbcoecmeoemmeaaDoor
