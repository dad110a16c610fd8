/- The reference reads lines. -/
import Derived.Test.YtbcoecmeoemmeaaDoorLn17
namespace Go.Proofs.YtbcoecmeoemmeaaDoor
open Go.ChangeShapes Go.WideShapes Go.ChangeAt Go.RowKit
set_option linter.unusedVariables false
set_option linter.unusedSimpArgs false
namespace Ln
set_option maxHeartbeats 8000000 in
set_option maxRecDepth 100000 in
theorem actsOf_any (s : ByteArray) (hs : s.size ≤ 1048576) (w : World) : Calls Tryd.prog 10 #[.string s] w (RdOut (readG (lineG numRo) s.size 0 s.data.toList []) w) := by
  have hll : s.data.toList.length = s.size := Array.length_toList
  obtain ⟨R, hR⟩ : ∃ R, Hid (readG (lineG numRo) s.size 0 s.data.toList [] = R) := ⟨_, rfl⟩
  rw [hR.out]
  obtain ⟨l0, hl0⟩ : ∃ l0, s.data.toList = l0 := ⟨_, rfl⟩
  rw [hl0] at hll hR
  go_enter Tryd.func10, Tryd.ntmps10
  go_wp2
  go_loopw [5, 6, 7] (fun v fv iv wr => ∃ (f i n : Nat) (xs : List Ac), fv = .int .i64 f ∧ iv = .int .i64 i ∧ f ≤ s.size ∧ s.size - f ≤ n ∧ n ≤ 1048576 ∧ i ≤ 3000 ∧ xs.length ≤ i ∧ OwnSl 4 RAct 37 wr w.heap.size v xs ∧ Hid (R = readG (lineG numRo) n i (l0.drop f) xs) ∧ Below w.heap.size w wr) (fun _ fv _ _ => s.size - (intOf fv).toNat)
  case atStart => exact ⟨0, 0, s.size, [], rfl, rfl, Nat.zero_le _, by omega, hs, by decide, Nat.le_refl _, OwnSl.nil _ _ _ _ _, by rw [List.drop_zero]; exact hR.out.symm, Below.refl _ _⟩
  case round =>
    obtain ⟨f, i, n, xs, rfl, rfl, hf, hfn, hn, hi, hxl, ho, hH, hbl⟩ := hrel
    have hbs := hbl.size
    by_cases hlt : f < s.size
    · obtain ⟨n', rfl⟩ : ∃ n', n = n' + 1 := ⟨n - 1, by omega⟩
      have hdl : (l0.drop f).length = s.size - f := by rw [List.length_drop, hll]
      have hnn : l0.drop f ≠ [] := fun e => by rw [e] at hdl; simp at hdl; omega
      have hst := hH.out
      rw [readG_step hnn, hdl] at hst
      have Hst := Lib.hid hst
      clear hst hH hnn hdl
      obtain ⟨wo, hwo⟩ : ∃ wo : World, wo = wr := ⟨_, rfl⟩
      subst hwo
      go_wp2_with fail
      go_loopw [8] (fun jv wr => ∃ j : Nat, jv = .int .i64 j ∧ f ≤ j ∧ j ≤ s.size ∧ Hid (∀ t (ht : t < l0.length), f ≤ t → t < j → l0[t] ≠ 10) ∧ wo = wr) (fun jv _ => s.size - (intOf jv).toNat)
      case atStart => exact ⟨f, rfl, Nat.le_refl _, hf, fun t _ h1 h2 => by omega, rfl⟩
      case round =>
        obtain ⟨j, rfl, hfj, hjs, hno, rfl⟩ := hrel
        by_cases hend : j < s.size
        · obtain ⟨c, hc⟩ : ∃ c : UInt8, s[j] = c := ⟨_, rfl⟩
          have hc2 : l0[j]'(by rw [hll]; exact hend) = c := by subst hl0; exact hc
          by_cases hb : c = 10
          · have hcb : ((c.toNat : Int) != 10) = false := by rw [hb]; rfl
            have hq : fst1 10 (l0.drop f) = j - f := by
              refine fst1_eq (k := j - f) (by rw [List.length_drop]; omega) ?_ (fun t ht htj => ?_)
              · rw [List.getElem_drop]
                have : f + (j - f) = j := by omega
                simp only [this]
                exact hc2.trans hb
              · rw [List.getElem_drop]
                rw [List.length_drop] at ht
                exact hno.out _ (by omega) (by omega) (by omega)
            have Hst2 : Hid (R = if i = 3000 then ([], i, 1) else match lineG numRo ((l0.drop f).take (j - f)) with
                | none => ([], i, 4)
                | some a => if actE a = 0 then readG (lineG numRo) n' (i + 1) (l0.drop (j + 1)) (xs ++ [a]) else ([], i, actE a)) := by
              show _ = _
              rw [Hst.out, hq, if_neg (c := ¬ j - f < s.size - f) (by omega), List.drop_drop]
              rw [show f + (j - f + 1) = j + 1 by omega]
              rfl
            obtain ⟨U, hU⟩ : ∃ U, s.extract f j = U := ⟨_, rfl⟩
            have hUd : U.data.toList = (l0.drop f).take (j - f) := by
              rw [← hU, extract_mkS, hl0]; rfl
            have hUz : U.size ≤ 1048576 := by
              have : U.data.toList.length = U.size := Array.length_toList
              rw [← this, hUd, List.length_take, List.length_drop]; omega
            have HUd := Lib.hid hUd
            clear hUd Hst hno hb hc2 hq
            by_cases hbig : i = 3000
            · have hR2 : Hid (R = ([], 3000, 1)) := by show _ = _; rw [Hst2.out, if_pos hbig, hbig]
              subst hbig
              go_wp2
              go_ret3
              exact ⟨⟨_, by rw [hR2.out]; rfl, by rw [hR2.out]; exact RActs_nil _⟩, hbl⟩
            · have hst2 : Hid (R = match lineG numRo U.data.toList with
                  | none => ([], i, 4)
                  | some a => if actE a = 0 then readG (lineG numRo) n' (i + 1) (l0.drop (j + 1)) (xs ++ [a]) else ([], i, actE a)) := by
                show _ = _
                rw [Hst2.out, if_neg hbig, HUd.out]
              have hib : ((i : Int) == 3000) = false := by rw [beq_eq_false_iff_ne]; omega
              have hjb : ((j : Int) == (s.size : Int)) = false := by rw [beq_eq_false_iff_ne]; omega
              clear Hst2
              go_wp2_with fail
              refine (lineAct_any U hUz _).mono ?_
              rintro e w2 ⟨⟨ak, an, ap, atx, b, rfl, hm⟩, hb2⟩
              have hb3 := hbl.trans (hb2.mono hbl.size)
              have ho2 := ho.kept RAct.mono hb2
              clear ho
              cases b
              · have hno : lineG numRo U.data.toList = none := by
                  cases hx : lineG numRo U.data.toList with
                  | none => rfl
                  | some x => rw [hx] at hm; cases hm.2
                have hR2 : Hid (R = ([], i, 4)) := by show _ = _; rw [hst2.out, hno]
                clear hst2 hm hno
                go_wp2
                go_ret3
                exact ⟨⟨_, by rw [hR2.out]; rfl, by rw [hR2.out]; exact RActs_nil _⟩, hb3.alloc hb3.size _⟩
              · have hyes : lineG numRo U.data.toList = some ⟨ak, an, ap, atx⟩ := by
                  cases hx : lineG numRo U.data.toList with
                  | none => rw [hx] at hm; cases hm
                  | some x => rw [hx] at hm; rw [hm.1]
                have htz := lineG_small hyes
                have htz2 : atx.size ≤ 140737488355328 := by
                  have : U.data.toList.length = U.size := Array.length_toList
                  simp only at htz
                  omega
                have hst3 : Hid (R = if actE ⟨ak, an, ap, atx⟩ = 0 then readG (lineG numRo) n' (i + 1) (l0.drop (j + 1)) (xs ++ [⟨ak, an, ap, atx⟩]) else ([], i, actE ⟨ak, an, ap, atx⟩)) := by
                  show _ = _
                  rw [hst2.out, hyes]
                clear hst2 hm hyes htz
                have hBn := Blk.new w2 37 #[.int .i64 ak, .int .i64 an, .int .i64 ap, .string atx]
                have hb9 := below_one w2 (.cells #[.int .i64 ak, .int .i64 an, .int .i64 ap, .string atx] 37)
                go_wp2_with fail
                refine (actFault_any ak an ap atx _ htz2).mono ?_
                rintro e w4 ⟨rfl, hb4⟩
                have hbw4 : Below w2.heap.size w2 w4 := hb9.trans (hb4.mono hb9.size)
                have hb5 := hb3.trans (hbw4.mono hb3.size)
                have hB4 := hBn.kept hb4
                have ho4 := ho2.kept RAct.mono hbw4
                obtain ⟨F, hF⟩ : ∃ F, Hid (actF ak an ap atx = F) := ⟨_, rfl⟩
                rw [hF.out]
                have hst4 : Hid (R = if F = 0 then readG (lineG numRo) n' (i + 1) (l0.drop (j + 1)) (xs ++ [⟨ak, an, ap, atx⟩]) else ([], i, F)) := by
                  show _ = _
                  rw [hst3.out]
                  show (if actF ak an ap atx = 0 then _ else ([], i, actF ak an ap atx)) = _
                  rw [hF.out]
                clear hst3 hF hBn hb9 hb4 hbw4 ho2
                by_cases hF0 : F = 0
                · subst hF0
                  have hR2 : Hid (R = readG (lineG numRo) n' (i + 1) (l0.drop (j + 1)) (xs ++ [⟨ak, an, ap, atx⟩])) := by show _ = _; rw [hst4.out, if_pos rfl]
                  have c0 := hB4.cell 0; have c1 := hB4.cell 1; have c2 := hB4.cell 2; have c3 := hB4.cell 3
                  simp at c0 c1 c2 c3
                  have hb5s := hb5.size
                  clear hst4
                  go_wp2_with (at_builtin; refine wpList_append_sl1 (n := 140737488355328) RAct.mono (⟨ak, an, ap, atx⟩ : Ac) [.int .i64 ak, .int .i64 an, .int .i64 ap, .string atx] elemAct _ _ rfl rfl rfl ho4 hb5 hb5s rfl rfl rfl rfl rfl (Nat.le_refl _) (by omega) (by omega) ?_)
                  intro v6 w6 ho6 hb6 _
                  clear c0 c1 c2 c3 hU
                  go_wp2
                  go_roundw
                  case rel => exact ⟨j + 1, i + 1, n', _, by go_num, by go_num, by omega, by omega, by omega, by omega, by simp; omega, ho6, hR2, hb6⟩
                  case measure => simp [intOf]; omega
                · have hR2 : Hid (R = ([], i, F)) := by show _ = _; rw [hst4.out, if_neg hF0]
                  have hFb : (F != 0) = true := by simpa using hF0
                  clear hst4
                  go_wp2
                  go_ret3
                  exact ⟨⟨_, by rw [hR2.out]; rfl, by rw [hR2.out]; exact RActs_nil _⟩, hb5⟩
          · have hcb : ((c.toNat : Int) != 10) = true := by
              simp
              exact fun e => hb (UInt8.toNat_inj.1 (by have : (10 : UInt8).toNat = 10 := rfl; omega))
            have hno2 : Hid (∀ t (ht : t < l0.length), f ≤ t → t < j + 1 → l0[t] ≠ 10) := by
              show ∀ t (ht : t < l0.length), f ≤ t → t < j + 1 → l0[t] ≠ 10
              intro t ht h1 h2
              rcases Nat.lt_or_ge t j with h3 | h3
              · exact hno.out t ht h1 h3
              · obtain rfl : t = j := by omega
                rw [hc2]; exact hb
            clear hb hc2 hno
            go_wp2
            go_roundw
            case rel => exact ⟨j + 1, by go_num, by omega, by omega, hno2, trivial⟩
            case measure => simp [intOf]; omega
        · have hje : j = s.size := by omega
          have hq : fst1 10 (l0.drop f) = (l0.drop f).length := by
            refine fst1_none (fun t ht => ?_)
            rw [List.getElem_drop]
            rw [List.length_drop] at ht
            exact hno.out _ (by omega) (by omega) (by omega)
          have hR2 : Hid (R = ([], i, if i = 3000 then 1 else 4)) := by
            show _ = _
            rw [Hst.out, hq, List.length_drop, hll]
            by_cases h : i = 3000
            · rw [if_pos h, if_pos h]
            · rw [if_neg h, if_neg h, if_pos (Nat.lt_irrefl _)]
          subst hje
          clear hno Hst hq
          by_cases hbig : i = 3000
          · subst hbig
            go_wp2
            go_ret3
            exact ⟨⟨_, by rw [hR2.out]; rfl, by rw [hR2.out]; exact RActs_nil _⟩, hbl⟩
          · have hib : ((i : Int) == 3000) = false := by rw [beq_eq_false_iff_ne]; omega
            rw [if_neg hbig] at hR2
            go_wp2
            go_ret3
            exact ⟨⟨_, by rw [hR2.out]; rfl, by rw [hR2.out]; exact RActs_nil _⟩, hbl⟩
    · have hR2 : Hid (R = (xs, 0, 0)) := by
        show _ = _
        rw [hH.out, List.drop_eq_nil_of_le (by omega), readG_nil]
      clear hH
      go_wp2
      go_ret3
      exact ⟨⟨_, by rw [hR2.out]; rfl, by rw [hR2.out]; exact ho.reads RAct.mono (by show xs.length * 40 ≤ _; omega)⟩, hbl⟩
end Ln
end Go.Proofs.YtbcoecmeoemmeaaDoor
