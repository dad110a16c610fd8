/- The program reads lines. -/
import Derived.Test.YtbcoecmeoemmeaaDoorLn15
namespace Go.Proofs.YtbcoecmeoemmeaaDoor
open Go.ChangeShapes Go.WideShapes Go.ChangeAt Go.RowKit
set_option linter.unusedVariables false
set_option linter.unusedSimpArgs false
namespace Ln
/-- acts out of lines, and where the fault lies -/
def RdOut (R : List Ac × Nat × Int) (w : World) (e : Ending) (w' : World) : Prop := (∃ v, e = .returned (.tuple #[v, .int .i64 R.2.1, .int .i64 R.2.2]) ∧ RActs w'.cell? v R.1) ∧ Below w.heap.size w w'
theorem unhex_len : ∀ (l t : List UInt8), unhexL l = some t → t.length ≤ l.length
  | [], t, h => by simp [unhexL] at h; subst h; exact Nat.le_refl _
  | [_], t, h => by simp [unhexL] at h
  | a :: b :: r, t, h => by
    unfold unhexL at h
    split at h
    · rename_i q1 q2 q3
      injection h with h
      subst h
      have := unhex_len r _ q3
      simp; omega
    · cases h
theorem lineG_small {f : List UInt8 → Option Int} {l : List UInt8} {a : Ac} (h : lineG f l = some a) : a.text.size ≤ l.length := by
  unfold lineG at h
  split at h
  · cases h
  · unfold actR at h
    split at h
    · rename_i n p t _ _ q3
      injection h with h
      subst h
      show t.length ≤ _
      unfold textR at q3
      split at q3
      · have h1 := unhex_len _ _ q3
        refine Nat.le_trans h1 ?_
        cases hx : ((spl 32 l).drop 1)[1]? with
        | none => rw [List.getD_eq_getElem?_getD, hx]; exact Nat.zero_le _
        | some x =>
          rw [List.getD_eq_getElem?_getD, hx]
          exact spl_part 32 l x (List.mem_of_mem_drop (List.mem_of_getElem? hx))
      · injection q3 with q3
        subst q3
        exact Nat.zero_le _
    · cases h
theorem below_drewN (w : World) (n : Nat) : Below w.heap.size w (w.drewN n) := ⟨rfl, rfl, rfl, Nat.le_refl _, fun _ _ => rfl⟩
def strLen : Value → Nat
  | .string s => s.size
  | _ => 0
theorem readG_step {g : List UInt8 → Option Ac} {n i : Nat} {l : List UInt8} {out : List Ac} (hl : l ≠ []) : readG g (n + 1) i l out = if i = 3000 then ([], i, 1) else if ¬ fst1 10 l < l.length then ([], i, 4) else match g (l.take (fst1 10 l)) with
    | none => ([], i, 4)
    | some a => if actE a = 0 then readG g n (i + 1) (l.drop (fst1 10 l + 1)) (out ++ [a]) else ([], i, actE a) := by
  conv => lhs; unfold readG
  rw [if_neg hl]
  rfl
theorem readG_nil {g : List UInt8 → Option Ac} {n i : Nat} {out : List Ac} : readG g n i [] out = (out, 0, 0) := by
  cases n with
  | zero => rfl
  | succ n => unfold readG; rw [if_pos rfl]
theorem RActs_nil (h : View) : RActs h (.slice none 0 0) [] := ⟨none, 0, rfl, Nat.le_refl _, Nat.zero_le _, by simp, fun _ => rfl, fun h => by simp at h⟩
theorem elemAct : Elem Tryd.prog 22 37 4 40 := by
  obtain ⟨i, hi, hz0, hz1, hz2⟩ := info_parts (show (Tryd.prog.info? 37).map (fun i => (i.zero, i.size, i.bytes)) = some (some (.agg #[.int .i64 0, .int .i64 0, .int .i64 0, .string ByteArray.empty]), 4, 40) by kernel_rfl)
  exact ⟨Tryd.underlying22, by decide, i, _, hi, hz0, hz1, hz2, rfl⟩
set_option maxHeartbeats 8000000 in
set_option maxRecDepth 100000 in
theorem read_any (s : ByteArray) (hs : s.size ≤ 1048576) (w : World) (hE : Env w) : Calls Tryd.prog 9 #[.string s] w (RdOut (readG (lineG numP) s.size 0 s.data.toList []) w) := by
  have hll : s.data.toList.length = s.size := Array.length_toList
  obtain ⟨R, hR⟩ : ∃ R, Hid (readG (lineG numP) s.size 0 s.data.toList [] = R) := ⟨_, rfl⟩
  rw [hR.out]
  go_enter Tryd.func9, Tryd.ntmps9
  go_wp2
  go_loopw [0, 5, 6] (fun sv v iv wr => ∃ (S : ByteArray) (i n : Nat) (xs : List Ac), sv = .string S ∧ iv = .int .i64 i ∧ S.size ≤ n ∧ n ≤ 1048576 ∧ i ≤ 3000 ∧ xs.length ≤ i ∧ OwnSl 4 RAct 37 wr w.heap.size v xs ∧ Hid (R = readG (lineG numP) n i S.data.toList xs) ∧ Below w.heap.size w wr) (fun sv _ _ _ => strLen sv)
  case atStart => exact ⟨s, 0, s.size, [], rfl, rfl, Nat.le_refl _, hs, by decide, Nat.le_refl _, OwnSl.nil _ _ _ _ _, hR.out.symm, Below.refl _ _⟩
  case round =>
    obtain ⟨S, i, n, xs, rfl, rfl, hSn, hn, hi, hxl, ho, hH, hbl⟩ := hrel
    have hSl : S.data.toList.length = S.size := Array.length_toList
    by_cases hz : S.size = 0
    · have hnil : S.data.toList = [] := List.eq_nil_of_length_eq_zero (by rw [hSl]; exact hz)
      have hR2 : R = (xs, 0, 0) := by rw [hH.out, hnil, readG_nil]
      have hn1 : S.toList = [] := by rw [ByteArray.toList_eq]; exact hnil
      clear hH
      go_wp2
      go_ret3
      exact ⟨⟨_, by rw [hR2]; rfl, by rw [hR2]; exact ho.reads RAct.mono (by show xs.length * 40 ≤ _; omega)⟩, hbl⟩
    · have hnn : S.data.toList ≠ [] := fun e => hz (by rw [← hSl, e]; rfl)
      have hn1 : (S.toList == []) = false := by rw [ByteArray.toList_eq, beq_eq_false_iff_ne]; exact hnn
      obtain ⟨n', rfl⟩ : ∃ n', n = n' + 1 := ⟨n - 1, by omega⟩
      have hst := hH.out
      rw [readG_step hnn] at hst
      have hcut := cut_one 10 S.data.toList
      rw [hSl] at hcut hst
      obtain ⟨q, hq⟩ : ∃ q, Hid (fst1 10 S.data.toList = q) := ⟨_, rfl⟩
      rw [hq.out] at hcut hst
      obtain ⟨LL, hLL⟩ : ∃ LL, Hid (mkS (S.data.toList.take q) = LL) := ⟨_, rfl⟩
      obtain ⟨RR, hRR⟩ : ∃ RR, Hid (mkS (S.data.toList.drop (q + 1)) = RR) := ⟨_, rfl⟩
      have Hst := Lib.hid hst
      clear hst hH
      have hEr := hE.kept hbl
      by_cases hlt : q < S.size
      · rw [if_pos hlt] at hcut
        have hcu := cut_any S (by omega) wr hEr
        rw [hcut] at hcu
        simp only at hcu
        rw [hLL.out, hRR.out] at hcu
        have Hcu := Lib.hid hcu
        clear hcut hcu
        have hLz : LL.size ≤ 1048576 := by rw [← hLL.out, mkS_size, List.length_take, hSl]; omega
        have hRz : RR.size ≤ n' := by rw [← hRR.out, mkS_size, List.length_drop, hSl]; omega
        have hRz2 : RR.size < S.size := by rw [← hRR.out, mkS_size, List.length_drop, hSl]; omega
        by_cases hbig : i = 3000
        · have hR2 : Hid (R = ([], 3000, 1)) := by show _ = _; rw [Hst.out, if_pos hbig, hbig]
          subst hbig
          go_wp2_with fail
          refine Hcu.out.mono ?_
          rintro e w1 ⟨rfl, dn, rfl⟩
          go_wp2
          go_ret3
          exact ⟨⟨_, by rw [hR2.out]; rfl, by rw [hR2.out]; exact RActs_nil _⟩, hbl.trans ((below_drewN _ _).mono hbl.size)⟩
        · have hst2 : Hid (R = match lineG numP LL.data.toList with
              | none => ([], i, 4)
              | some a => if actE a = 0 then readG (lineG numP) n' (i + 1) RR.data.toList (xs ++ [a]) else ([], i, actE a)) := by
            show _ = _
            rw [Hst.out, if_neg hbig, if_neg (by omega), ← hLL.out, ← hRR.out]
            rfl
          have hib : ((i : Int) == 3000) = false := by rw [beq_eq_false_iff_ne]; omega
          clear Hst
          go_wp2_with fail
          refine Hcu.out.mono ?_
          rintro e w1 ⟨rfl, dn, rfl⟩
          have hb1 := hbl.trans ((below_drewN wr dn).mono hbl.size)
          have ho1 := ho.kept RAct.mono (below_drewN wr dn)
          go_wp2_with fail
          refine (one_any LL hLz _ (hE.kept hb1)).mono ?_
          rintro e w2 ⟨⟨ak, an, ap, atx, b, rfl, hm⟩, hb2⟩
          have hb3 := hb1.trans (hb2.mono hb1.size)
          have ho2 := ho1.kept RAct.mono hb2
          clear ho ho1
          cases b
          · have hno : lineG numP LL.data.toList = none := by
              cases hx : lineG numP LL.data.toList with
              | none => rfl
              | some x => rw [hx] at hm; cases hm.2
            have hR2 : Hid (R = ([], i, 4)) := by show _ = _; rw [hst2.out, hno]
            clear hst2 hm hno
            go_wp2
            go_ret3
            exact ⟨⟨_, by rw [hR2.out]; rfl, by rw [hR2.out]; exact RActs_nil _⟩, hb3.alloc hb3.size _⟩
          · have hyes : lineG numP LL.data.toList = some ⟨ak, an, ap, atx⟩ := by
              cases hx : lineG numP LL.data.toList with
              | none => rw [hx] at hm; cases hm
              | some x => rw [hx] at hm; rw [hm.1]
            have htz := lineG_small hyes
            have htz2 : atx.size ≤ 140737488355328 := by
              have : LL.data.toList.length = LL.size := Array.length_toList
              simp only at htz
              omega
            have hst3 : Hid (R = if actE ⟨ak, an, ap, atx⟩ = 0 then readG (lineG numP) n' (i + 1) RR.data.toList (xs ++ [⟨ak, an, ap, atx⟩]) else ([], i, actE ⟨ak, an, ap, atx⟩)) := by
              show _ = _
              rw [hst2.out, hyes]
            clear hst2 hm hyes htz
            have hBn := Blk.new w2 37 #[.int .i64 ak, .int .i64 an, .int .i64 ap, .string atx]
            have hb9 := below_one w2 (.cells #[.int .i64 ak, .int .i64 an, .int .i64 ap, .string atx] 37)
            go_wp2_with fail
            refine (linesCheck_any ak an ap atx _ htz2).mono ?_
            rintro e w4 ⟨rfl, hb4⟩
            have hbw4 : Below w2.heap.size w2 w4 := hb9.trans (hb4.mono hb9.size)
            have hb5 := hb3.trans (hbw4.mono hb3.size)
            have hB4 := hBn.kept hb4
            have ho4 := ho2.kept RAct.mono hbw4
            obtain ⟨F, hF⟩ : ∃ F, Hid (actF ak an ap atx = F) := ⟨_, rfl⟩
            rw [hF.out]
            have hst4 : Hid (R = if F = 0 then readG (lineG numP) n' (i + 1) RR.data.toList (xs ++ [⟨ak, an, ap, atx⟩]) else ([], i, F)) := by
              show _ = _
              rw [hst3.out]
              show (if actF ak an ap atx = 0 then _ else ([], i, actF ak an ap atx)) = _
              rw [hF.out]
            clear hst3 hF hBn hb9 hb4 hbw4 ho2
            by_cases hF0 : F = 0
            · subst hF0
              have hR2 : Hid (R = readG (lineG numP) n' (i + 1) RR.data.toList (xs ++ [⟨ak, an, ap, atx⟩])) := by show _ = _; rw [hst4.out, if_pos rfl]
              have c0 := hB4.cell 0; have c1 := hB4.cell 1; have c2 := hB4.cell 2; have c3 := hB4.cell 3
              simp at c0 c1 c2 c3
              have hb5s := hb5.size
              clear hst4
              go_wp2_with (at_builtin; refine wpList_append_sl1 (n := 140737488355328) RAct.mono (⟨ak, an, ap, atx⟩ : Ac) [.int .i64 ak, .int .i64 an, .int .i64 ap, .string atx] elemAct _ _ rfl rfl rfl ho4 hb5 hb5s rfl rfl rfl rfl rfl (Nat.le_refl _) (by omega) (by omega) ?_)
              intro v6 w6 ho6 hb6 _
              clear c0 c1 c2 c3
              go_wp2
              go_roundw
              case rel => exact ⟨RR, i + 1, n', _, rfl, by go_num, hRz, by omega, by omega, by simp; omega, ho6, hR2, hb6⟩
              case measure => simp [strLen]; omega
            · have hR2 : Hid (R = ([], i, F)) := by show _ = _; rw [hst4.out, if_neg hF0]
              have hFb : (F != 0) = true := by simpa using hF0
              clear hst4
              go_wp2
              go_ret3
              exact ⟨⟨_, by rw [hR2.out]; rfl, by rw [hR2.out]; exact RActs_nil _⟩, hb5⟩
      · rw [if_neg hlt] at hcut
        have hR2 : Hid (R = ([], i, if i = 3000 then 1 else 4)) := by
          show _ = _
          rw [Hst.out]
          by_cases h : i = 3000
          · rw [if_pos h, if_pos h]
          · rw [if_neg h, if_neg h, if_pos hlt]
        have hcu := cut_any S (by omega) wr hEr
        rw [hcut] at hcu
        simp only at hcu
        have Hcu := Lib.hid hcu
        clear hcut hcu Hst
        by_cases hbig : i = 3000
        · subst hbig
          go_wp2_with fail
          refine Hcu.out.mono ?_
          rintro e w1 ⟨rfl, dn, rfl⟩
          go_wp2
          go_ret3
          exact ⟨⟨_, by rw [hR2.out]; rfl, by rw [hR2.out]; exact RActs_nil _⟩, hbl.trans ((below_drewN _ _).mono hbl.size)⟩
        · have hib : ((i : Int) == 3000) = false := by rw [beq_eq_false_iff_ne]; omega
          rw [if_neg hbig] at hR2
          go_wp2_with fail
          refine Hcu.out.mono ?_
          rintro e w1 ⟨rfl, dn, rfl⟩
          go_wp2
          go_ret3
          exact ⟨⟨_, by rw [hR2.out]; rfl, by rw [hR2.out]; exact RActs_nil _⟩, hbl.trans ((below_drewN _ _).mono hbl.size)⟩
end Ln
end Go.Proofs.YtbcoecmeoemmeaaDoor
