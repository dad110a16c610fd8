/- The reference's ActsShown; acts copied, compared. -/
import Derived.Test.YtbcoecmeoemmeaaDoorLn7
import Derived.Test.YtbcoecmeoemmeaaDoorOwn
import Derived.Laws.StructEq
namespace Go.Proofs.YtbcoecmeoemmeaaDoor
open Go.ChangeShapes Go.WideShapes Go.ChangeAt Go.RowKit
set_option linter.unusedVariables false
set_option linter.unusedSimpArgs false
namespace Ln
set_option maxHeartbeats 8000000 in
set_option maxRecDepth 100000 in
theorem shown_any (v : Value) (l : List Ac) (w : World) (hv : RActs w.cell? v l) (hsz : ∀ a ∈ l, a.text.size ≤ 140737488355328) :
    Calls Tryd.prog 7 #[v] w fun e w' => e = .returned (.tuple #[.string (mkS (showE l).1), .int .i64 (showE l).2.1, .int .i64 (showE l).2.2]) ∧ Below w.heap.size w w' := by
  obtain ⟨A, c, rfl, h1, h2, h3, hel⟩ := hv.at
  have Hel := Lib.hid hel
  have Hsz := Lib.hid hsz
  clear hel hsz hv
  have Hq : Hid (showE l = if 3000 < l.length then ([], 0, 1) else if badI l < l.length then ([], badI l, match l[badI l]? with | some a => actE a | none => 0) else (showL l, 0, 0)) := rfl
  obtain ⟨E, hE⟩ : ∃ E, Hid (showE l = E) := ⟨_, rfl⟩
  rw [hE.out] at Hq ⊢
  obtain ⟨n, hn⟩ : ∃ n, Hid (l.length = n) := ⟨_, rfl⟩
  rw [hn.out] at h1 h3 Hq ⊢
  by_cases hbig : 3000 < n
  · have he : E = ([], 0, 1) := by rw [Hq.out, if_pos hbig]
    subst he
    clear Hq hE
    go_enter Tryd.func7, Tryd.ntmps7
    go_wp2
    go_ret3
    exact ⟨rfl, Below.refl _ _⟩
  · replace Hq : Hid (E = if badI l < n then ([], badI l, match l[badI l]? with | some a => actE a | none => 0) else (showL l, 0, 0)) := by
      show _ = _
      rw [Hq.out, if_neg hbig]
    clear hE
    go_enter Tryd.func7, Tryd.ntmps7
    go_wp2
    go_loopw [5, 6] (fun st ct wr => ∃ (k : Nat) (T : ByteArray), k ≤ n ∧ ct = .int .i64 k ∧ st = .string T ∧ T.size ≤ k * 500000 ∧ Hid (∀ j (hj : j < l.length), j < k → actE l[j] = 0) ∧ Hid (T = mkS (showL (l.take k))) ∧ Below w.heap.size w wr) (fun _ ct _ => n - (intOf ct).toNat)
    case atStart => exact ⟨0, _, Nat.zero_le _, rfl, rfl, Nat.le_refl _, fun j _ hj => by omega, rfl, Below.refl _ _⟩
    case round =>
      obtain ⟨k, T, hk, rfl, rfl, hTs, hno, hT, hbl⟩ := hrel
      by_cases hlt : k < n
      · have hkl : k < l.length := by have := hn.out; omega
        obtain ⟨b, o, rfl, c0, c1, c2, c3⟩ := Hel.out k hkl
        have hts := Hsz.out l[k] (List.getElem_mem hkl)
        obtain ⟨a, ha⟩ : ∃ a, Hid (l[k] = a) := ⟨_, Lib.hid rfl⟩
        rw [ha.out] at c0 c1 c2 c3 hts
        have hv1 := vle_below hbl
        have c0 := hv1 _ _ c0
        have c1 := hv1 _ _ c1
        have c2 := hv1 _ _ c2
        have c3 := hv1 _ _ c3
        have hsn : Hid (showL (l.take (k + 1)) = showL (l.take k) ++ lineL a) := by
          show _ = _
          rw [showL_snoc l k hkl, ha.out]
        obtain ⟨ak, an, ap, atx⟩ := a
        simp only at c0 c1 c2 c3 hts
        go_wp2_with fail
        refine (actFault_any ak an ap atx _ hts).mono ?_
        rintro e w1 ⟨rfl, hb1⟩
        obtain ⟨F, hF⟩ : ∃ F, Hid (actF ak an ap atx = F) := ⟨_, rfl⟩
        rw [hF.out]
        have hFa : Hid (actE ⟨ak, an, ap, atx⟩ = F) := hF
        have hbl1 := hbl.trans (hb1.mono hbl.size)
        have hv2 := vle_below hb1
        replace c0 := hv2 _ _ c0
        replace c1 := hv2 _ _ c1
        replace c2 := hv2 _ _ c2
        replace c3 := hv2 _ _ c3
        by_cases hF0 : F = 0
        · subst hF0
          obtain ⟨m1, m2, m3, m4, m5⟩ := act_fine hFa.out
          simp only at m1 m2
          obtain ⟨kk, rfl⟩ : ∃ kk : Nat, ak = kk := ⟨ak.toNat, by omega⟩
          have hno2 : Hid (∀ j (hj : j < l.length), j < k + 1 → actE l[j] = 0) := by
            show ∀ j (hj : j < l.length), j < k + 1 → actE l[j] = 0
            intro j hj hjk
            rcases Nat.lt_or_ge j k with h | h
            · exact hno.out j hj h
            · obtain rfl : j = k := by omega
              rw [ha.out, hFa.out]
          clear hF hbl hb1 m3 m4 m5
          go_wp2_with fail
          refine (actLine_any kk an ap atx hFa.out _).mono ?_
          rintro e w2 ⟨rfl, hb2⟩
          have hll := lineL_len hFa.out
          obtain ⟨U, hU⟩ : ∃ U, Hid (mkS (lineL ⟨kk, an, ap, atx⟩) = U) := ⟨_, rfl⟩
          rw [hU.out]
          have hUs : U.size ≤ 500000 := by rw [← hU.out, mkS_size]; exact hll
          have hT2 : Hid (T ++ U = mkS (showL (l.take (k + 1)))) := by
            show _ = _
            rw [hsn.out, hT.out, ← hU.out, mkS_append]
          have hT2s : (T ++ U).size ≤ (k + 1) * 500000 := by rw [ByteArray.size_append]; omega
          have hbl2 := hbl1.trans (hb2.mono hbl1.size)
          clear hll hFa hU hsn hT c0 c1 c2 c3
          go_wp2
          go_roundw
          case rel => exact ⟨k + 1, _, by omega, by go_num, rfl, hT2s, hno2, hT2, hbl2⟩
          case measure => simp [intOf]; omega
        · have hbad : Hid (E = ([], k, F)) := by
            have e := badI_at l k hkl (by rw [ha.out, hFa.out]; exact hF0) hno.out
            show _ = _
            rw [Hq.out, e, if_pos hlt, List.getElem?_eq_getElem hkl, ha.out]
            show ([], k, actE ⟨ak, an, ap, atx⟩) = _
            rw [hFa.out]
          have hFb : (F != 0) = true := by simpa using hF0
          go_wp2
          go_ret3
          exact ⟨by rw [hbad.out]; rfl, hbl1⟩
      · have hke : k = n := by omega
        have hnb : Hid (E = (showL l, 0, 0)) := by
          have e := badI_none l (fun j hj => hno.out j hj (by have := hn.out; omega))
          show _ = _
          rw [Hq.out, e, hn.out, if_neg (Nat.lt_irrefl _)]
        have hTe : Hid (T = mkS (showL l)) := by
          show _ = _
          rw [hT.out, hke, List.take_of_length_le (by have := hn.out; omega)]
        go_wp2
        go_ret3
        exact ⟨by rw [hnb.out, hTe.out]; rfl, hbl⟩
def actC (a : Ac) : List Value := [.int .i64 a.kind, .int .i64 a.node, .int .i64 a.pick, .string a.text]
set_option maxHeartbeats 2000000 in
set_option maxRecDepth 100000 in
theorem acts_any (v : Value) (l : List Ac) (w : World) (hv : RActs w.cell? v l) :
    Calls Tryd.prog 5 #[v] w fun e w' => ∃ v', e = .returned v' ∧ RActs w'.cell? v' l ∧ Below w.heap.size w w' := by
  have hb : l.length * 40 ≤ 140737488355328 := by obtain ⟨A, c, _, _, _, h, _⟩ := hv; exact h
  obtain ⟨A, c, rfl, h1, h2, h3, hnil, hel⟩ := id hv
  have hlen : ∀ i (hi : i < (l.map actC).length), (l.map actC)[i].length = 4 := fun i hi => by simp [actC]
  have hnews : ∀ ad, A = some ad → ∀ j u, ((l.map actC).flatten)[j]? = some u → w.cell? (ad.add j) = some u := by
    intro ad had j u hu
    have hj : j < (l.map actC).flatten.length := (List.getElem?_eq_some_iff.1 hu).1
    have hfl : (l.map actC).flatten.length = l.length * 4 := by
      clear hu hj hlen hel h1 h2 h3 hb hv
      induction l with
      | nil => rfl
      | cons a l ih => rw [List.map_cons, List.flatten_cons, List.length_append, ih, List.length_cons]; simp [actC]; omega
    have hp : 0 < l.length := by omega
    obtain ⟨b, o, ea, hc⟩ := hel hp
    rw [ea] at had
    injection had with had
    subst had
    have hq : j / 4 < l.length := by omega
    obtain ⟨cs, hl, hcell, hx⟩ := hc (j / 4) hq
    have hx : cs = actC l[j / 4] := hx
    have hf := flatten_at (css := l.map actC) (i := j / 4) (j := j % 4) (cs := cs) hlen (by rw [hx]; simp [hq]) (by omega)
    rw [show j / 4 * 4 + j % 4 = j by omega] at hf
    rw [add_off, show o + j = o + j / 4 * 4 + j % 4 by omega, hcell (j % 4) (by omega), ← hf]
    exact hu
  have hfl : (l.map actC).flatten.length = l.length * 4 := by
    clear hlen hel h1 h2 h3 hb hv hnews
    induction l with
    | nil => rfl
    | cons a l ih => rw [List.map_cons, List.flatten_cons, List.length_append, ih, List.length_cons]; simp [actC]; omega
  have h1c : ∀ u ∈ (l.map actC).flatten, u.oneCell' = true := by
    intro u hu
    obtain ⟨cs, hcs, huc⟩ := List.mem_flatten.1 hu
    obtain ⟨a, _, rfl⟩ := List.mem_map.1 hcs
    simp [actC] at huc
    rcases huc with rfl | rfl | rfl | rfl <;> rfl
  obtain ⟨i, hi, hz0, hz1, hz2⟩ := info_parts (show (Tryd.prog.info? 37).map (fun i => (i.zero, i.size, i.bytes)) = some (some (.agg #[.int .i64 0, .int .i64 0, .int .i64 0, .string ByteArray.empty]), 4, 40) by kernel_rfl)
  obtain ⟨n, hn⟩ : ∃ n, Hid (l.length = n) := ⟨_, rfl⟩
  rw [hn.out] at hfl hb h1 h3
  obtain ⟨F, hF⟩ : ∃ F, Hid ((l.map actC).flatten = F) := ⟨_, rfl⟩
  rw [hF.out] at hfl hnews h1c
  rw [hn.out]
  have Hnews := Lib.hid hnews
  have H1c := Lib.hid h1c
  have Hnil := Lib.hid hnil
  have Hlen := Lib.hid hlen
  clear hel hnews h1c hnil hlen hv
  go_enter Tryd.func5, Tryd.ntmps5
  go_wp2_with (at_builtin; refine wpList_append_any rfl _ _ _ rfl w.heap.size 37 i _ 4 40 Tryd.underlying22 hi hz0 hz1 hz2 rfl (by decide) (.slice none 0 0) 0 [] rfl (World.ownsRow_nil _ _ _ _) A n c F rfl (by omega) (fun e => ⟨by have := Hnil.out e; omega, Hnil.out e⟩) Hnews.out H1c.out (le_maxLen (by omega)) (by omega) (Nat.le_refl _) ?_)
  intro v' w1 ho hg
  go_wp2
  go_ret
  refine ⟨v', rfl, ?_, (Below.refl _ _).grown hg (Nat.le_refl _) (fun g hg => by cases hg)⟩
  have hO : OwnSl 4 RAct 37 w1 w.heap.size v' l := by
    refine ⟨l.map actC, ?_, by simp, fun k hk => ⟨actC l[k], by simp [hk], rfl, rfl⟩⟩
    rw [hn.out, hF.out]
    simpa using ho
  exact hO.reads RAct.mono (by rw [hn.out]; exact hb)
end Ln
end Go.Proofs.YtbcoecmeoemmeaaDoor
