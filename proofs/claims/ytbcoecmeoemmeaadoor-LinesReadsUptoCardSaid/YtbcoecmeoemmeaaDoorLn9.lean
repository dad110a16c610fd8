/- Numbers and digits of sixteen, read: by the program and by the reference. -/
import Derived.Test.YtbcoecmeoemmeaaDoorLn8
namespace Go.Proofs.YtbcoecmeoemmeaaDoor
open Go.ChangeShapes Go.WideShapes Go.ChangeAt Go.RowKit
set_option linter.unusedVariables false
set_option linter.unusedSimpArgs false
namespace Ln
/-- what the readers find in the library's variables -/
structure Env (w : World) : Prop where
  words : Words w.cell?
  pow : Pow w
  mx : ∃ m, w.cell? ⟨1, 0, none⟩ = some (.int .i64 m)
  es : ∃ ev, w.cell? ⟨3, 0, none⟩ = some ev ∧ (ev = .nilIface ∨ ∃ te pe, ev = .iface te pe)
  er : ∃ ev, w.cell? ⟨4, 0, none⟩ = some ev ∧ (ev = .nilIface ∨ ∃ te pe, ev = .iface te pe)
theorem Env.kept {w w' : World} (h : Env w) (hb : Below w.heap.size w w') : Env w' := by
  have hv := vle_below hb
  obtain ⟨m, hm⟩ := h.mx
  obtain ⟨e1, h1, h2⟩ := h.es
  obtain ⟨e3, h3, h4⟩ := h.er
  exact ⟨h.words.mono hv, h.pow.kept hb, ⟨m, hv _ _ hm⟩, ⟨e1, hv _ _ h1, h2⟩, ⟨e3, hv _ _ h3, h4⟩⟩
theorem atoi_world {w w' : World} (h : w' = w ∨ ∃ t, w' = Lib.bytesWorld w 5 t) : Below w.heap.size w w' := by
  rcases h with rfl | ⟨t, rfl⟩
  · exact Below.refl _ _
  · exact bytesWorld_below _ _ _
theorem mkS_itoa {v : Int} (h0 : 0 ≤ v) : mkS (decL v) = mkS (Lib.itoa v) := by
  unfold decL Lib.itoa
  rw [if_neg (by omega)]
set_option maxHeartbeats 2000000 in
set_option maxRecDepth 100000 in
theorem number_some (s : ByteArray) (v : Int) (hs : s.size ≤ 1048576) (h : numP s.data.toList = some v) (w : World) (hE : Env w) :
    Calls Tryd.prog 34 #[.string s] w fun e w' => e = .returned (.tuple #[.int .i64 v, .bool true]) ∧ Below w.heap.size w w' := by
  obtain ⟨b0, b1, _, _⟩ := num_some _ _ h
  have hq : Lib.atoiAll s.data.toList = .ok v ∧ Lib.itoa v = s.data.toList := by
    unfold numP at h
    cases ha : Lib.atoiAll s.data.toList with
    | ok u =>
      rw [ha] at h
      simp only at h
      split at h
      · rename_i q
        injection h with h
        subst h
        exact ⟨rfl, q.2⟩
      · cases h
    | _ => rw [ha] at h; cases h
  have Hm : Hid (mkS (decL v) = s) := by
    show _ = _
    rw [mkS_itoa b0, hq.2]; rfl
  have Hq := Lib.hid hq.1
  clear h hq
  go_enter Tryd.func34, Tryd.ntmps34
  go_wp2_with fail
  refine (strconv_Atoi_ok s (by omega) v Hq.out _).mono ?_
  rintro e w1 ⟨rfl, hw⟩
  have hb1 := atoi_world hw
  clear hw
  go_wp2_with fail
  refine (itoa_any v b0 b1 _ (hE.pow.kept hb1)).mono ?_
  rintro e w2 ⟨rfl, hb2⟩
  rw [Hm.out]
  go_wp2
  go_ret2
  exact ⟨rfl, hb1.trans (hb2.mono hb1.size)⟩
/-- a number that is none -/
def NoNum (w : World) (e : Ending) (w' : World) : Prop := ∃ v : Int, e = .returned (.tuple #[.int .i64 v, .bool false]) ∧ Below w.heap.size w w'
set_option maxHeartbeats 2000000 in
set_option maxRecDepth 100000 in
theorem number_none (s : ByteArray) (hs : s.size ≤ 1048576) (h : numP s.data.toList = none) (w : World) (hE : Env w) :
    Calls Tryd.prog 34 #[.string s] w (NoNum w) := by
  unfold numP at h
  cases ha : Lib.atoiAll s.data.toList with
  | ok v =>
    rw [ha] at h
    simp only at h
    have hbd := Lib.atoiAll_bounds ha
    have Hq := Lib.hid ha
    clear ha
    by_cases h0 : 0 ≤ v
    · have hne : Lib.itoa v ≠ s.data.toList := fun e => by rw [if_pos ⟨h0, e⟩] at h; cases h
      have Hm : Hid (mkS (decL v) ≠ s) := by
        show _ ≠ _
        rw [mkS_itoa h0]
        intro e
        exact hne (by rw [← e]; rfl)
      clear h hne
      go_enter Tryd.func34, Tryd.ntmps34
      go_wp2_with fail
      refine (strconv_Atoi_ok s (by omega) v Hq.out _).mono ?_
      rintro e w1 ⟨rfl, hw⟩
      have hb1 := atoi_world hw
      clear hw
      go_wp2_with fail
      refine (itoa_any v h0 hbd.2 _ (hE.pow.kept hb1)).mono ?_
      rintro e w2 ⟨rfl, hb2⟩
      obtain ⟨T, hT⟩ : ∃ T, Hid (mkS (decL v) = T) := ⟨_, rfl⟩
      rw [hT.out]
      have hts : (T.toList == s.toList) = false := by
        rw [ByteArray.toList_eq, ByteArray.toList_eq, beq_eq_false_iff_ne]
        intro e
        refine Hm.out ?_
        rw [hT.out]
        exact (mkS_data T).symm.trans ((congrArg mkS e).trans (mkS_data s))
      go_wp2
      go_ret2
      exact ⟨v, rfl, hb1.trans (hb2.mono hb1.size)⟩
    · clear h
      go_enter Tryd.func34, Tryd.ntmps34
      go_wp2_with fail
      refine (strconv_Atoi_ok s (by omega) v Hq.out _).mono ?_
      rintro e w1 ⟨rfl, hw⟩
      have hb1 := atoi_world hw
      clear hw
      go_wp2
      go_ret2
      exact ⟨v, rfl, hb1⟩
  | range =>
    obtain ⟨ev, h1, h2⟩ := hE.er
    have Hq := Lib.hid ha
    clear ha h
    go_enter Tryd.func34, Tryd.ntmps34
    go_wp2_with fail
    refine (strconv_Atoi_range s (by omega) Hq.out ev _ h1 h2).mono ?_
    rintro e w1 ⟨N, rfl, _, _, hb1⟩
    go_wp2
    go_ret2
    exact ⟨_, rfl, hb1⟩
  | _ =>
    obtain ⟨ev, h1, h2⟩ := hE.es
    have Hno : ∀ v, Lib.atoiAll s.data.toList ≠ .ok v := fun v e => by rw [e] at ha; cases ha
    have Hnr : Lib.atoiAll s.data.toList ≠ .range := fun e => by rw [e] at ha; cases ha
    have HNO := Lib.hid Hno
    have HNR := Lib.hid Hnr
    clear ha h Hno Hnr
    go_enter Tryd.func34, Tryd.ntmps34
    go_wp2_with fail
    refine (strconv_Atoi_none s (by omega) HNO.out HNR.out ev _ h1 h2).mono ?_
    rintro e w1 ⟨N, rfl, _, _, hb1⟩
    go_wp2
    go_ret2
    exact ⟨0, rfl, hb1⟩
end Ln
end Go.Proofs.YtbcoecmeoemmeaaDoor
