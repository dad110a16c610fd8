/- ballot.Voted and the document's answer: one number, and digests that read alike. -/
import Derived.Test.YtelfbgfggkhpjaaTable2
import Derived.Test.YtelfbgfggkhpjaaClone
import Derived.Test.YtelfbgfggkhpjaaStr
import Derived.Test.YtelfbgfggkhpjaaChg2
namespace Go.Proofs.Ytelfbgfggkhpjaa
open Go.ChangeShapes Go.WideShapes Go.ChangeAt Go.RowKit
set_option linter.unusedVariables false
def votedE (l : List Slot) (au ro : Int) : Int := if tableF l ≠ 0 then tableF l else if slotAt l au ro < 0 then 8 else 0
def votedD (l : List Slot) (au ro : Int) : List UInt8 := if tableF l ≠ 0 then [] else if slotAt l au ro < 0 then [] else match l[(slotAt l au ro).toNat]? with | some s => s.digest | none => []
theorem slotAt_lt {l : List Slot} {au ro : Int} : slotAt l au ro < l.length := by
  unfold slotAt
  split
  · rename_i i h
    have := (List.findIdx?_eq_some_iff_getElem.1 h).1
    omega
  · omega
set_option maxHeartbeats 1000000 in
set_option maxRecDepth 100000 in
theorem voted_any (v : Value) (l : List Slot) (au ro : Int) (w : World) (hv : RSlots w.cell? v l) :
    Calls Try.prog 15 #[v, .int .i64 au, .int .i64 ro] w fun e w' => ∃ d, e = .returned (.tuple #[d, .int .i64 (votedE l au ro)]) ∧ Below w.heap.size w w' ∧ RBytes w'.cell? d (votedD l au ro) := by
  obtain ⟨A, c, rfl, _⟩ := id hv
  obtain ⟨_, hcap, hlen, hel⟩ := hv.at
  have Hel := Lib.hid hel
  clear hel
  obtain ⟨p, hp⟩ : ∃ p, Hid (tableF l = p) := ⟨_, rfl⟩
  obtain ⟨s, hs⟩ : ∃ s, Hid (slotAt l au ro = s) := ⟨_, rfl⟩
  have hslt : s < l.length := hs.out ▸ slotAt_lt
  have HE : Hid (votedE l au ro = if p ≠ 0 then p else if s < 0 then 8 else 0) := by show _ = _; rw [votedE, hp.out, hs.out]
  have HD : Hid (votedD l au ro = if p ≠ 0 then [] else if s < 0 then [] else match l[s.toNat]? with | some s => s.digest | none => []) := by show _ = _; rw [votedD, hp.out, hs.out]
  go_enter Try.func15, Try.ntmps15
  go_wp2_with fail
  refine (tableCheck_any _ l _ hv).mono ?_
  rintro e w1 ⟨rfl, hb1⟩
  rw [hp.out]
  have hv1 := hv.mono RSlot.mono (vle_below hb1)
  by_cases hp0 : p = 0
  · subst hp0
    go_wp2_with fail
    refine (find_any _ l au ro _ hv1).mono ?_
    rintro e w2 ⟨rfl, hb2⟩
    have hb02 := hb1.trans (hb2.mono hb1.size)
    rw [hs.out]
    by_cases hs0 : s < 0
    · go_wp2
      go_ret2
      exact ⟨_, by rw [HE.out, if_neg (by simp), if_pos hs0]; rfl, hb02, by rw [HD.out, if_neg (by simp), if_pos hs0]; exact RVec.nil _ _ _⟩
    · obtain ⟨k, rfl⟩ := Int.eq_ofNat_of_zero_le (show 0 ≤ s by omega)
      have hk : k < l.length := by omega
      obtain ⟨b0, o0, d, rfl, e0, e1, e2, hd⟩ := Hel.out k hk
      have c2 := vle_below hb02 _ _ e2
      have hd2 := hd.mono (vle_below hb02)
      clear e0 e1 e2 hd
      go_wp2_with fail
      refine (cloneB_any d _ _ hd2).mono ?_
      rintro e w3 ⟨d', rfl, hb3, ho⟩
      have hlenk : l[k].digest.length * 1 ≤ 140737488355328 := by obtain ⟨_, _, _, _, _, h, _⟩ := hd2; exact h
      have hr := ho.reads hlenk
      go_wp2
      go_ret2
      exact ⟨_, by rw [HE.out, if_neg (by simp), if_neg (by omega)]; rfl, hb02.trans (hb3.mono hb02.size), by rw [HD.out, if_neg (by simp), if_neg (by omega)]; simpa [hk] using hr⟩
  · go_wp2
    go_ret2
    exact ⟨_, by rw [HE.out, if_pos hp0]; rfl, hb1, by rw [HD.out, if_pos hp0]; exact RVec.nil _ _ _⟩
set_option maxHeartbeats 1000000 in
set_option maxRecDepth 100000 in
theorem votedFor_any (v : Value) (l : List Slot) (au ro : Int) (w : World) (hv : RSlots w.cell? v l) :
    Calls Try.prog 17 #[v, .int .i64 au, .int .i64 ro] w fun e w' => ∃ d, e = .returned (.tuple #[d, .int .i64 (votedE l au ro)]) ∧ Below w.heap.size w w' ∧ RBytes w'.cell? d (votedD l au ro) := by
  obtain ⟨A, c, rfl, _⟩ := id hv
  obtain ⟨_, hcap, hlen, hel⟩ := hv.at
  have Hel := Lib.hid hel
  clear hel
  obtain ⟨p, hp⟩ : ∃ p, Hid (tableF l = p) := ⟨_, rfl⟩
  obtain ⟨s, hs⟩ : ∃ s, Hid (slotAt l au ro = s) := ⟨_, rfl⟩
  have hslt : s < l.length := hs.out ▸ slotAt_lt
  have HE : Hid (votedE l au ro = if p ≠ 0 then p else if s < 0 then 8 else 0) := by show _ = _; rw [votedE, hp.out, hs.out]
  have HD : Hid (votedD l au ro = if p ≠ 0 then [] else if s < 0 then [] else match l[s.toNat]? with | some s => s.digest | none => []) := by show _ = _; rw [votedD, hp.out, hs.out]
  go_enter Try.func17, Try.ntmps17
  go_wp2_with fail
  refine (tableFault_any _ l _ hv).mono ?_
  rintro e w1 ⟨rfl, hb1⟩
  rw [hp.out]
  have hv1 := hv.mono RSlot.mono (vle_below hb1)
  by_cases hp0 : p = 0
  · subst hp0
    go_wp2_with fail
    refine (slotAt_any _ l au ro _ hv1).mono ?_
    rintro e w2 ⟨rfl, rfl⟩
    rw [hs.out]
    by_cases hs0 : s < 0
    · go_wp2
      go_ret2
      exact ⟨_, by rw [HE.out, if_neg (by simp), if_pos hs0]; rfl, hb1, by rw [HD.out, if_neg (by simp), if_pos hs0]; exact RVec.nil _ _ _⟩
    · obtain ⟨k, rfl⟩ := Int.eq_ofNat_of_zero_le (show 0 ≤ s by omega)
      have hk : k < l.length := by omega
      obtain ⟨b0, o0, d, rfl, e0, e1, e2, hd⟩ := Hel.out k hk
      have c2 := vle_below hb1 _ _ e2
      have hd2 := hd.mono (vle_below hb1)
      clear e0 e1 e2 hd
      have hlenk : l[k].digest.length * 1 ≤ 140737488355328 := by obtain ⟨_, _, _, _, _, h, _⟩ := hd2; exact h
      go_wp2_with fail
      refine (joined_any d _ _ [] _ hd2 (RVec.nil _ _ _) 140737488355328 (Nat.le_refl _) (by simp; omega)).mono ?_
      rintro e w3 ⟨d', rfl, hb3, ho⟩
      rw [List.append_nil] at ho
      have hr := ho.reads hlenk
      go_wp2
      go_ret2
      exact ⟨_, by rw [HE.out, if_neg (by simp), if_neg (by omega)]; rfl, hb1.trans (hb3.mono hb1.size), by rw [HD.out, if_neg (by simp), if_neg (by omega)]; simpa [hk] using hr⟩
  · go_wp2
    go_ret2
    exact ⟨_, by rw [HE.out, if_pos hp0]; rfl, hb1, by rw [HD.out, if_pos hp0]; exact RVec.nil _ _ _⟩
end Go.Proofs.Ytelfbgfggkhpjaa
