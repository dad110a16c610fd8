/- seal.Signed and the document's answer; the law SealSigned. -/
import Derived.Test.YtelfbgfggkhpjaaSign3
import Derived.Test.YtelfbgfggkhpjaaChg2
namespace Go.Proofs.Ytelfbgfggkhpjaa
open Go.ChangeShapes Go.WideShapes Go.ChangeAt Go.RowKit
set_option linter.unusedVariables false
def signedE (l : List Sign) (bad : Int) (s : Sign) : Int := if signsF l ≠ 0 then signsF l else if inB bad (-1) 3 then signF s.node s.slot.author s.slot.round s.slot.digest.length else 2
def signedB (l : List Sign) (bad : Int) (s : Sign) : Bool := if signedE l bad s ≠ 0 then false else s.node == bad || hasSign l s
set_option maxHeartbeats 1000000 in
set_option maxRecDepth 100000 in
theorem bad_any (n : Int) (w : World) : Calls Try.prog 44 #[.int .i64 n] w fun e w' => e = .returned (.bool (inB n (-1) 3)) ∧ w = w' := by
  by_cases h1 : -1 ≤ n <;> by_cases h2 : n < 4
  all_goals
    have hB : inB n (-1) 3 = decide (-1 ≤ n ∧ n ≤ 3) := rfl
    go_enter Try.func44, Try.ntmps44
    go_wp2
    go_ret
    exact ⟨ret_bool (by simp [inB]; try omega), rfl⟩
set_option maxHeartbeats 1000000 in
set_option maxRecDepth 100000 in
theorem signed_any (v : Value) (l : List Sign) (bad : Int) (s : Sign) (sd : Value) (w : World) (hv : RSigns w.cell? v l) (hsd : RBytes w.cell? sd s.slot.digest) :
    Calls Try.prog 18 #[v, .int .i64 bad, .agg #[.int .i64 s.node, .int .i64 s.slot.author, .int .i64 s.slot.round, sd]] w fun e w' => e = .returned (.tuple #[.bool (signedB l bad s), .int .i64 (signedE l bad s)]) ∧ Below w.heap.size w w' := by
  obtain ⟨p, hp⟩ : ∃ p, Hid (signsF l = p) := ⟨_, rfl⟩
  obtain ⟨q, hq⟩ : ∃ q, Hid (signF s.node s.slot.author s.slot.round s.slot.digest.length = q) := ⟨_, rfl⟩
  obtain ⟨b, hb⟩ : ∃ b, Hid (inB bad (-1) 3 = b) := ⟨_, rfl⟩
  obtain ⟨z, hz⟩ : ∃ z, Hid (hasSign l s = z) := ⟨_, rfl⟩
  have HE : Hid (signedE l bad s = if p ≠ 0 then p else if b then q else 2) := by show _ = _; rw [signedE, hp.out, hq.out, hb.out]
  have HB : Hid (signedB l bad s = if (if p ≠ 0 then p else if b then q else 2) ≠ 0 then false else s.node == bad || z) := by show _ = _; rw [signedB, HE.out, hz.out]
  obtain ⟨sA, sc, rfl, _⟩ := id hsd
  go_enter Try.func18, Try.ntmps18
  go_wp2_with fail
  refine one_block _ _ _ (fun W => Calls Try.prog _ _ W _) (fun W hk hsz hbw => ?_)
  refine (sealCheck_any _ l _ (hv.mono RSign.mono (vle_below hbw))).mono ?_
  rintro e w1 ⟨rfl, hb1⟩
  rw [hp.out]
  have hbl1 := hbw.trans (hb1.mono (by omega))
  have hk1 := hk.kept hb1
  clear hb1
  by_cases hp0 : p = 0
  · subst hp0
    go_wp2_with fail
    refine (bad_any _ _).mono ?_
    rintro e w' ⟨rfl, rfl⟩
    rw [hb.out]
    cases b
    · go_wp2
      go_ret2
      exact ⟨by rw [HE.out, HB.out]; rfl, hbl1⟩
    · have c0 := hk1.cell 0
      have c1 := hk1.cell 1
      have c2 := hk1.cell 2
      have c3 := hk1.cell 3
      simp at c0 c1 c2 c3
      go_wp2_with fail
      refine (sealSign_any _ _ _ _ _ _ _).mono ?_
      rintro e w2 ⟨rfl, hb2⟩
      rw [hq.out]
      have hbl2 := hbl1.trans (hb2.mono hbl1.size)
      have hk2 := hk1.kept hb2
      clear c0 c1 c2 c3
      have c0 := hk2.cell 0
      have c1 := hk2.cell 1
      have c2 := hk2.cell 2
      have c3 := hk2.cell 3
      simp at c0 c1 c2 c3
      by_cases hq0 : q = 0
      · subst hq0
        cases hn : (s.node == bad)
        · go_wp2_with fail
          refine (sealHas_any _ l s _ _ (hv.mono RSign.mono (vle_below hbl2)) (hsd.mono (vle_below hbl2))).mono ?_
          rintro e w3 ⟨rfl, hb3⟩
          rw [hz.out]
          go_wp2
          go_ret2
          exact ⟨by rw [HE.out, HB.out, hn]; rfl, hbl2.trans (hb3.mono hbl2.size)⟩
        · go_wp2
          go_ret2
          exact ⟨by rw [HE.out, HB.out, hn]; rfl, hbl2⟩
      · go_wp2
        go_ret2
        exact ⟨by rw [HE.out, HB.out]; simp [hq0], hbl2⟩
  · go_wp2
    go_ret2
    exact ⟨by rw [HE.out, HB.out]; simp [hp0], hbl1⟩
set_option maxHeartbeats 1000000 in
set_option maxRecDepth 100000 in
theorem signedBy_any (v : Value) (l : List Sign) (bad : Int) (s : Sign) (sd : Value) (w : World) (hv : RSigns w.cell? v l) (hsd : RBytes w.cell? sd s.slot.digest) :
    Calls Try.prog 20 #[v, .int .i64 bad, .agg #[.int .i64 s.node, .int .i64 s.slot.author, .int .i64 s.slot.round, sd]] w fun e w' => e = .returned (.tuple #[.bool (signedB l bad s), .int .i64 (signedE l bad s)]) ∧ Below w.heap.size w w' := by
  obtain ⟨p, hp⟩ : ∃ p, Hid (signsF l = p) := ⟨_, rfl⟩
  obtain ⟨q, hq⟩ : ∃ q, Hid (signF s.node s.slot.author s.slot.round s.slot.digest.length = q) := ⟨_, rfl⟩
  obtain ⟨b, hb⟩ : ∃ b, Hid (inB bad (-1) 3 = b) := ⟨_, rfl⟩
  obtain ⟨z, hz⟩ : ∃ z, Hid (hasSign l s = z) := ⟨_, rfl⟩
  have HE : Hid (signedE l bad s = if p ≠ 0 then p else if b then q else 2) := by show _ = _; rw [signedE, hp.out, hq.out, hb.out]
  have HB : Hid (signedB l bad s = if (if p ≠ 0 then p else if b then q else 2) ≠ 0 then false else s.node == bad || z) := by show _ = _; rw [signedB, HE.out, hz.out]
  obtain ⟨sA, sc, rfl, _⟩ := id hsd
  go_enter Try.func20, Try.ntmps20
  go_wp2_with fail
  refine one_block _ _ _ (fun W => Calls Try.prog _ _ W _) (fun W hk hsz hbw => ?_)
  refine (signsFault_any _ l _ (hv.mono RSign.mono (vle_below hbw))).mono ?_
  rintro e w1 ⟨rfl, hb1⟩
  rw [hp.out]
  have hbl1 := hbw.trans (hb1.mono (by omega))
  have hk1 := hk.kept hb1
  clear hb1
  by_cases hp0 : p = 0
  · subst hp0
    go_wp2_with fail
    refine (in_any _ _ _ _).mono ?_
    rintro e w' ⟨rfl, rfl⟩
    rw [hb.out]
    cases b
    · go_wp2
      go_ret2
      exact ⟨by rw [HE.out, HB.out]; rfl, hbl1⟩
    · have c0 := hk1.cell 0
      have c1 := hk1.cell 1
      have c2 := hk1.cell 2
      have c3 := hk1.cell 3
      simp at c0 c1 c2 c3
      go_wp2_with fail
      refine (signFault_any _ _ _ _ _ _ _).mono ?_
      rintro e w2 ⟨rfl, hb2⟩
      rw [hq.out]
      have hbl2 := hbl1.trans (hb2.mono hbl1.size)
      have hk2 := hk1.kept hb2
      clear c0 c1 c2 c3
      have c0 := hk2.cell 0
      have c1 := hk2.cell 1
      have c2 := hk2.cell 2
      have c3 := hk2.cell 3
      simp at c0 c1 c2 c3
      by_cases hq0 : q = 0
      · subst hq0
        cases hn : (s.node == bad)
        · go_wp2_with fail
          refine (hasSign_any _ l s _ _ (hv.mono RSign.mono (vle_below hbl2)) (hsd.mono (vle_below hbl2))).mono ?_
          rintro e w3 ⟨rfl, hb3⟩
          rw [hz.out]
          go_wp2
          go_ret2
          exact ⟨by rw [HE.out, HB.out, hn]; rfl, hbl2.trans (hb3.mono hbl2.size)⟩
        · go_wp2
          go_ret2
          exact ⟨by rw [HE.out, HB.out, hn]; rfl, hbl2⟩
      · go_wp2
        go_ret2
        exact ⟨by rw [HE.out, HB.out]; simp [hq0], hbl2⟩
  · go_wp2
    go_ret2
    exact ⟨by rw [HE.out, HB.out]; simp [hp0], hbl1⟩
end Go.Proofs.Ytelfbgfggkhpjaa
