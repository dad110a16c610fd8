/- Dags: certificates of an author and a round; all digests. -/
import Derived.Test.YtbcoecmeoemmeaaGreatDoorDag1
namespace Go.Proofs.YtbcoecmeoemmeaaGreatDoor
open Go.ChangeShapes Go.WideShapes Go.ChangeAt Go.RowKit
set_option linter.unusedVariables false
set_option linter.unusedSimpArgs false
set_option maxHeartbeats 2000000 in
set_option maxRecDepth 100000 in
theorem certOf_any (vl : Value) (l : List Crt) (a r : Int) (w : World) (hl : RCrts w.cell? vl l) :
    Calls Tryz.prog 65 #[vl, .int .i64 a, .int .i64 r] w fun e w' => e = .returned (.int .i64 (certI l a r)) ∧ Below w.heap.size w w' := by
  obtain ⟨A, c, rfl, hform⟩ := id hl
  clear hform
  obtain ⟨_, hn1, hn2, hel⟩ := hl.at
  have Hel := Lib.hid hel
  clear hl hel
  go_enter Tryz.func65, Tryz.ntmps65
  go_wp2
  go_loopw [7] (fun i wr => ∃ k : Nat, k ≤ l.length ∧ i = .int .i64 k ∧ Hid (∀ j (hj : j < l.length), j < k → isCert a r l[j] = false) ∧ Below w.heap.size w wr) (fun i _ => l.length - (intOf i).toNat)
  case atStart => exact ⟨0, Nat.zero_le _, rfl, fun j _ hj => by omega, Below.refl _ _⟩
  case round =>
    obtain ⟨k, hk, rfl, hno, hbl⟩ := hrel
    by_cases hlt : k < l.length
    · obtain ⟨b0, o0, vb, vp, vv, rfl, q0, q1, _, _, _, _⟩ := Hel.out k hlt
      have c0 := vle_below hbl _ _ q0
      have c1 := vle_below hbl _ _ q1
      have He : ∀ q, (l[k].hdr.author == a && l[k].hdr.round == r) = q → Hid (isCert a r l[k] = q) := fun q h => h
      generalize l[k].hdr.author = x at c0 He
      generalize l[k].hdr.round = y at c1 He
      clear q0 q1
      have miss : ∀ (hq : Hid (isCert a r l[k] = false)), Hid (∀ j (hj : j < l.length), j < k + 1 → isCert a r l[j] = false) := fun hq j hj hjk => by
        by_cases e : j = k
        · subst e; exact hq.out
        · exact hno.out j hj (by omega)
      by_cases h1 : x = a
      · by_cases h2 : y = r
        · have Hb := He true (by simp [h1, h2])
          clear He miss
          subst h1 h2
          go_wp2
          go_ret
          exact ⟨ret_int (idxI_found hlt hno.out Hb.out).symm, hbl⟩
        · have Hb := miss (He false (by simp [h2]))
          clear He miss
          subst h1
          go_wp2
          go_roundw
          case rel => exact ⟨k + 1, by omega, by go_num, Hb, hbl⟩
          case measure => simp [intOf]; omega
      · have Hb := miss (He false (by simp [h1]))
        clear He miss
        go_wp2
        go_roundw
        case rel => exact ⟨k + 1, by omega, by go_num, Hb, hbl⟩
        case measure => simp [intOf]; omega
    · go_wp2
      go_ret
      exact ⟨ret_int (idxI_none fun j hj => hno.out j hj (by omega)).symm, hbl⟩
set_option maxHeartbeats 2000000 in
set_option maxRecDepth 100000 in
theorem takenFn_any (cs : List Value) (x : Crt) (a r : Int) (vb vp : Value) (g : Nat) (w : World) (hblk : Blk w g 65 #[.int .i64 a, .int .i64 r, vb, vp]) (hx : RCrt w.cell? cs x) :
    Calls Tryz.prog 127 (#[.agg cs.toArray] ++ #[.pointer (some ⟨g, 0, none⟩)]) w fun e w' => e = .returned (.bool (isCert a r x)) ∧ Below w.heap.size w w' := by
  obtain ⟨ub, up, uv, rfl, _, _, _⟩ := hx
  show Calls Tryz.prog 127 #[.agg #[.int .i64 x.hdr.author, .int .i64 x.hdr.round, ub, up, uv], .pointer (some ⟨g, 0, none⟩)] w _
  have hbb := below_one w (.cells #[.int .i64 x.hdr.author, .int .i64 x.hdr.round, ub, up, uv] 68)
  have hB := hblk.kept hbb
  have g0 := hB.cell 0; have g1 := hB.cell 1
  simp at g0 g1
  clear hB hblk
  have He : ∀ q, (x.hdr.author == a && x.hdr.round == r) = q → Hid (isCert a r x = q) := fun q h => h
  generalize x.hdr.author = x0 at g0 He hbb g1 ⊢
  generalize x.hdr.round = y0 at g0 He hbb g1 ⊢
  by_cases h1 : x0 = a
  · by_cases h2 : y0 = r
    · have Hb := He true (by simp [h1, h2])
      clear He
      subst h1 h2
      go_enter Tryz.func127, Tryz.ntmps127
      go_wp2
      go_ret
      exact ⟨ret_bool Hb.out.symm, hbb⟩
    · have Hb := He false (by simp [h2])
      clear He
      subst h1
      go_enter Tryz.func127, Tryz.ntmps127
      go_wp2
      go_ret
      exact ⟨ret_bool (by rw [Hb.out]; simp [h2]), hbb⟩
  · have Hb := He false (by simp [h1])
    clear He
    go_enter Tryz.func127, Tryz.ntmps127
    go_wp2
    go_ret
    exact ⟨ret_bool Hb.out.symm, hbb⟩
set_option maxHeartbeats 2000000 in
set_option maxRecDepth 100000 in
theorem certTaken_any (vl : Value) (l : List Crt) (h : Hdr) (vb vp : Value) (w : World) (hl : RCrts w.cell? vl l) :
    Calls Tryz.prog 88 #[vl, .agg #[.int .i64 h.author, .int .i64 h.round, vb, vp]] w fun e w' => e = .returned (.bool (taken l h)) ∧ Below w.heap.size w w' := by
  obtain ⟨A, c, rfl, hform⟩ := id hl
  clear hform
  have hbb := below_one w (.cells #[.int .i64 h.author, .int .i64 h.round, vb, vp] 65)
  have hlb := hl.mono RCrt.mono (vle_below hbb)
  have hk := Blk.new w 65 #[.int .i64 h.author, .int .i64 h.round, vb, vp]
  obtain ⟨Z, hZ⟩ : ∃ Z, Hid (taken l h = Z) := ⟨_, rfl⟩
  rw [hZ.out]
  go_enter Tryz.func88, Tryz.ntmps88
  go_wp2_with fail
  refine (hasCrts_any 127 #[.pointer (some ⟨w.heap.size, 0, none⟩)] (isCert h.author h.round) (enters_of_func Tryz.func127 (by kernel_rfl) rfl) _ l _ hlb (fun W cs x hW hx => takenFn_any cs x _ _ _ _ _ W (hk.kept hW) hx)).mono ?_
  rintro e w1 ⟨rfl, hb1⟩
  have hbl := hbb.trans (hb1.mono hbb.size)
  rw [show l.any (isCert h.author h.round) = Z from hZ.out]
  clear hlb hk hl hZ
  go_wp2
  go_ret
  exact ⟨rfl, hbl⟩
set_option maxHeartbeats 2000000 in
set_option maxRecDepth 100000 in
theorem digest_any (c : Crt) (vb vp vv : Value) (w : World) (hb : RDigs w.cell? vb c.hdr.batches) (hp : RDigs w.cell? vp c.hdr.parents) (hT : Tabs w.cell?) :
    Calls Tryz.prog 90 #[.agg #[.int .i64 c.hdr.author, .int .i64 c.hdr.round, vb, vp, vv]] w fun e w' => ∃ d, e = .returned d ∧ Below w.heap.size w w' ∧ RBytes (View.from w'.cell? w.heap.size) d (hdrDR c.hdr.author c.hdr.round c.hdr.batches c.hdr.parents) := by
  obtain ⟨bA, bc, rfl, _⟩ := id hb
  obtain ⟨pA, pc, rfl, _⟩ := id hp
  obtain ⟨R, hR⟩ : ∃ R, Hid (hdrDR c.hdr.author c.hdr.round c.hdr.batches c.hdr.parents = R) := ⟨_, rfl⟩
  rw [hR.out]
  go_enter Tryz.func90, Tryz.ntmps90
  go_wp2_with fail
  refine one_block _ _ _ (fun W => Calls Tryz.prog _ _ W _) (fun W hk hszW hbW => ?_)
  have q := vle_below hbW
  refine (headerDigestW_any _ _ _ _ c.hdr.batches c.hdr.parents _ (hb.mono RDig.mono q) (hp.mono RDig.mono q) (hT.mono q)).mono ?_
  rintro e w1 ⟨d, rfl, hb1, hr⟩
  rw [hR.out] at hr
  generalize headF c.hdr.author c.hdr.round c.hdr.batches c.hdr.parents = E
  clear hk hT
  go_wp2
  go_ret
  exact ⟨_, rfl, hbW.trans (hb1.mono hbW.size), hr.mono (from_from hbW.size)⟩
theorem hdrDR_valid {h : Hdr} (hv : hF h = 0) : hdrDR h.author h.round h.batches h.parents = hD h := if_pos hv
theorem from_from_but {h : View} {b b' : Nat} {g : Option Nat} (hb : b' ≤ b) (hg : ∀ k, g = some k → k < b) : VLe (View.from h b) (View.from (View.but h g) b') := fun a v e => by
  unfold View.from at e ⊢
  split at e
  · cases e
  · rename_i hne
    rw [if_neg (by omega)]
    unfold View.but
    rw [if_neg (by intro h; have := hg _ h.symm; omega)]
    exact e
set_option maxHeartbeats 2000000 in
set_option maxRecDepth 100000 in
theorem all_any (vl : Value) (l : List Crt) (w : World) (hl : RCrts w.cell? vl l) (hv : ∀ c ∈ l, hF c.hdr = 0) (hT : Tabs w.cell?) :
    Calls Tryz.prog 48 #[vl] w fun e w' => ∃ v', e = .returned v' ∧ Below w.heap.size w w' ∧ OwnSl 1 (RFrom w.heap.size RDig) 41 w' w.heap.size v' (dsOf hD l) := by
  obtain ⟨A, c, rfl, hform⟩ := id hl
  clear hform
  obtain ⟨_, hcap, hlen, hel⟩ := hl.at
  have Hel := Lib.hid hel
  have Hv := Lib.hid hv
  clear hel hl hv
  go_enter Tryz.func48, Tryz.ntmps48
  go_wp2
  go_loopw [3, 5, 8] (fun v _ i wr => ∃ k : Nat, k ≤ l.length ∧ i = .int .i64 k ∧ OwnSl 1 (RFrom w.heap.size RDig) 41 wr w.heap.size v (dsOf hD (l.take k)) ∧ Below w.heap.size w wr) (fun _ _ i _ => l.length - (intOf i).toNat)
  case atStart => exact ⟨0, Nat.zero_le _, rfl, OwnSl.nil _ _ _ _ _, Below.refl _ _⟩
  case round =>
    obtain ⟨k, hk, rfl, hown, hbl⟩ := hrel
    have hbs := hbl.size
    by_cases hlt : k < l.length
    · obtain ⟨b0, o0, vb, vp, vv, rfl, q0, q1, q2, q3, q4, hb, hp, hvv⟩ := Hel.out k hlt
      obtain ⟨bA, bc, rfl, hf1⟩ := id hb
      obtain ⟨pA, pc, rfl, hf2⟩ := id hp
      obtain ⟨vA, vc, rfl, hf3⟩ := id hvv
      clear hf1 hf2 hf3 hvv
      have c0 := vle_below hbl _ _ q0
      have c1 := vle_below hbl _ _ q1
      have c2 := vle_below hbl _ _ q2
      have c3 := vle_below hbl _ _ q3
      have c4 := vle_below hbl _ _ q4
      have hb' := hb.mono RDig.mono (vle_below hbl)
      have hp' := hp.mono RDig.mono (vle_below hbl)
      have hval := Lib.hid (Hv.out l[k] (List.getElem_mem hlt))
      have Hn := Lib.hid (show dsOf hD (l.take (k + 1)) = dsOf hD (l.take k) ++ [hD l[k].hdr] by unfold dsOf; rw [List.take_succ_eq_append_getElem hlt, List.map_append, List.map_singleton])
      have Hlk := Lib.hid (show (dsOf hD (l.take k)).length = k by unfold dsOf; simp; omega)
      clear q0 q1 q2 q3 q4 hb hp
      generalize dsOf hD (l.take k) = L at hown Hn Hlk
      generalize l[k] = x at c0 c1 c2 c3 c4 hb' hp' hval Hn
      go_wp2_with fail
      refine one_block _ _ _ (fun W => Calls Tryz.prog _ _ W _) (fun W hk' hszW hbW => ?_)
      have qW := vle_below hbW
      have hblW := hbl.trans (hbW.mono hbs)
      refine (digest_any x _ _ _ _ (hb'.mono RDig.mono qW) (hp'.mono RDig.mono qW) (hT.mono (vle_below hblW))).mono ?_
      rintro e w1 ⟨d, rfl, hbx, hr⟩
      rw [hdrDR_valid hval.out] at hr
      have hb1 := hbW.trans (hbx.mono hbW.size)
      have hr := hr.mono (from_from hbW.size)
      have hown1 := hown.kept (RFrom.mono RDig.mono) hb1
      have hbl1 : Below w.heap.size w w1 := hbl.trans (hb1.mono hbs)
      have hR : RFrom w.heap.size RDig (View.but w1.cell? u3.ownBlock) [d] (hD x.hdr) :=
        ⟨d, rfl, hr.mono (from_from_but hbs (fun g hg => (hown.lt g hg).2))⟩
      have hs1 := hb1.size
      obtain ⟨A', c', rfl, hform⟩ := id hr
      clear hform c0 c1 c2 c3 c4 hb' hp' hr
      go_wp2_with (at_builtin; go_loud (refine wpList_append_sl1 (n := 140737488355328) (RFrom.mono RDig.mono) (hD x.hdr) [.slice A' (hD x.hdr).length c'] elemDig _ _ rfl rfl rfl hown1 hbl1 (Nat.le_trans hbs hs1) rfl rfl rfl rfl hR (Nat.le_refl _) (by rw [Hlk.out]; omega) (by rw [Hlk.out]; omega) ?_))
      intro v' w2 ho hbl2 _
      clear hown hown1 hR
      go_wp2
      go_roundw
      case rel => exact ⟨k + 1, by omega, by go_num, by rw [Hn.out]; exact ho, hbl2⟩
      case measure => simp [intOf]; omega
    · have : k = l.length := by omega
      subst this
      go_wp2
      go_ret
      exact ⟨_, rfl, hbl, by simpa using hown⟩
set_option maxHeartbeats 2000000 in
set_option maxRecDepth 100000 in
theorem digestsOf_any (vl : Value) (l : List Crt) (w : World) (hl : RCrts w.cell? vl l) (hv : ∀ c ∈ l, hF c.hdr = 0) :
    Calls Tryz.prog 61 #[vl] w fun e w' => ∃ v', e = .returned v' ∧ Below w.heap.size w w' ∧ OwnSl 1 (RFrom w.heap.size RDig) 41 w' w.heap.size v' (dsOf hD l) := by
  obtain ⟨A, c, rfl, hform⟩ := id hl
  clear hform
  obtain ⟨_, hcap, hlen, hel⟩ := hl.at
  have Hel := Lib.hid hel
  have Hv := Lib.hid hv
  clear hel hl hv
  go_enter Tryz.func61, Tryz.ntmps61
  go_wp2
  go_loopw [3, 4, 5] (fun v i _ wr => ∃ k : Nat, k ≤ l.length ∧ i = .int .i64 k ∧ OwnSl 1 (RFrom w.heap.size RDig) 41 wr w.heap.size v (dsOf hD (l.take k)) ∧ Below w.heap.size w wr) (fun _ i _ _ => l.length - (intOf i).toNat)
  case atStart => exact ⟨0, Nat.zero_le _, rfl, OwnSl.nil _ _ _ _ _, Below.refl _ _⟩
  case round =>
    obtain ⟨k, hk, rfl, hown, hbl⟩ := hrel
    have hbs := hbl.size
    by_cases hlt : k < l.length
    · obtain ⟨b0, o0, vb, vp, vv, rfl, q0, q1, q2, q3, q4, hb, hp, hvv⟩ := Hel.out k hlt
      obtain ⟨bA, bc, rfl, hf1⟩ := id hb
      obtain ⟨pA, pc, rfl, hf2⟩ := id hp
      obtain ⟨vA, vc, rfl, hf3⟩ := id hvv
      clear hf1 hf2 hf3 hvv
      have c0 := vle_below hbl _ _ q0
      have c1 := vle_below hbl _ _ q1
      have c2 := vle_below hbl _ _ q2
      have c3 := vle_below hbl _ _ q3
      have c4 := vle_below hbl _ _ q4
      have hb' := hb.mono RDig.mono (vle_below hbl)
      have hp' := hp.mono RDig.mono (vle_below hbl)
      have hval := Lib.hid (Hv.out l[k] (List.getElem_mem hlt))
      have Hn := Lib.hid (show dsOf hD (l.take (k + 1)) = dsOf hD (l.take k) ++ [hD l[k].hdr] by unfold dsOf; rw [List.take_succ_eq_append_getElem hlt, List.map_append, List.map_singleton])
      have Hlk := Lib.hid (show (dsOf hD (l.take k)).length = k by unfold dsOf; simp; omega)
      clear q0 q1 q2 q3 q4 hb hp
      generalize dsOf hD (l.take k) = L at hown Hn Hlk
      generalize l[k] = x at c0 c1 c2 c3 c4 hb' hp' hval Hn
      obtain ⟨z0, z1, z2⟩ := headF_zero4 hval.out
      go_wp2_with fail
      refine (headerDigestR_any _ _ _ _ x.hdr.batches x.hdr.parents _ (by omega) (by omega) hb' hp' (by omega)).mono ?_
      rintro e w1 ⟨d, rfl, hb1, hr⟩
      have hr : RBytes (View.from w1.cell? wr.heap.size) d (hD x.hdr) := hr
      have hown1 := hown.kept (RFrom.mono RDig.mono) hb1
      have hbl1 : Below w.heap.size w w1 := hbl.trans (hb1.mono hbs)
      have hR : RFrom w.heap.size RDig (View.but w1.cell? u3.ownBlock) [d] (hD x.hdr) :=
        ⟨d, rfl, hr.mono (from_from_but hbs (fun g hg => (hown.lt g hg).2))⟩
      have hs1 := hb1.size
      obtain ⟨A', c', rfl, hform⟩ := id hr
      clear hform c0 c1 c2 c3 c4 hb' hp' hr
      go_wp2_with (at_builtin; go_loud (refine wpList_append_sl1 (n := 140737488355328) (RFrom.mono RDig.mono) (hD x.hdr) [.slice A' (hD x.hdr).length c'] elemDig _ _ rfl rfl rfl hown1 hbl1 (Nat.le_trans hbs hs1) rfl rfl rfl rfl hR (Nat.le_refl _) (by rw [Hlk.out]; omega) (by rw [Hlk.out]; omega) ?_))
      intro v' w2 ho hbl2 _
      clear hown hown1 hR
      go_wp2
      go_roundw
      case rel => exact ⟨k + 1, by omega, by go_num, by rw [Hn.out]; exact ho, hbl2⟩
      case measure => simp [intOf]; omega
    · have : k = l.length := by omega
      subst this
      go_wp2
      go_ret
      exact ⟨_, rfl, hbl, by simpa using hown⟩
end Go.Proofs.YtbcoecmeoemmeaaGreatDoor
