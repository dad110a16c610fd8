/- Sum and Tagged, of the program and of the document. -/
import Derived.Test.YtbcoecmeoemmeaaGreatDoorBlakeS
import Derived.Test.YtbcoecmeoemmeaaGreatDoorHead
namespace Go.Proofs.YtbcoecmeoemmeaaGreatDoor
open Go.ChangeShapes Go.WideShapes Go.ChangeAt Go.RowKit
set_option linter.unusedVariables false
set_option linter.unusedSimpArgs false
def sumE (b : List UInt8) : Int := if 4000 < b.length then 1 else 0
def sumR (b : List UInt8) : List UInt8 := if 4000 < b.length then [] else sumB b
/-- a tag, and parts behind their lengths -/
def tagRow (tag : UInt8) (l : List (List UInt8)) : List UInt8 := tag :: (l.map fun p => [UInt8.ofNat (p.length / 256), UInt8.ofNat (p.length % 256)] ++ p).flatten
def tagE (tag : UInt8) (l : List (List UInt8)) : Int := if 4000 < (tagRow tag l).length then 1 else 0
def tagR (tag : UInt8) (l : List (List UInt8)) : List UInt8 := if 4000 < (tagRow tag l).length then [] else sumB (tagRow tag l)
theorem tagRow_succ (tag : UInt8) (l : List (List UInt8)) {k : Nat} (hk : k < l.length) : tagRow tag (l.take (k + 1)) = tagRow tag (l.take k) ++ [UInt8.ofNat (l[k].length / 256), UInt8.ofNat (l[k].length % 256)] ++ l[k] := by
  unfold tagRow
  rw [List.take_succ_eq_append_getElem hk, List.map_append, List.flatten_append, List.map_singleton, List.flatten_singleton]
  simp only [List.cons_append, List.nil_append, List.append_assoc]
theorem tagRow_len (tag : UInt8) (l : List (List UInt8)) {k : Nat} (hk : k < l.length) : (tagRow tag (l.take (k + 1))).length = (tagRow tag (l.take k)).length + 2 + l[k].length := by
  rw [tagRow_succ tag l hk]; simp; omega
theorem tagRow_le (tag : UInt8) (l : List (List UInt8)) (k : Nat) : (tagRow tag (l.take k)).length ≤ (tagRow tag l).length := by
  have : l = l.take k ++ l.drop k := (List.take_append_drop k l).symm
  conv => rhs; rw [this]
  unfold tagRow
  rw [List.map_append, List.flatten_append]
  simp
theorem u8_hi {n : Nat} : IntKind.u8.wrap ((n : Int) / 256) = ((UInt8.ofNat (n / 256)).toNat : Int) := by
  rw [IntKind.wrap_u8, UInt8.toNat_ofNat']; omega
theorem u8_lo {n : Nat} : IntKind.u8.wrap (n : Int) = ((UInt8.ofNat (n % 256)).toNat : Int) := by
  rw [IntKind.wrap_u8, UInt8.toNat_ofNat']; omega
theorem u8_lo' {n : Nat} : IntKind.u8.wrap ((n : Int) % 256) = ((UInt8.ofNat (n % 256)).toNat : Int) := by
  rw [IntKind.wrap_u8, UInt8.toNat_ofNat']; omega
set_option maxHeartbeats 2000000 in
set_option maxRecDepth 100000 in
theorem tagged_any (tag : UInt8) (v : Value) (l : List (List UInt8)) (w : World) (hv : RDigs w.cell? v l) (hT : Tabs w.cell?) :
    Calls Tryz.prog 51 #[.int .u8 tag.toNat, v] w fun e w' => ∃ d, e = .returned (.tuple #[d, .int .i64 (tagE tag l)]) ∧ Below w.heap.size w w' ∧ RBytes (View.from w'.cell? w.heap.size) d (tagR tag l) := by
  obtain ⟨A, c, rfl, _⟩ := id hv
  obtain ⟨_, hcap, hlen, hel⟩ := hv.at
  have Hel := Lib.hid hel
  have HT := Lib.hid hT
  clear hel hv hT
  obtain ⟨E, hE⟩ : ∃ E, Hid (tagE tag l = E) := ⟨_, rfl⟩
  obtain ⟨R, hR⟩ : ∃ R, Hid (tagR tag l = R) := ⟨_, rfl⟩
  rw [hE.out, hR.out]
  go_enter Tryz.func51, Tryz.ntmps51
  go_wp2_with fail
  go_loopw [6, 13] (fun v i wr => ∃ k : Nat, k ≤ l.length ∧ i = .int .i64 k ∧ OwnB wr w.heap.size v (tagRow tag (l.take k)) ∧ (tagRow tag (l.take k)).length ≤ 4000 ∧ Below w.heap.size w wr) (fun _ i _ => l.length - (intOf i).toNat)
  case atStart => exact ⟨0, Nat.zero_le _, rfl, OwnVec.lit (xs := [tag]) (Blk.new _ _ _) (Nat.le_refl _) rfl (by decide), by simp [tagRow], below_one _ _⟩
  case round =>
    obtain ⟨k, hk, rfl, hown, hle, hbl⟩ := hrel
    have hz := hbl.size
    obtain ⟨oA, oc, rfl⟩ := hown.form
    by_cases hlt : k < l.length
    · obtain ⟨b0, o0, d, rfl, q0, hd⟩ := Hel.out k hlt
      have c0 := vle_below hbl _ _ q0
      obtain ⟨dA, dc, rfl, _⟩ := id hd
      have Hd := Lib.hid hd
      have Hn := Lib.hid (tagRow_succ tag l hlt)
      have hln := tagRow_len tag l hlt
      have hle2 := tagRow_le tag l (k + 1)
      clear q0 hd
      generalize hB : tagRow tag (l.take k) = B at hown hle Hn hln
      generalize l[k] = p at Hd Hn hln c0
      obtain ⟨m, hm⟩ : ∃ m, Hid (p.length = m) := ⟨_, rfl⟩
      obtain ⟨n, hn⟩ : ∃ n, Hid (B.length = n) := ⟨_, rfl⟩
      have hBl := hn.out
      rw [hm.out] at hln c0 Hn Hd
      rw [hn.out] at hln hle hown
      by_cases hbad : 4000 < n + 2 + m
      · have HE : Hid (E = 1) := by show _ = _; rw [← hE.out]; exact if_pos (by omega)
        have HR : Hid (R = []) := by show _ = _; rw [← hR.out]; exact if_pos (by omega)
        rw [hn.out]
        go_wp2
        all_goals
          go_ret2
          exact ⟨_, by rw [HE.out]; rfl, hbl, by rw [HR.out]; exact RVec.nil _ _ _⟩
      · have u0 := u8_hi (n := m)
        have u1 := u8_lo (n := m)
        generalize UInt8.ofNat (m / 256) = U0 at u0 Hn
        generalize UInt8.ofNat (m % 256) = U1 at u1 Hn
        have hown : OwnB wr w.heap.size (.slice oA n oc) B := hown
        rw [hn.out]
        go_wp2_with (at_builtin; first
          | (refine wpList_append_vec (n := 140737488355328) (W := w) (ys := [U0, U1]) elemByte encB_one _ _ rfl rfl rfl (hown.alloc _) (hbl.alloc hz _) (le_alloc _ hz) rfl (RVec.ofBlk (xs := [U0, U1]) (Blk.new _ _ _) (by simp) (by simp)) (by decide) (by simp; omega) (by simp; omega) ?_))
        intro v1 w1 ho1 hb1 hg1
        have hz1 := hb1.size
        go_wp2_with (at_builtin; go_loud (refine wpList_append_vec (n := 140737488355328) (W := w) (ys := p) elemByte encB_one _ _ rfl rfl rfl ho1 hb1 hz1 rfl (Hd.out.mono (vle_below hb1)) (by decide) (by simp; have := hm.out; omega) (by simp; have := hm.out; omega) ?_))
        intro v2 w2 ho2 hb2 hg2
        clear hg1 hg2 ho1
        go_wp2
        go_roundw
        case rel => exact ⟨k + 1, by omega, by go_num, by rw [Hn.out]; simpa using ho2, by rw [hln]; omega, hb2⟩
        case measure => simp [intOf]; omega
    · have hkl : k = l.length := by omega
      rw [hkl, List.take_length] at hown hle
      have HE : Hid (E = 0) := by show _ = _; rw [← hE.out]; exact if_neg (by omega)
      have HR : Hid (R = sumB (tagRow tag l)) := by show _ = _; rw [← hR.out]; exact if_neg (by omega)
      obtain ⟨B, hB⟩ : ∃ B, Hid (tagRow tag l = B) := ⟨_, rfl⟩
      rw [hB.out] at hown hle HR
      rw [hkl, List.take_length, hB.out]
      go_wp2_with fail
      refine (bsum_any _ B _ (hown.reads (by omega)) hle (HT.out.mono (vle_below hbl))).mono ?_
      rintro e w1 ⟨d, rfl, hb1, ho⟩
      go_wp2
      go_ret2
      exact ⟨_, by rw [HE.out]; rfl, hbl.trans (hb1.mono hz), by rw [HR.out]; exact ho.from_ (bs := 1) (by rw [sumB_len]; decide) hz⟩
set_option maxHeartbeats 2000000 in
set_option maxRecDepth 100000 in
theorem taggedOf_any (tag : UInt8) (v : Value) (l : List (List UInt8)) (w : World) (hv : RDigs w.cell? v l) :
    Calls Tryz.prog 64 #[.int .u8 tag.toNat, v] w fun e w' => ∃ d, e = .returned (.tuple #[d, .int .i64 (tagE tag l)]) ∧ Below w.heap.size w w' ∧ RBytes (View.from w'.cell? w.heap.size) d (tagR tag l) := by
  obtain ⟨A, c, rfl, _⟩ := id hv
  obtain ⟨_, hcap, hlen, hel⟩ := hv.at
  have Hel := Lib.hid hel
  clear hel hv
  obtain ⟨E, hE⟩ : ∃ E, Hid (tagE tag l = E) := ⟨_, rfl⟩
  obtain ⟨R, hR⟩ : ∃ R, Hid (tagR tag l = R) := ⟨_, rfl⟩
  rw [hE.out, hR.out]
  go_enter Tryz.func64, Tryz.ntmps64
  go_wp2_with fail
  go_loopw [6, 7] (fun v i wr => ∃ k : Nat, k ≤ l.length ∧ i = .int .i64 k ∧ OwnB wr w.heap.size v (tagRow tag (l.take k)) ∧ (tagRow tag (l.take k)).length ≤ 4000 ∧ Below w.heap.size w wr) (fun _ i _ => l.length - (intOf i).toNat)
  case atStart => exact ⟨0, Nat.zero_le _, rfl, OwnVec.lit (xs := [tag]) (Blk.new _ _ _) (Nat.le_refl _) rfl (by decide), by simp [tagRow], below_one _ _⟩
  case round =>
    obtain ⟨k, hk, rfl, hown, hle, hbl⟩ := hrel
    have hz := hbl.size
    obtain ⟨oA, oc, rfl⟩ := hown.form
    by_cases hlt : k < l.length
    · obtain ⟨b0, o0, d, rfl, q0, hd⟩ := Hel.out k hlt
      have c0 := vle_below hbl _ _ q0
      obtain ⟨dA, dc, rfl, _⟩ := id hd
      have Hd := Lib.hid hd
      have Hn := Lib.hid (tagRow_succ tag l hlt)
      have hln := tagRow_len tag l hlt
      have hle2 := tagRow_le tag l (k + 1)
      clear hd
      generalize hB : tagRow tag (l.take k) = B at hown hle Hn hln
      generalize l[k] = p at Hd Hn hln c0 q0
      obtain ⟨m, hm⟩ : ∃ m, Hid (p.length = m) := ⟨_, rfl⟩
      obtain ⟨n, hn⟩ : ∃ n, Hid (B.length = n) := ⟨_, rfl⟩
      have hBl := hn.out
      rw [hm.out] at hln c0 Hn Hd q0
      rw [hn.out] at hln hle hown
      by_cases hbad : 4000 < n + 2 + m
      · have HE : Hid (E = 1) := by show _ = _; rw [← hE.out]; exact if_pos (by omega)
        have HR : Hid (R = []) := by show _ = _; rw [← hR.out]; exact if_pos (by omega)
        rw [hn.out]
        go_wp2
        all_goals
          go_ret2
          exact ⟨_, by rw [HE.out]; rfl, hbl, by rw [HR.out]; exact RVec.nil _ _ _⟩
      · have u0 := u8_hi (n := m)
        have u1 := u8_lo' (n := m)
        have q2 : Int.tmod (m : Int) 256 = (m : Int) % 256 := Int.tmod_eq_emod_of_nonneg (by omega)
        generalize UInt8.ofNat (m / 256) = U0 at u0 Hn
        generalize UInt8.ofNat (m % 256) = U1 at u1 Hn
        rw [hn.out]
        go_wp2_with (at_builtin; first
          | (refine wpList_append_vec (n := 140737488355328) (W := w) (ys := [U0, U1]) elemByte encB_one _ _ rfl rfl rfl (hown.alloc _) (hbl.alloc hz _) (le_alloc _ hz) rfl (RVec.ofBlk (xs := [U0, U1]) (Blk.new _ _ _) (by simp) (by simp)) (by decide) (by simp; omega) (by simp; omega) ?_))
        intro v1 w1 ho1 hb1 hg1
        have hz1 := hb1.size
        have c1 := vle_below hb1 _ _ q0
        clear c0 q0
        have hBn : (B ++ [U0, U1]).length = n + 2 := by simp [hBl]
        go_wp2_with fail
        refine (joined_any _ _ (B ++ [U0, U1]) p _ (ho1.reads (by rw [hBn]; omega)) (Hd.out.mono (vle_below hb1)) 140737488355328 (Nat.le_refl _) (by rw [hBn]; have := hm.out; omega)).mono ?_
        rintro e w2 ⟨v2, rfl, hb2, ho2⟩
        go_wp2_with fail
        go_roundw
        case rel => exact ⟨k + 1, by omega, by go_num, by rw [Hn.out]; exact ho2.base hz1, by rw [hln]; omega, hb1.trans (hb2.mono hz1)⟩
        case measure => simp [intOf]; omega
    · have hkl : k = l.length := by omega
      rw [hkl, List.take_length] at hown hle
      have HE : Hid (E = 0) := by show _ = _; rw [← hE.out]; exact if_neg (by omega)
      have HR : Hid (R = sumB (tagRow tag l)) := by show _ = _; rw [← hR.out]; exact if_neg (by omega)
      obtain ⟨B, hB⟩ : ∃ B, Hid (tagRow tag l = B) := ⟨_, rfl⟩
      rw [hB.out] at hown hle HR
      rw [hkl, List.take_length, hB.out]
      go_wp2_with fail
      refine (digested_any _ B _ (hown.reads (by omega)) hle).mono ?_
      rintro e w1 ⟨d, rfl, hb1, ho⟩
      go_wp2
      go_ret2
      exact ⟨_, by rw [HE.out]; rfl, hbl.trans (hb1.mono hz), by rw [HR.out]; exact ho.from_ (bs := 1) (by rw [sumB_len]; decide) hz⟩
end Go.Proofs.YtbcoecmeoemmeaaGreatDoor
