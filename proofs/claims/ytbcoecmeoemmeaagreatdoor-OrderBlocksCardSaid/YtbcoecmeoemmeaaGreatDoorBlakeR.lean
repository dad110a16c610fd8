/- The document's sum of bytes: its functions answer the plain one. -/
import Derived.Test.YtbcoecmeoemmeaaGreatDoorBlakeM
import Derived.Test.YtbcoecmeoemmeaaGreatDoorBlakeW
import Derived.Test.YtbcoecmeoemmeaaGreatDoorCopy
namespace Go.Proofs.YtbcoecmeoemmeaaGreatDoor
open Go.ChangeShapes Go.WideShapes Go.ChangeAt Go.RowKit
set_option linter.unusedVariables false
set_option linter.unusedSimpArgs false
theorem elemN8 : Elem1 Tryz.prog 66 3 8 := elem1 (z := .int .i64 0) Tryz.underlying66 (by kernel_rfl) rfl
theorem encN_one (n : Nat) : (encN n).oneCell' = true := rfl
set_option maxHeartbeats 2000000 in
set_option maxRecDepth 100000 in
theorem wordsOf_any (v : Value) (b : List UInt8) (w : World) (hv : RBytes w.cell? v b) (hb : b.length ≤ 64) :
    Calls Tryz.prog 190 #[v] w fun e w' => ∃ g c, e = .returned (.slice (some ⟨g, 0, none⟩) 16 c) ∧ Below w.heap.size w w' ∧ OwnN w' w.heap.size (.slice (some ⟨g, 0, none⟩) 16 c) (words b) := by
  obtain ⟨A, c, rfl, _, _, _, _, hel⟩ := hv
  have Hel := Lib.hid hel
  clear hel
  obtain ⟨i0, hi, hz0, hz1, hz2⟩ := info_parts (show (Tryz.prog.info? 3).map (fun i => (i.zero, i.size, i.bytes)) = some (some (.int .i64 0), 1, 8) by kernel_rfl)
  go_enter Tryz.func190, Tryz.ntmps190
  go_wp2_with (at_make; go_loud (refine wpList_make_full _ rfl _ _ 66 rfl w.heap.size 3 i0 (.int .i64 0) 1 Tryz.underlying66 hi hz0 hz1 .i64 .i64 _ _ 16 rfl rfl rfl rfl (by rw [hz2]; decide) (by decide) (Nat.le_refl _) ?_))
  intro w1 ho1 hg1
  have ho : OwnN w1 w.heap.size (.slice (some ⟨w.heap.size, 0, none⟩) 16 16) (words []) := ⟨by rw [words_nil, List.length_replicate, show List.map encN (List.replicate 16 0) = (madeCells #[Value.int IntKind.i64 0] 16).toList by kernel_rfl]; exact ho1⟩
  have hb1 : Below w.heap.size w w1 := (Chg.of_grown (G := []) hg1 (by simp)).below (by simp) (Nat.le_refl _)
  clear ho1 hg1 hi hz0 hz1 hz2
  go_wp2
  go_loopw [4] (fun i wr => ∃ k : Nat, k ≤ b.length ∧ i = .int .i64 k ∧ OwnN wr w.heap.size (.slice (some ⟨w.heap.size, 0, none⟩) 16 16) (words (b.take k)) ∧ Below w.heap.size w wr) (fun i _ => b.length - (intOf i).toNat)
  case atStart => exact ⟨0, Nat.zero_le _, rfl, by rw [List.take_zero]; exact ho, hb1⟩
  case round =>
    obtain ⟨k, hk, rfl, hown, hbl⟩ := hrel
    by_cases hlt : k < b.length
    · obtain ⟨b0, o0, rfl, hcell0⟩ := Hel.out (by omega)
      have hc1 : wr.cell? ⟨b0, o0 + k, none⟩ = some (.int .u8 b[k].toNat) := vle_below hbl _ _ (hcell0 k hlt)
      clear hcell0
      have hc2 := ownN_at hown (i := k / 4) (by rw [words_len]; omega)
      have hstep := Lib.hid (words_step b k (by omega) hlt)
      have hslt := words_step_lt b k (by omega) hlt
      have hx256 : b[k].toNat < 256 := UInt8.toNat_lt _
      have q1 : IntKind.i64.wrap ((k : Int) / 4) = ((k / 4 : Nat) : Int) := by rw [wraps62 _ (by omega) (by omega)]; omega
      have q2 : Int.tmod (k : Int) 4 = ((k % 4 : Nat) : Int) := by rw [Int.tmod_eq_emod_of_nonneg (by omega)]; omega
      have q3 : IntKind.i64.wrap (8 * ((k % 4 : Nat) : Int)) = ((8 * (k % 4) : Nat) : Int) := by rw [wraps62 _ (by omega) (by omega)]; omega
      have hq : k / 4 < 16 := by omega
      have hs : 8 * (k % 4) ≤ 64 := by omega
      generalize hm : at0 (words (b.take k)) (k / 4) = m at hc2 hstep hslt
      generalize hx : b[k].toNat = x at hc1 hstep hslt hx256
      generalize hqq : k / 4 = q at hc2 hstep hslt q1 hq hm
      generalize hss : 8 * (k % 4) = s at hstep hslt q3 hs
      generalize k % 4 = r at q2 q3
      clear hm hx hss
      have hqi : (q : Int) < 16 := by omega
      have q0 : x * 2 ^ s < 4294967296 := by omega
      have q4 : IntKind.i64.wrap ((x : Int) * 2 ^ s) = ((x * 2 ^ s : Nat) : Int) := by rw [show (x : Int) * 2 ^ s = ((x * 2 ^ s : Nat) : Int) by push_cast; rfl]; exact wraps62 _ (by omega) (by omega)
      generalize x * 2 ^ s = y at q0 q4 hstep hslt
      have q5 : IntKind.i64.wrap ((m : Int) + (y : Int)) = ((m + y : Nat) : Int) := by rw [wraps62 _ (by omega) (by omega)]; omega
      have q6 : IntKind.i64.wrap (x : Int) = x := wraps62 _ (by omega) (by omega)
      clear q0
      go_wp2
      refine wp_region_pl (fun w' => Below wr.heap.size wr w') [19] (.q 0 (.q 1 (.q 2 (.q 3 (.q 4 (.q 5 (.q 6 (.q 7 (.q 8 (.q 9 (.q 10 (.q 11 (.q 12 (.q 13 (.q 14 (.q 15 (.q 16 (.q 17 (.q 18 (.l 19 .nil)))))))))))))))))))) (by kernel_rfl) (by kernel_rfl) (fun _ _ d _ _ h => by cases d <;> exact h) rfl (by kernel_rfl) ?_ ?_
      · exact below_drew _
      intro W hS
      repeat (first
        | (refine pl_q (by assumption) rfl rfl ?_; apply Exists.intro; refine ⟨fun w' hS => ?_, ?_⟩; (· (have h1 := vle_below hS _ _ hc1; have h2 := vle_below hS _ _ hc2; go_simp; exact rfl)); simp only [List.getElem_toArray, List.getElem_cons_zero, List.getElem_cons_succ, Act.put, List.setIfInBounds_toArray, List.set_cons_zero, List.set_cons_succ])
        | (refine pl_qc rfl rfl ?_; apply Exists.intro; refine ⟨fun w' _ => ?_, ?_⟩; (· (go_simp; exact rfl)); simp only [List.getElem_toArray, List.getElem_cons_zero, List.getElem_cons_succ, Act.put, List.setIfInBounds_toArray, List.set_cons_zero, List.set_cons_succ])
        | (refine pl_skip (by assumption) rfl rfl ?_; simp only [List.getElem_toArray, List.getElem_cons_zero, List.getElem_cons_succ, Act.put, List.setIfInBounds_toArray, List.set_cons_zero, List.set_cons_succ])
        | (refine pl_skipl (by assumption) rfl rfl ?_; simp only [List.getElem_toArray, List.getElem_cons_zero, List.getElem_cons_succ, Act.put, List.setIfInBounds_toArray, List.set_cons_zero, List.set_cons_succ]))
      first
        | refine pl_close rfl rfl rfl (fun K hK => ?_)
        | refine op_close rfl rfl rfl (fun K hK => ?_)
      try simp only [List.getElem_toArray, List.getElem_cons_zero, List.getElem_cons_succ]
      refine wp_store_vec (xs := words (b.take k)) (m + y) rfl rfl rfl (by kernel_rfl) rfl rfl (hown.kept hS) (by rw [words_len]; omega) ?_
      intro w3 ho3 hg3
      rw [hstep.out] at ho3
      have hb3 : Below w.heap.size w w3 := (hbl.trans (hS.mono hbl.size)).trans ((Chg.of_grown (G := [w.heap.size]) hg3 (by simp)).below (by simp) (Nat.le_trans hbl.size hS.size))
      refine hK.out _ _ ?_
      clear hK K
      try simp only [List.getElem_toArray, List.getElem_cons_zero, List.getElem_cons_succ, Act.put, List.setIfInBounds_toArray, List.set_cons_zero, List.set_cons_succ]
      refine pl_nil ?_
      go_wp2
      go_roundw
      case rel => exact ⟨k + 1, by omega, by go_num, ho3, hb3⟩
      case measure => simp [intOf]; omega
    · go_wp2
      go_ret
      have : k = b.length := by omega
      subst this
      rw [List.take_length] at hown
      exact ⟨_, _, rfl, hbl, hown⟩
def hexRow (r : Nat) : ByteArray := ([⟨#[48, 49, 50, 51, 52, 53, 54, 55, 56, 57, 97, 98, 99, 100, 101, 102]⟩, ⟨#[101, 97, 52, 56, 57, 102, 100, 54, 49, 99, 48, 50, 98, 55, 53, 51]⟩, ⟨#[98, 56, 99, 48, 53, 50, 102, 100, 97, 101, 51, 54, 55, 49, 57, 52]⟩, ⟨#[55, 57, 51, 49, 100, 99, 98, 101, 50, 54, 53, 97, 52, 48, 102, 56]⟩, ⟨#[57, 48, 53, 55, 50, 52, 97, 102, 101, 49, 98, 99, 54, 56, 51, 100]⟩, ⟨#[50, 99, 54, 97, 48, 98, 56, 51, 52, 100, 55, 53, 102, 101, 49, 57]⟩, ⟨#[99, 53, 49, 102, 101, 100, 52, 97, 48, 55, 54, 51, 57, 50, 56, 98]⟩, ⟨#[100, 98, 55, 101, 99, 49, 51, 57, 53, 48, 102, 52, 56, 54, 50, 97]⟩, ⟨#[54, 102, 101, 57, 98, 51, 48, 56, 99, 50, 100, 55, 49, 52, 97, 53]⟩, ⟨#[97, 50, 56, 52, 55, 54, 49, 53, 102, 98, 57, 101, 51, 99, 100, 48]⟩] : List ByteArray).getD r ⟨#[]⟩
theorem hex_tab : ∀ (r : Fin 10) (k : Fin 16), (((hexRow r).data[(k : Nat)]?.getD 0).toNat = if ord r k < 10 then ord r k + 48 else ord r k + 87) ∧ ord r k < 16 := by decide +kernel
theorem ord_get {r k : Nat} (hr : r < 10) (hk : k < 16) : (ordRows.getD r [])[k]? = some (ord r k) := by
  have : ∀ (r : Fin 10) (k : Fin 16), (ordRows.getD r [])[(k : Nat)]? = some (ord r k) := by decide +kernel
  exact this ⟨r, hr⟩ ⟨k, hk⟩
theorem wrap_small {n : Nat} (h : n < 1000) : wrap64 (n : Int) = n := by unfold wrap64; omega
theorem ord_len {r : Nat} (hr : r < 10) : (ordRows.getD r []).length ≤ 16 := by
  have : ∀ r : Fin 10, (ordRows.getD r []).length ≤ 16 := by decide
  exact this ⟨r, hr⟩
def encSt (s : ByteArray) : Value := .string s
theorem rows_at {w : World} {g : Nat} {t : TypeId} (hb : Blk w g t (((List.range 10).map hexRow).map encSt).toArray) {r : Nat} (hr : r < 10) : w.cell? ⟨g, r, none⟩ = some (.string (hexRow r)) := by
  have := Arr.at (xs := (List.range 10).map hexRow) hb r (by simpa using hr)
  rw [this]
  simp [encSt]
set_option maxHeartbeats 2000000 in
set_option maxRecDepth 100000 in
theorem turnsOf_any (r : Nat) (w : World) (hr : r < 10) :
    Calls Tryz.prog 191 #[.int .i64 r] w fun e w' => ∃ v, e = .returned v ∧ Below w.heap.size w w' ∧ OwnN w' w.heap.size v (ordRows.getD r []) := by
  have hri : (r : Int) < 10 := by omega
  go_enter Tryz.func191, Tryz.ntmps191
  go_wp2
  go_loopw [4, 5] (fun v i wr => ∃ k : Nat, k ≤ 16 ∧ i = .int .i64 k ∧ OwnN wr (w.heap.size + 1) v ((ordRows.getD r []).take k) ∧ Blk wr w.heap.size 9 (((List.range 10).map hexRow).map encSt).toArray ∧ Below w.heap.size w wr) (fun _ i _ => 16 - (intOf i).toNat)
  case atStart => exact ⟨0, Nat.zero_le _, rfl, OwnVec.nil _ _ _ _, Blk.new _ _ _, by repeat (first
  | assumption
  | exact Below.refl _ _
  | refine Below.drew ?_
  | (refine Below.alloc ?_ ?sa _; (case sa => first | omega | (simp; done) | (simp; omega)))
  | (refine Below.setCell ?_ ?sa _; (case sa => first | (dsimp only; omega) | (simp; done) | (simp; omega))))⟩
  case round =>
    obtain ⟨k, hk, rfl, hown, hblk, hbl⟩ := hrel
    have hz := hblk.lt
    by_cases hlt : k < 16
    · have hc1 := rows_at hblk hr
      have hki : (k : Int) < 16 := by omega
      generalize hS : hexRow r = S at hc1
      have hsz : S.size = 16 := by
        rw [← hS]
        have : ∀ r : Fin 10, (hexRow r).size = 16 := by decide +kernel
        exact this ⟨r, hr⟩
      have htab := hex_tab ⟨r, hr⟩ ⟨k, hlt⟩
      have ho : (ordRows.getD r [])[k]? = some (ord r k) := ord_get hr hlt
      simp only [hS] at htab
      have hsk : S[k].toNat = (S.data[k]?.getD 0).toNat := by
        rw [Array.getElem?_eq_getElem (by show k < S.size; omega)]; rfl
      rw [← hsk] at htab
      obtain ⟨o, hoo⟩ : ∃ o, ord r k = o := ⟨_, rfl⟩
      rw [hoo] at htab ho
      have hnext : (ordRows.getD r []).take (k + 1) = (ordRows.getD r []).take k ++ [o] := by rw [List.take_add_one, ho]; rfl
      have hlen : ((ordRows.getD r []).take k).length ≤ 16 := by rw [List.length_take]; omega
      by_cases h10 : o < 10
      · have hin : inB ((o : Int) + 48) 48 57 = true := inB_true (by omega) (by omega)
        have hz1 : wrap64 (S[k].toNat : Int) = (o : Int) + 48 := by
          have e : S[k].toNat = o + 48 := by rw [htab.1, if_pos h10]
          rw [e, wrap_small (by have := htab.2; omega)]; rfl
        have Hnext := Lib.hid hnext
        have HS := Lib.hid hS
        clear hsk htab ho hoo hnext hS
        go_wp2_with fail
        refine (in_any _ _ _ _).mono ?_
        rintro e w' ⟨rfl, rfl⟩
        rw [hin]
        go_wp2_with (at_builtin; go_loud (refine wpList_append_vec1 (n := 1024) (W := wr) o elemN8 encN_one _ _ rfl rfl rfl hown (Below.refl _ _) (by omega) rfl (by decide) (by omega) (by omega) ?_))
        intro v' w3 ho3 hb3 hg3
        go_wp2
        go_roundw
        case rel => exact ⟨k + 1, by omega, by go_num, by rw [Hnext.out]; exact ho3, hblk.below hb3 (by omega), hbl.trans (hb3.mono (by omega))⟩
        case measure => simp [intOf]; omega
      · have hin : inB ((o : Int) + 87) 48 57 = false := inB_false (by omega)
        have hz1 : wrap64 (S[k].toNat : Int) = (o : Int) + 87 := by
          have e : S[k].toNat = o + 87 := by rw [htab.1, if_neg h10]
          rw [e, wrap_small (by have := htab.2; omega)]; rfl
        have ho16 : o < 16 := htab.2
        have e9 : (o : Int) + 87 - 97 + 10 = o := by omega
        have Hnext := Lib.hid hnext
        have HS := Lib.hid hS
        clear hsk htab ho hoo hnext hS
        go_wp2_with fail
        refine (in_any _ _ _ _).mono ?_
        rintro e w' ⟨rfl, rfl⟩
        rw [hin]
        go_wp2_with (at_builtin; go_loud (refine wpList_append_vec1 (n := 1024) (W := wr) o elemN8 encN_one _ _ rfl rfl rfl hown (Below.refl _ _) (by omega) rfl (by decide) (by omega) (by omega) ?_))
        intro v' w3 ho3 hb3 hg3
        go_wp2
        go_roundw
        case rel => exact ⟨k + 1, by omega, by go_num, by rw [Hnext.out]; exact ho3, hblk.below hb3 (by omega), hbl.trans (hb3.mono (by omega))⟩
        case measure => simp [intOf]; omega
    · go_wp2
      go_ret
      have : k = 16 := by omega
      subst this
      rw [List.take_of_length_le (ord_len hr)] at hown
      exact ⟨_, rfl, hbl, hown.base (by omega)⟩
end Go.Proofs.YtbcoecmeoemmeaaGreatDoor
