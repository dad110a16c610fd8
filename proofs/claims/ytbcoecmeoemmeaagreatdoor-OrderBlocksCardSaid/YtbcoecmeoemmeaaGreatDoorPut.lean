/- Bytes of the wire: numbers of three bytes, lists of digests, headers and batches, put behind a row of the call's own. -/
import Derived.Test.YtbcoecmeoemmeaaGreatDoorStrApp
import Derived.Test.YtbcoecmeoemmeaaGreatDoorHead
namespace Go.Proofs.YtbcoecmeoemmeaaGreatDoor
open Go.ChangeShapes Go.WideShapes Go.ChangeAt Go.RowKit
set_option linter.unusedVariables false
set_option linter.unusedSimpArgs false
def byteI (n : Int) : UInt8 := UInt8.ofNat (n % 256).toNat
theorem byteI_wrap (n : Int) : IntKind.u8.wrap n = ((byteI n).toNat : Int) := by
  rw [IntKind.wrap_u8]; unfold byteI; rw [UInt8.toNat_ofNat']; omega
theorem byteI_mod (n : Int) : byteI (n % 256) = byteI n := by unfold byteI; rw [Int.emod_emod]
def wideB (n : Int) : List UInt8 := [byteI (n / 65536), byteI (n / 256), byteI n]
theorem byBlk {α : Type} {enc : α → Value} {bs : Nat} {w : World} {g : Nat} {t : TypeId} {xs : List α} (hb : Blk w g t (xs.map enc).toArray) (h1 : xs.length ≤ 140737488355328) (h2 : xs.length * bs ≤ 140737488355328) : RVec enc bs w.cell? (.slice (some ⟨g, 0, none⟩) xs.length xs.length) xs :=
  ⟨_, _, rfl, Nat.le_refl _, le_maxLen h1, h2, (fun h => by cases h), fun _ => ⟨g, 0, rfl, fun i hi => by rw [Nat.zero_add, hb.cell]; simp [hi]⟩⟩
/-- blocks that hold no bytes stay as they are -/
def Keeps (w w' : World) : Prop := ∀ b T cs, T ≠ 5 → Blk w b T cs → Blk w' b T cs
theorem Keeps.refl (w : World) : Keeps w w := fun _ _ _ _ h => h
theorem Keeps.trans {a b c : World} (h : Keeps a b) (k : Keeps b c) : Keeps a c := fun x T cs hT hb => k x T cs hT (h x T cs hT hb)
theorem keeps_below {w w' : World} (h : Below w.heap.size w w') : Keeps w w' := fun _ _ _ _ hb => hb.kept h
theorem keeps_alloc (w : World) (o : Obj) : Keeps w (w.alloc o) := keeps_below (below_one _ _)
theorem keeps_grown {w w' : World} {B : Nat} {v : Value} {xs : List UInt8} (ho : OwnB w B v xs) (hg : w.grownBy w' v.ownBlock) : Keeps w w' := fun b T cs hT hb => by
  refine hb.grown hg (fun e => ?_)
  rcases ho.own.2 with ⟨rfl, _⟩ | ⟨g, cap, cur, rfl, _, h3, _⟩
  · cases e
  · have e1 : b = g := by
      have := e.symm
      simp [Value.ownBlock] at this
      exact this.symm
    subst e1
    unfold Blk at hb
    rw [h3] at hb
    injection hb with hb
    injection hb with _ hb
    exact hT hb.symm
set_option maxHeartbeats 1000000 in
set_option maxRecDepth 100000 in
theorem wide_any (v : Value) (n : Int) (xs : List UInt8) (B : Nat) (w : World) (ho : OwnB w B v xs) (hB : B ≤ w.heap.size) (h0 : 0 ≤ n) (hn : n ≤ 140737488355328) (hsz : xs.length + 3 ≤ 140737488355328) :
    Calls Tryz.prog 80 #[v, .int .i64 n] w fun e w' => ∃ v', e = .returned v' ∧ Below B w w' ∧ Keeps w w' ∧ OwnB w' B v' (xs ++ wideB n) ∧ w.grownBy w' v.ownBlock := by
  obtain ⟨A, c, rfl⟩ := ho.form
  have u0 := byteI_wrap (n / 65536)
  have u1 := byteI_wrap (n / 256)
  have u2 := byteI_wrap n
  have hW : Hid (wideB n = [byteI (n / 65536), byteI (n / 256), byteI n]) := rfl
  generalize byteI (n / 65536) = U0 at u0 hW
  generalize byteI (n / 256) = U1 at u1 hW
  generalize byteI n = U2 at u2 hW
  generalize wideB n = Wb at hW ⊢
  go_enter Tryz.func80, Tryz.ntmps80
  go_wp2_with (at_builtin; first
    | (refine wpList_append_vec (n := 140737488355328) (W := w) (ys := [U0, U1, U2]) elemByte encB_one _ _ rfl rfl rfl (ho.alloc _) ((Below.refl B w).alloc hB _) (le_alloc _ hB) rfl (byBlk (xs := [U0, U1, U2]) (Blk.new _ _ _) (by simp) (by simp)) (by decide) (by simp; omega) (by simp; omega) ?_))
  intro v1 w1 ho1 hb1 hg1
  have hk := (keeps_alloc w (.cells #[encB U0, encB U1, encB U2] 5)).trans (keeps_grown (ho.alloc _) hg1)
  have hg2 := grownBy_trans (World.grownBy_alloc w (.cells #[encB U0, encB U1, encB U2] 5) (Value.slice A xs.length c).ownBlock) hg1
  clear hg1 ho
  go_wp2
  go_ret
  exact ⟨_, rfl, hb1, hk, by rw [hW.out]; exact ho1, hg2⟩
/-- a list of digests behind its length -/
def digsB (l : List (List UInt8)) : List UInt8 := byteI l.length :: l.flatten
theorem flat_take (l : List (List UInt8)) {k : Nat} (hk : k < l.length) : (l.take (k + 1)).flatten = (l.take k).flatten ++ l[k] ∧ ((l.take k).flatten).length + l[k].length ≤ l.flatten.length := by
  have e : (l.take (k + 1)).flatten = (l.take k).flatten ++ l[k] := by
    rw [List.take_succ_eq_append_getElem hk, List.flatten_append, List.flatten_singleton]
  refine ⟨e, ?_⟩
  have h2 : l.flatten = (l.take (k + 1)).flatten ++ (l.drop (k + 1)).flatten := by rw [← List.flatten_append, List.take_append_drop]
  rw [h2, List.length_append, e, List.length_append]
  omega
set_option maxHeartbeats 2000000 in
set_option maxRecDepth 100000 in
theorem putDigests_any (w0 : World) (v vl : Value) (xs : List UInt8) (l : List (List UInt8)) (w : World) (hbl : Below w0.heap.size w0 w) (ho : OwnB w w0.heap.size v xs) (hv : RDigs w0.cell? vl l) (hsz : xs.length + 1 + l.flatten.length ≤ 140737488355328) :
    Calls Tryz.prog 123 #[v, vl] w fun e w' => ∃ v', e = .returned v' ∧ Below w0.heap.size w0 w' ∧ Keeps w w' ∧ OwnB w' w0.heap.size v' (xs ++ digsB l) := by
  obtain ⟨oA, oc, rfl⟩ := ho.form
  obtain ⟨A, c, rfl, _⟩ := id hv
  obtain ⟨_, hcap, hlen, hel⟩ := hv.at
  have Hel := Lib.hid hel
  clear hel hv
  have hz := hbl.size
  have e0 := byteI_wrap l.length
  have hD : Hid (digsB l = byteI l.length :: l.flatten) := rfl
  generalize byteI l.length = U0 at e0 hD
  generalize digsB l = Db at hD ⊢
  go_enter Tryz.func123, Tryz.ntmps123
  go_wp2_with (at_builtin; first
    | (refine wpList_append_vec (n := 140737488355328) (W := w0) (ys := [U0]) elemByte encB_one _ _ rfl rfl rfl (ho.alloc _) (hbl.alloc hz _) (le_alloc _ hz) rfl (byBlk (xs := [U0]) (Blk.new _ _ _) (by simp) (by simp)) (by decide) (by simp; omega) (by simp; omega) ?_))
  intro v1 w1 ho1 hb1 hg1
  have hk1 := (keeps_alloc w (.cells #[encB U0] 5)).trans (keeps_grown (ho.alloc _) hg1)
  clear hg1 ho
  obtain ⟨Y, hY⟩ : ∃ Y, Hid (xs ++ [U0] = Y) := ⟨_, rfl⟩
  have hYl : Y.length = xs.length + 1 := by rw [← hY.out]; simp
  rw [hY.out] at ho1
  go_wp2
  go_loopw [0, 15] (fun v i wr => ∃ k : Nat, k ≤ l.length ∧ i = .int .i64 k ∧ OwnB wr w0.heap.size v (Y ++ (l.take k).flatten) ∧ Below w0.heap.size w0 wr ∧ Keeps w wr) (fun _ i _ => l.length - (intOf i).toNat)
  case atStart => exact ⟨0, Nat.zero_le _, rfl, by simpa using ho1, hb1, hk1⟩
  case round =>
    clear ho1 hb1 hk1 hbl hz
    obtain ⟨k, hk, rfl, hown, hbl, hkp⟩ := hrel
    have hz := hbl.size
    by_cases hlt : k < l.length
    · obtain ⟨b0, o0, d, rfl, q0, hd⟩ := Hel.out k hlt
      have c0 := vle_below hbl _ _ q0
      obtain ⟨dA, dc, rfl, _⟩ := id hd
      have Hd := Lib.hid (hd.mono (vle_below hbl))
      obtain ⟨hn, hnl⟩ := flat_take l hlt
      have Hn := Lib.hid hn
      clear hd q0 hn
      generalize (l.take k).flatten = Z at hown Hn hnl
      generalize l[k] = p at Hd Hn hnl c0
      go_wp2_with (at_builtin; go_loud (refine wpList_append_vec (n := 140737488355328) (W := w0) (ys := p) elemByte encB_one _ _ rfl rfl rfl hown hbl hz rfl Hd.out (by decide) (by simp; omega) (by simp; omega) ?_))
      intro v2 w2 ho2 hb2 hg2
      have hk2 := hkp.trans (keeps_grown hown hg2)
      clear hg2 hown
      go_wp2
      go_roundw
      case rel => exact ⟨k + 1, by omega, by go_num, by rw [Hn.out]; simpa using ho2, hb2, hk2⟩
      case measure => simp [intOf]; omega
    · have hkl : k = l.length := by omega
      subst hkl
      rw [List.take_length] at hown
      have hfin : OwnB wr w0.heap.size u0 (xs ++ Db) := by rw [hD.out]; rw [← hY.out, List.append_assoc] at hown; exact hown
      go_wp2
      go_ret
      exact ⟨_, rfl, hbl, hkp, hfin⟩
end Go.Proofs.YtbcoecmeoemmeaaGreatDoor
