/- Dags: places of digests and certificates. -/
import Derived.Test.YtbcoecmeoemmeaaGreatDoorDig2
import Derived.Test.YtbcoecmeoemmeaaGreatDoorIdxDigs
import Derived.Test.YtbcoecmeoemmeaaGreatDoorIdxCrts
import Derived.Test.YtbcoecmeoemmeaaGreatDoorClone
import Derived.Test.YtbcoecmeoemmeaaGreatDoorCert2
import Derived.Shelf.Abstract
namespace Go.Proofs.YtbcoecmeoemmeaaGreatDoor
open Go.ChangeShapes Go.WideShapes Go.ChangeAt Go.RowKit
set_option linter.unusedVariables false
set_option linter.unusedSimpArgs false
def hD (h : Hdr) : List UInt8 := hdrD h.author h.round h.batches h.parents
def hF (h : Hdr) : Int := headF h.author h.round h.batches h.parents
def cF (c : Crt) : Int := certF c.hdr.author c.hdr.round c.hdr.batches c.hdr.parents c.voters
theorem cF_hF {c : Crt} (h : cF c = 0) : hF c.hdr = 0 := by
  unfold cF certF at h
  unfold hF
  split at h
  · rename_i h1; exact absurd h h1
  · rename_i h1; exact Classical.not_not.1 h1
theorem enters_of_func {P : Program} {f : FuncId} {fn : Func} (hf : P.funcs[f]? = some fn) (hn : (fn.name == "runtime.NumGoroutine") = false) {c : Code} (hb : fn.body = some c) : ∀ args w, (callFunc f args).run P w = .ok (.enter f args) w := enters_of hf hn hb
set_option maxHeartbeats 1000000 in
set_option maxRecDepth 100000 in
theorem placeOf_any (vl : Value) (l : List (List UInt8)) (vd : Value) (d : List UInt8) (w : World) (hl : RDigs w.cell? vl l) (hd : RBytes w.cell? vd d) :
    Calls Tryz.prog 33 #[vl, vd] w fun e w' => e = .returned (.int .i64 (placeI l d)) ∧ Below w.heap.size w w' := by
  obtain ⟨A, c, rfl, hform⟩ := id hl
  clear hform
  obtain ⟨_, hn1, hn2, hel⟩ := hl.at
  have Hel := Lib.hid hel
  have Hd := Lib.hid hd
  clear hl hel hd
  go_enter Tryz.func33, Tryz.ntmps33
  go_wp2
  go_loopw [5] (fun i wr => ∃ k : Nat, k ≤ l.length ∧ i = .int .i64 k ∧ Hid (∀ j (hj : j < l.length), j < k → (l[j] == d) = false) ∧ Below w.heap.size w wr) (fun i _ => l.length - (intOf i).toNat)
  case atStart => exact ⟨0, Nat.zero_le _, rfl, fun j _ hj => by omega, Below.refl _ _⟩
  case round =>
    obtain ⟨k, hk, rfl, hno, hbl⟩ := hrel
    by_cases hlt : k < l.length
    · obtain ⟨b0, o0, y, rfl, q0, hy⟩ := Hel.out k hlt
      have c0 := vle_below hbl _ _ q0
      have hy' := Lib.hid (hy.mono (vle_below hbl))
      clear q0 hy
      go_wp2_with fail
      refine (sameBytes_any _ _ l[k] d _ hy'.out (Hd.out.mono (vle_below hbl))).mono ?_
      rintro e w1 ⟨rfl, rfl⟩
      clear hy' c0
      cases e1 : (l[k] == d)
      · have Hb := Lib.hid e1
        clear e1
        go_wp2
        go_roundw
        case rel => exact ⟨k + 1, by omega, by go_num, fun j hj hjk => by
          by_cases e : j = k
          · subst e; exact Hb.out
          · exact hno.out j hj (by omega), hbl⟩
        case measure => simp [intOf]; omega
      · have Hb := Lib.hid e1
        clear e1
        go_wp2
        go_ret
        exact ⟨ret_int (idxI_found hlt hno.out Hb.out).symm, hbl⟩
    · go_wp2
      go_ret
      exact ⟨ret_int (idxI_none fun j hj => hno.out j hj (by omega)).symm, hbl⟩
set_option maxHeartbeats 1000000 in
set_option maxRecDepth 100000 in
theorem atFn_any (d x : Value) (y ds : List UInt8) (g : Nat) (w : World) (hc : w.cell? ⟨g, 0, none⟩ = some x) (hd : RBytes w.cell? d y) (hx : RBytes w.cell? x ds) :
    Calls Tryz.prog 89 (#[d] ++ #[.pointer (some ⟨g, 0, none⟩)]) w fun e w' => e = .returned (.bool (y == ds)) ∧ Below w.heap.size w w' := by
  show Calls Tryz.prog 89 #[d, .pointer (some ⟨g, 0, none⟩)] w _
  go_enter Tryz.func89, Tryz.ntmps89
  go_wp2_with fail
  refine (bytesEqual_any _ _ y ds _ hd hx).mono ?_
  rintro e w' ⟨rfl, rfl⟩
  go_wp2
  go_ret
  exact ⟨rfl, Below.refl _ _⟩
set_option maxHeartbeats 1000000 in
set_option maxRecDepth 100000 in
theorem at_any (vl : Value) (l : List (List UInt8)) (vd : Value) (d : List UInt8) (w : World) (hl : RDigs w.cell? vl l) (hd : RBytes w.cell? vd d) :
    Calls Tryz.prog 47 #[vl, vd] w fun e w' => e = .returned (.int .i64 (placeI l d)) ∧ Below w.heap.size w w' := by
  obtain ⟨A, c, rfl, hform⟩ := id hl
  obtain ⟨B, c', rfl, hform'⟩ := id hd
  clear hform hform'
  have hbb := below_one w (.cells #[.slice B d.length c'] 41)
  have hdb := hd.mono (vle_below hbb)
  have hlb := hl.mono RDig.mono (vle_below hbb)
  have hcb := (Blk.new w 41 #[.slice B d.length c']).cell 0
  go_enter Tryz.func47, Tryz.ntmps47
  go_wp2_with fail
  refine (idxDigs_any 89 #[.pointer (some ⟨w.heap.size, 0, none⟩)] (· == d) (enters_of_func Tryz.func89 (by kernel_rfl) rfl) _ l _ hlb (fun W x y hW hx => atFn_any x _ y d _ W (vle_below hW _ _ hcb) hx (hdb.mono (vle_below hW)))).mono ?_
  rintro e w1 ⟨rfl, hb1⟩
  have hbl := hbb.trans (hb1.mono hbb.size)
  have e1 : idxI (· == d) l = placeI l d := rfl
  rw [e1]
  obtain ⟨i, hi⟩ : ∃ i, Hid (placeI l d = i) := ⟨_, rfl⟩
  clear hdb hlb hcb hd hl
  go_wp2
  go_ret
  exact ⟨rfl, hbl⟩
end Go.Proofs.YtbcoecmeoemmeaaGreatDoor
