/- The laws' own comparisons: of two that read alike they say true. -/
import Derived.Test.YtedealljhmokoaaDoorHead
import Derived.Test.YtedealljhmokoaaDoorBatch
import Derived.Test.YtedealljhmokoaaDoorCert
namespace Go.Proofs.YtedealljhmokoaaDoor
open Go.ChangeShapes Go.WideShapes Go.ChangeAt Go.RowKit
set_option linter.unusedVariables false
set_option linter.unusedSimpArgs false
theorem below_2 (w : World) (o1 o2 : Obj) : Below w.heap.size w ((w.alloc o1).alloc o2) := ((Below.refl _ _).alloc (Nat.le_refl _) _).alloc (le_alloc _ (Nat.le_refl _)) _
set_option maxHeartbeats 1000000 in
set_option maxRecDepth 100000 in
theorem sameLists_same (va vb : Value) (l : List (List UInt8)) (w : World) (ha : RDigs w.cell? va l) (hb : RDigs w.cell? vb l) :
    Calls Tryd.prog 39 #[va, vb] w fun e w' => e = .returned (.bool true) ∧ Below w.heap.size w w' := by
  obtain ⟨A, c, rfl, _⟩ := id ha
  obtain ⟨B, d, rfl, _⟩ := id hb
  obtain ⟨_, _, hlen, hel⟩ := ha.at
  obtain ⟨_, _, _, hel2⟩ := hb.at
  have Hel := Lib.hid hel
  have Hel2 := Lib.hid hel2
  clear hel hel2 ha hb
  go_enter Tryd.func39, Tryd.ntmps39
  go_wp2
  go_loopw [5] (fun i wr => ∃ k : Nat, k ≤ l.length ∧ i = .int .i64 k ∧ Below w.heap.size w wr) (fun i _ => l.length - (intOf i).toNat)
  case atStart => exact ⟨0, Nat.zero_le _, rfl, Below.refl _ _⟩
  case round =>
    obtain ⟨k, hk, rfl, hbl⟩ := hrel
    by_cases hlt : k < l.length
    · obtain ⟨b0, o0, d0, rfl, e0, hd0⟩ := Hel.out k hlt
      obtain ⟨b1, o1, d1, rfl, e1, hd1⟩ := Hel2.out k hlt
      have c0 := vle_below hbl _ _ e0
      have c1 := vle_below hbl _ _ e1
      have hd0 := hd0.mono (vle_below hbl)
      have hd1 := hd1.mono (vle_below hbl)
      generalize l[k] = x at hd0 hd1
      clear e0 e1
      go_wp2
      refine wp_region_pl (fun w' => Below wr.heap.size wr w') [] (.q 0 (.q 1 (.q 2 (.q 3 (.q 4 (.q 5 (.q 6 (.q 7 (.q 8 (.q 9 (.q 10 .nil))))))))))) (by kernel_rfl) (by kernel_rfl) (fun _ _ d _ _ h => by cases d <;> exact h) rfl (by kernel_rfl) ?_ ?_
      · exact below_drew _
      intro W hS
      repeat (first
        | (refine pl_q (by assumption) rfl rfl ?_; apply Exists.intro; refine ⟨fun w' hS => ?_, ?_⟩; (· (have q := vle_below hS; have a0 := q _ _ c0; have a1 := q _ _ c1; have ga := run_toStr (hd0.mono q); have gb := run_toStr (hd1.mono q); go_simp; exact rfl)); simp only [List.getElem_toArray, List.getElem_cons_zero, List.getElem_cons_succ, Act.put, List.setIfInBounds_toArray, List.set_cons_zero, List.set_cons_succ])
        | (refine pl_qc rfl rfl ?_; apply Exists.intro; refine ⟨fun w' _ => ?_, ?_⟩; (· (go_simp; exact rfl)); simp only [List.getElem_toArray, List.getElem_cons_zero, List.getElem_cons_succ, Act.put, List.setIfInBounds_toArray, List.set_cons_zero, List.set_cons_succ])
        | (refine pl_skip (by assumption) rfl rfl ?_; simp only [List.getElem_toArray, List.getElem_cons_zero, List.getElem_cons_succ, Act.put, List.setIfInBounds_toArray, List.set_cons_zero, List.set_cons_succ])
        | (refine pl_skipl (by assumption) rfl rfl ?_; simp only [List.getElem_toArray, List.getElem_cons_zero, List.getElem_cons_succ, Act.put, List.setIfInBounds_toArray, List.set_cons_zero, List.set_cons_succ]))
      refine pl_nil ?_
      go_wp2
      go_roundw
      case rel => exact ⟨k + 1, by omega, by go_num, hbl.trans (hS.mono hbl.size)⟩
      case measure => simp [intOf]; omega
    · go_wp2
      go_ret
      exact ⟨rfl, hbl⟩
set_option maxHeartbeats 1000000 in
set_option maxRecDepth 100000 in
theorem sameHeader_same (a r : Int) (vb vp vb' vp' : Value) (b p : List (List UInt8)) (w : World) (hb : RDigs w.cell? vb b) (hp : RDigs w.cell? vp p) (hb' : RDigs w.cell? vb' b) (hp' : RDigs w.cell? vp' p) :
    Calls Tryd.prog 24 #[.agg #[.int .i64 a, .int .i64 r, vb, vp], .agg #[.int .i64 a, .int .i64 r, vb', vp']] w fun e w' => e = .returned (.bool true) ∧ Below w.heap.size w w' := by
  go_enter Tryd.func24, Tryd.ntmps24
  go_wp2_with fail
  refine two_blocks _ _ _ _ _ (fun W => Calls Tryd.prog _ _ W _) (fun W hk1 hk2 hsz hbl => ?_)
  have q := vle_below hbl
  refine (sameLists_same _ _ b _ (hb.mono RDig.mono q) (hb'.mono RDig.mono q)).mono ?_
  rintro e w1 ⟨rfl, hb1⟩
  have hbl1 := hbl.trans (hb1.mono hbl.size)
  have g3 := (hk1.kept hb1).cell 3
  have f3 := (hk2.kept hb1).cell 3
  simp at g3 f3
  have q := vle_below hbl1
  go_wp2_with fail
  refine (sameLists_same _ _ p _ (hp.mono RDig.mono q) (hp'.mono RDig.mono q)).mono ?_
  rintro e w2 ⟨rfl, hb2⟩
  go_wp2
  go_ret
  exact ⟨rfl, hbl1.trans (hb2.mono hbl1.size)⟩
end Go.Proofs.YtedealljhmokoaaDoor
