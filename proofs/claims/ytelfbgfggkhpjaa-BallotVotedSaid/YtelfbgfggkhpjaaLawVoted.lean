/- The law BallotVoted: ballot.Voted answers what the document's VotedFor answers, at every argument: no condition. -/
import Derived.Test.YtelfbgfggkhpjaaVoted
import Derived.Test.YtelfbgfggkhpjaaOpenSlot
import Derived.Test.YtelfbgfggkhpjaaOpen2
namespace Go.Proofs.Ytelfbgfggkhpjaa
open Go.ChangeShapes Go.WideShapes Go.ChangeAt Go.RowKit
set_option linter.unusedVariables false
set_option maxHeartbeats 1000000 in
set_option maxRecDepth 100000 in
theorem ballotVoted_any (v : Value) (l : List Slot) (au ro : Int) (w : World) (hv : RSlots w.cell? v l) :
    Calls Try.prog 5 #[v, .int .i64 au, .int .i64 ro] w fun e w' => e = .returned (.bool true) ∧ Below w.heap.size w w' := by
  have hl : l.length * 40 ≤ 140737488355328 := by obtain ⟨A, c, _, _, _, h, _⟩ := hv; exact h
  have hl1 := Lib.hid hl
  clear hl
  obtain ⟨E, hE⟩ : ∃ E, Hid (votedE l au ro = E) := ⟨_, rfl⟩
  obtain ⟨D, hD⟩ : ∃ D, Hid (votedD l au ro = D) := ⟨_, rfl⟩
  go_enter Try.func5, Try.ntmps5
  go_wp2_with fail
  refine (slotsCopy_any _ l _ hv).mono ?_
  rintro e w1 ⟨v1, rfl, hb1, ho1⟩
  have hr1 := ho1.reads RSlot.mono hl1.out
  go_wp2_with fail
  refine (voted_any _ l au ro _ hr1).mono ?_
  rintro e w2 ⟨d2, rfl, hb2, hr2⟩
  rw [hE.out]
  rw [hD.out] at hr2
  have hb02 := hb1.trans (hb2.mono hb1.size)
  go_wp2_with fail
  refine (votedFor_any _ l au ro _ (hv.mono RSlot.mono (vle_below hb02))).mono ?_
  rintro e w3 ⟨d3, rfl, hb3, hr3⟩
  rw [hE.out]
  rw [hD.out] at hr3
  have ga := run_toStr (hr2.mono (vle_below hb3))
  have gb := run_toStr hr3
  have hb03 := hb02.trans (hb3.mono hb02.size)
  clear hr1 hr2 hr3 ho1 hb1 hb2 hb02 hb3
  go_wp2
  go_ret
  exact ⟨rfl, hb03⟩
set_option maxHeartbeats 1000000 in
set_option maxRecDepth 100000 in
theorem ballotVoted_open {H : Type} {enc : TypeId × Value → H} (W : World) {base : Nat} {v v1 v2 : Value} {d d1 d2 : DataW H} {p p1 p2 : List MemPlace} (hval : Value.okWide Try.prog W .any base 37 v) (h : DataW.Trod enc Try.prog W 0 (fun _ => true) true 37 v d p)
    (hw : ∀ n ∈ DataW.weights Try.prog 37 d, n ≤ reachBytes) (hval1 : Value.okWide Try.prog W .any base 3 v1) (h1 : DataW.Trod enc Try.prog W 0 (fun _ => true) true 3 v1 d1 p1)
    (hw1 : ∀ n ∈ DataW.weights Try.prog 3 d1, n ≤ reachBytes) (hval2 : Value.okWide Try.prog W .any base 3 v2) (h2 : DataW.Trod enc Try.prog W 0 (fun _ => true) true 3 v2 d2 p2)
    (hw2 : ∀ n ∈ DataW.weights Try.prog 3 d2, n ≤ reachBytes) : Calls Try.prog 5 #[v, v1, v2] W fun e w' => e = .returned (.bool true) ∧ Below W.heap.size W w' := by
  obtain ⟨l, hr⟩ := open_cell (R := RSl 3 RSlot 40) Try.underlying37 hval h hw opens_slots
  obtain ⟨a, rfl, _⟩ := open_int (k := .i64) Try.underlying3 hval1 h1 hw1
  obtain ⟨r, rfl, _⟩ := open_int (k := .i64) Try.underlying3 hval2 h2 hw2
  exact ballotVoted_any _ _ _ _ _ hr
set_option maxRecDepth 100000 in
theorem ballotVoted_lifted (os : Os) (started : os.Started) (H : Type) (enc : TypeId × Value → H) :
    ReturnsInHanded {} Try.checked os 5 .any (Rows.ballotVotedSpec.pre6 enc Try.prog Try.f5 Rows.ballotVotedRow.domain false) (Rows.ballotVotedSpec.post enc Try.prog Try.f5 false true false false) := by
  refine returnsInHanded_of_change_sized (C := Try.checked) own_ started (by kernel_rfl) Try.func5
    (ChangeSpec.witness6 (enc := enc) (C := Try.checked) false ⟨#[], #[.slice none 0 0, .int .i64 0, .int .i64 0], []⟩ 8 (by kernel_rfl) (by kernel_rfl) (by kernel_rfl) (by kernel_rfl) (by kernel_rfl)) ?_
  intro W base args ds gs before hval hW _ hsz _
  have hW' := hW
  obtain ⟨p, q, hA, hV, rfl, hfz, hnd⟩ := hW
  obtain ⟨rfl, rfl⟩ := trodVars_none hV
  rw [Try.params5] at hA hval hsz
  obtain ⟨v0, v1, v2, d0, d1, d2, p0, p1, p2, rfl, rfl, rfl, h0, h1, h2⟩ := trodAll_three hA
  have hs0 : ∀ n ∈ DataW.weights Try.prog _ d0, n ≤ reachBytes := fun n hn => by simpa using List.all_eq_true.1 hsz n (DataW.weights_mem_each (j := 0) rfl rfl n hn)
  have hs1 : ∀ n ∈ DataW.weights Try.prog _ d1, n ≤ reachBytes := fun n hn => by simpa using List.all_eq_true.1 hsz n (DataW.weights_mem_each (j := 1) rfl rfl n hn)
  have hs2 : ∀ n ∈ DataW.weights Try.prog _ d2, n ≤ reachBytes := fun n hn => by simpa using List.all_eq_true.1 hsz n (DataW.weights_mem_each (j := 2) rfl rfl n hn)
  refine (ballotVoted_open W (hval 0 _ _ rfl rfl) h0 hs0 (hval 1 _ _ rfl rfl) h1 hs1 (hval 2 _ _ rfl rfl) h2 hs2).mono fun e W' ⟨he, hb⟩ => ?_
  exact law_close laidOut (b := 4) rfl Try.underlying4 rfl (readables _ (by kernel_rfl)) rfl hW' he hb
theorem ballotVoted_holds : Rows.BallotVotedSaid :=
  OpenClaim.holds_of_wide 5 Try.f5 rfl rfl rfl rfl rfl rfl rfl ⟨rfl, rfl, rfl, rfl, rfl⟩ rfl rfl rfl rfl rfl (by kernel_rfl) Try.func5 (by kernel_rfl)
    (of_decide_eq_true (by kernel_rfl)) (by unfold Func.isWrapper; first | (rw [if_pos (by decide +kernel)]; kernel_rfl) | (rw [if_neg (by decide +kernel)]; exact ⟨rfl, rfl⟩))
    (fun os started H enc _ => ballotVoted_lifted os started H enc)
end Go.Proofs.Ytelfbgfggkhpjaa
