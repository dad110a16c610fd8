/- The law Names: the numbers of package api are the document's: no condition. -/
import Derived.Test.YtelfbgfggkhpjaaChg
import Derived.Test.YtelfbgfggkhpjaaCopy
import Derived.Test.YtelfbgfggkhpjaaOpen
namespace Go.Proofs.Ytelfbgfggkhpjaa
open Go.ChangeShapes Go.WideShapes Go.ChangeAt Go.RowKit
set_option linter.unusedVariables false
def encInt (n : Int) : Value := .int .i64 n
theorem encInt_one (n : Int) : (encInt n).oneCell' = true := rfl
theorem elemInt : Elem1 Try.prog 24 3 8 := elem1 (z := .int .i64 0) Try.underlying24 (by kernel_rfl) rfl
def allA : List Int := [1, 2, 3, 4, 5, 1, 2, 3, 4, 5, 6, 7, 8, 9, 10]
def allB : List Int := [4, 3, 4000, 20, 4, 3, 1048576, 40, 400, 400, 800, 400000, 3000, 400]
theorem all_len : (allA ++ allB).length = 29 := rfl
theorem errs_at {w : World} {g : Nat} {t : TypeId} (hb : Blk w g t #[.int .i64 0, .int .i64 1, .int .i64 2, .int .i64 3, .int .i64 4, .int .i64 5, .int .i64 6, .int .i64 7, .int .i64 8, .int .i64 9, .int .i64 10, .int .i64 11, .int .i64 12]) {k : Nat} (hk : k < 13) : w.cell? ⟨g, k, none⟩ = some (.int .i64 k) := by
  rw [hb.cell]
  have hk' : k = 0 ∨ k = 1 ∨ k = 2 ∨ k = 3 ∨ k = 4 ∨ k = 5 ∨ k = 6 ∨ k = 7 ∨ k = 8 ∨ k = 9 ∨ k = 10 ∨ k = 11 ∨ k = 12 := by omega
  rcases hk' with rfl | rfl | rfl | rfl | rfl | rfl | rfl | rfl | rfl | rfl | rfl | rfl | rfl <;> rfl
set_option maxHeartbeats 4000000 in
set_option maxRecDepth 100000 in
theorem names_any (w : World) : Calls Try.prog 3 #[] w fun e w' => e = .returned (.bool true) ∧ Below w.heap.size w w' := by
  obtain ⟨L, hL, hlen⟩ : ∃ L, Hid (allA ++ allB = L) ∧ L.length = 29 := ⟨_, rfl, rfl⟩
  go_enter Try.func3, Try.ntmps3
  go_wp2
  go_loop [2] (fun i => ∃ k : Nat, k ≤ 13 ∧ i = .int .i64 k) (fun i => 13 - (intOf i).toNat)
  case atStart => exact ⟨0, Nat.zero_le _, rfl⟩
  case round =>
    obtain ⟨k, hk, rfl⟩ := hrel
    by_cases hlt : k < 13
    · have hc := errs_at (Blk.new w 22 _) hlt
      go_wp2
      go_round
      case rel => exact ⟨k + 1, by omega, by go_num⟩
      case measure => simp [intOf]; omega
    · go_wp2_with (at_builtin; go_loud (refine wpList_append_at (n := 140737488355328) (xs := allA) (ys := allB) (base := w.heap.size) elemInt encInt_one _ _ rfl rfl rfl (OwnVec.lit (((Blk.new' (by simp)).alloc _).alloc _) (by omega) rfl (by decide)) (by simp; omega) rfl ((OwnVec.lit (B := w.heap.size) (xs := allB) (Blk.new' (by simp)) (by omega) rfl (by decide)).reads (by decide)) (Nat.le_refl _) (by decide) (by decide) ?_))
      intro v1 w1 ho1 hg1 hl1
      rw [hL.out] at ho1
      obtain ⟨A1, c1, e1⟩ := ho1.form
      rw [hlen] at e1
      subst e1
      have hl := hl1 (by decide)
      have hz := hg1.size
      simp only [World.size_alloc] at hz
      have hb2 : Blk w1 (w.heap.size + 2) 3 (allA.map encInt).toArray := ((((Blk.new' (by simp)).alloc _) : Blk (((((w.alloc _).alloc _).alloc _).alloc _)) (w.heap.size + 2) 3 (allA.map encInt).toArray)).grown hg1 (by simp [Value.ownBlock])
      have hbel1 : Below w.heap.size w w1 := (Chg.of_grown (G := [w.heap.size + 1]) hg1 (by simp [Value.ownBlock])).below (B := w.heap.size) (by simp) (by simp; omega) |> Below.trans ((((((Below.refl _ _).alloc (Nat.le_refl _) _).alloc (by simp) _).alloc (by simp; omega) _).alloc (by simp; omega) _))
      go_wp2_with (at_builtin; go_loud (refine wpList_append_at (n := 140737488355328) (xs := allA) (ys := allB) (base := w.heap.size) elemInt encInt_one _ _ rfl rfl rfl (OwnVec.lit (hb2.alloc _) (by omega) rfl (by decide)) (by simp; omega) rfl ((OwnVec.lit (B := w.heap.size) (xs := allB) (Blk.new' rfl) (by omega) rfl (by decide)).reads (by decide)) (Nat.le_refl _) (by decide) (by decide) ?_))
      intro v2 w2 ho2 hg2 hl2
      rw [hL.out] at ho2
      obtain ⟨A2, c2, e2⟩ := ho2.form
      rw [hlen] at e2
      subst e2
      have hbel2 : Below w.heap.size w w2 := hbel1.trans ((Chg.of_grown (G := [w.heap.size + 2]) hg2 (by simp [Value.ownBlock])).below (B := w.heap.size) (by simp) (by simp; omega) |> Below.trans ((Below.refl _ _).alloc (by omega) _))
      have ho1' : OwnVec encInt 3 w2 w.heap.size _ _ := (ho1.alloc _).chg (Chg.of_grown (G := [w.heap.size + 2]) hg2 (by simp [Value.ownBlock])) (fun k hk => by
        rcases hl k hk with h | h
        · have h' : w.heap.size + 1 = k := by simpa [Value.ownBlock] using h
          rw [List.mem_singleton]; omega
        · have h' : w.heap.size + 4 ≤ k := by simpa using h
          rw [List.mem_singleton]; omega)
      have r1 := ho1'.reads (bs := 8) (by omega)
      have r2 := ho2.reads (bs := 8) (by omega)
      obtain ⟨_, _, e1, _, _, _, _, h1⟩ := r1
      obtain ⟨_, _, e2, _, _, _, _, h2⟩ := r2
      injection e1 with e1 e1l e1c
      injection e2 with e2 e2l e2c
      clear e1l e1c e2l e2c
      subst e1 e2
      obtain ⟨b1, o1, rfl, p1⟩ := h1 (by omega)
      obtain ⟨b2, o2, rfl, p2⟩ := h2 (by omega)
      have K1 := Lib.hid p1
      have K2 := Lib.hid p2
      clear h1 h2 p1 p2 hlt hk ho1 ho1' ho2 hg1 hg2 hl1 hl2 hl hb2 hbel1
      go_wp2
      go_loopw [5] (fun i wr => ∃ k : Nat, k ≤ 29 ∧ i = .int .i64 k ∧ Below w2.heap.size w2 wr) (fun i _ => 29 - (intOf i).toNat)
      case atStart => exact ⟨0, Nat.zero_le _, rfl, Below.refl _ _⟩
      case round =>
        obtain ⟨k, hk, rfl, hbw⟩ := hrel
        by_cases hlt : k < 29
        · have q1 : wr.cell? ⟨b1, o1 + k, none⟩ = some (.int .i64 (L[k]'(by omega))) := vle_below hbw _ _ (K1.out k (by omega))
          have q2 : wr.cell? ⟨b2, o2 + k, none⟩ = some (.int .i64 (L[k]'(by omega))) := vle_below hbw _ _ (K2.out k (by omega))
          generalize L[k]'(by omega) = x at q1 q2
          go_wp2
          refine wp_region_plan (fun w' => Below wr.heap.size wr w') [(0, true), (1, true), (2, true), (3, true), (4, true), (5, true), (6, true), (7, true), (8, true)] (by kernel_rfl) (by kernel_rfl) (fun _ _ d _ _ h => by cases d <;> exact h) rfl (by kernel_rfl) ?_ ?_
          · exact below_drew _
          intro W1 hS
          repeat (first
            | (refine wpPlan_takes rfl rfl ?_; apply Exists.intro; refine ⟨fun w' hS => ?_, ?_⟩; (· (have h1 := vle_below hS _ _ q1; have h2 := vle_below hS _ _ q2; go_simp; exact rfl)); simp only [List.getElem_toArray, List.getElem_cons_zero, List.getElem_cons_succ, Act.put, List.setIfInBounds_toArray, List.set_cons_zero, List.set_cons_succ])
            | (refine wpPlan_skip (by assumption) rfl rfl ?_; simp only [List.getElem_toArray, List.getElem_cons_zero, List.getElem_cons_succ, Act.put, List.setIfInBounds_toArray, List.set_cons_zero, List.set_cons_succ]))
          refine wpPlan_nil ?_
          go_wp2
          go_roundw
          case rel => exact ⟨k + 1, by omega, by go_num, hbw.trans (hS.mono hbw.size)⟩
          case measure => simp [intOf]; omega
        · go_wp2
          go_ret
          exact ⟨rfl, hbel2.trans (hbw.mono hbel2.size)⟩
set_option maxRecDepth 100000 in
theorem names_lifted (os : Os) (started : os.Started) (H : Type) (enc : TypeId × Value → H) :
    ReturnsInHanded {} Try.checked os 3 .any (Rows.namesSpec.pre6 enc Try.prog Try.f3 Rows.namesRow.domain false) (Rows.namesSpec.post enc Try.prog Try.f3 false true false false) := by
  refine returnsInHanded_of_change_sized (C := Try.checked) own_ started (by kernel_rfl) Try.func3
    (ChangeSpec.witness6 (enc := enc) (C := Try.checked) false ⟨#[], #[], []⟩ 8 (by kernel_rfl) (by kernel_rfl) (by kernel_rfl) (by kernel_rfl) (by kernel_rfl)) ?_
  intro W base args ds gs before hval hW _ hsz _
  have hW' := hW
  obtain ⟨p, q, hA, hV, rfl, hfz, hnd⟩ := hW
  obtain ⟨rfl, rfl⟩ := trodVars_none hV
  rw [Try.params3] at hA hval hsz
  obtain ⟨rfl, rfl, rfl⟩ := trodAll_none hA
  refine (names_any W).mono fun e W' ⟨he, hb⟩ => ?_
  exact law_close laidOut (b := 4) rfl Try.underlying4 rfl (readables _ (by kernel_rfl)) rfl hW' he hb
theorem names_holds : Rows.NamesSaid :=
  OpenClaim.holds_of_wide 3 Try.f3 rfl rfl rfl rfl rfl rfl rfl ⟨rfl, rfl, rfl, rfl, rfl⟩ rfl rfl rfl rfl rfl (by kernel_rfl) Try.func3 (by kernel_rfl)
    (of_decide_eq_true (by kernel_rfl)) (by unfold Func.isWrapper; first | (rw [if_pos (by decide +kernel)]; kernel_rfl) | (rw [if_neg (by decide +kernel)]; exact ⟨rfl, rfl⟩))
    (fun os started H enc _ => names_lifted os started H enc)
end Go.Proofs.Ytelfbgfggkhpjaa
