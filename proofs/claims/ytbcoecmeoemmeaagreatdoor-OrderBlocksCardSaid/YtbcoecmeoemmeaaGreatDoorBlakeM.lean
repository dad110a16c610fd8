/- The document's mixing of four words: what it makes of the row. -/
import Derived.Test.YtbcoecmeoemmeaaGreatDoorBlakeA
import Derived.Test.YtbcoecmeoemmeaaGreatDoorPlan3
namespace Go.Proofs.YtbcoecmeoemmeaaGreatDoor
open Go.ChangeShapes Go.WideShapes Go.ChangeAt Go.RowKit
set_option linter.unusedVariables false
set_option linter.unusedSimpArgs false
def encN (n : Nat) : Value := .int .i64 n
abbrev OwnN := OwnVec encN 3
theorem at0_get {v : List Nat} {i : Nat} (hi : i < v.length) : v[i] = at0 v i := by unfold at0; simp [hi]
theorem ownN_at {w : World} {B g n c : Nat} {vs : List Nat} (h : OwnN w B (.slice (some ⟨g, 0, none⟩) n c) vs) {i : Nat} (hi : i < vs.length) : w.cell? ⟨g, i, none⟩ = some (.int .i64 (at0 vs i : Nat)) := by
  rw [OwnVec.at h i hi, at0_get hi]; rfl
set_option maxHeartbeats 4000000 in
set_option maxRecDepth 100000 in
theorem mixed_any (g cap B : Nat) (vs : List Nat) (a b c d x y : Nat) (w0 : World) (ho0 : OwnN w0 B (.slice (some ⟨g, 0, none⟩) 16 cap) vs) (hw0 : Ws 16 vs) (ha : a < 16) (hb : b < 16) (hc : c < 16) (hd : d < 16) (hx : W32 x) (hy : W32 y) :
    Calls Tryz.prog 192 #[.slice (some ⟨g, 0, none⟩) 16 cap, .int .i64 a, .int .i64 b, .int .i64 c, .int .i64 d, .int .i64 x, .int .i64 y] w0 fun e w' => e = .returned (.tuple #[]) ∧ OwnN w' B (.slice (some ⟨g, 0, none⟩) 16 cap) (mix vs a b c d x y) ∧ Chg [g] w0 w' := by
  obtain ⟨v0, rfl⟩ : ∃ v0, v0 = vs := ⟨_, rfl⟩
  have hk0 : Chg [g] w0 w0 := Chg.refl _ _
  have ha' : (a : Int) < 16 := by omega
  have hb' : (b : Int) < 16 := by omega
  have hc' : (c : Int) < 16 := by omega
  have hd' : (d : Int) < 16 := by omega
  go_enter Tryz.func192, Tryz.ntmps192
  go_wp2
  obtain ⟨v1, hv1⟩ : ∃ v, Hid (mixA v0 a b x = v) := ⟨_, rfl⟩
  have hw1 : Ws 16 v1 := hv1.out ▸ hw0.mixA a b x
  have ep := ownN_at ho0 (i := a) (by have := hw0.1; omega)
  have eq := ownN_at ho0 (i := b) (by have := hw0.1; omega)
  have e1 := i64_add3 (hw0.2 a) (hw0.2 b) hx
  refine wp_region_pl (fun w' => Below w0.heap.size w0 w') [15] (.q 0 (.q 1 (.q 2 (.q 3 (.q 4 (.q 5 (.q 6 (.q 7 (.q 8 (.q 9 (.q 10 (.q 11 (.q 12 (.q 13 (.q 14 (.l 15 .nil)))))))))))))))) (by kernel_rfl) (by kernel_rfl) (fun _ _ d _ _ h => by cases d <;> exact h) rfl (by kernel_rfl) ?_ ?_
  · exact below_drew _
  intro W hS
  repeat (first
    | (refine pl_q (by assumption) rfl rfl ?_; apply Exists.intro; refine ⟨fun w' hS => ?_, ?_⟩; (· (have h1 := vle_below hS _ _ ep; have h2 := vle_below hS _ _ eq; go_simp; exact rfl)); simp only [List.getElem_toArray, List.getElem_cons_zero, List.getElem_cons_succ, Act.put, List.setIfInBounds_toArray, List.set_cons_zero, List.set_cons_succ])
    | (refine pl_qc rfl rfl ?_; apply Exists.intro; refine ⟨fun w' _ => ?_, ?_⟩; (· (go_simp; exact rfl)); simp only [List.getElem_toArray, List.getElem_cons_zero, List.getElem_cons_succ, Act.put, List.setIfInBounds_toArray, List.set_cons_zero, List.set_cons_succ])
    | (refine pl_skip (by assumption) rfl rfl ?_; simp only [List.getElem_toArray, List.getElem_cons_zero, List.getElem_cons_succ, Act.put, List.setIfInBounds_toArray, List.set_cons_zero, List.set_cons_succ])
    | (refine pl_skipl (by assumption) rfl rfl ?_; simp only [List.getElem_toArray, List.getElem_cons_zero, List.getElem_cons_succ, Act.put, List.setIfInBounds_toArray, List.set_cons_zero, List.set_cons_succ]))
  first
    | refine pl_close rfl rfl rfl (fun K hK => ?_)
    | refine op_close rfl rfl rfl (fun K hK => ?_)
  try simp only [List.getElem_toArray, List.getElem_cons_zero, List.getElem_cons_succ]
  refine wp_store_vec (xs := v0) (add3 (at0 v0 a) (at0 v0 b) _) rfl rfl rfl (by kernel_rfl) rfl rfl (ho0.kept hS) (by have := hw0.1; omega) ?_
  intro w1 ho1 hg
  rw [show v0.set a (add3 (at0 v0 a) (at0 v0 b) _) = v1 from hv1.out] at ho1
  have hk1 : Chg [g] w0 w1 := hk0.trans ((Chg.of_below hS (Nat.le_refl _)).trans (.of_grown hg (by simp)))
  clear hg hS e1 ep eq
  refine hK.out _ _ ?_
  clear hK K
  try simp only [List.getElem_toArray, List.getElem_cons_zero, List.getElem_cons_succ, Act.put, List.setIfInBounds_toArray, List.set_cons_zero, List.set_cons_succ]
  refine pl_nil ?_
  go_wp2
  obtain ⟨v2, hv2⟩ : ∃ v, Hid (mixD v1 d a 16 = v) := ⟨_, rfl⟩
  have hw2 : Ws 16 v2 := hv2.out ▸ hw1.mixD d a 16
  have ep := ownN_at ho1 (i := d) (by have := hw1.1; omega)
  have eq := ownN_at ho1 (i := a) (by have := hw1.1; omega)
  have e1 := i64_xor (hw1.2 d) (hw1.2 a)
  refine wp_region_pl (fun w' => Below w1.heap.size w1 w') [13] (.q 0 (.q 1 (.q 2 (.q 3 (.q 4 (.q 5 (.q 6 (.q 7 (.q 8 (.q 9 (.q 10 (.l 11 (.q 12 (.l 13 .nil)))))))))))))) (by kernel_rfl) (by kernel_rfl) (fun _ _ d _ _ h => by cases d <;> exact h) rfl (by kernel_rfl) ?_ ?_
  · exact below_drew _
  intro W hS
  repeat (first
    | (refine pl_q (by assumption) rfl rfl ?_; apply Exists.intro; refine ⟨fun w' hS => ?_, ?_⟩; (· (have h1 := vle_below hS _ _ ep; have h2 := vle_below hS _ _ eq; go_simp; exact rfl)); simp only [List.getElem_toArray, List.getElem_cons_zero, List.getElem_cons_succ, Act.put, List.setIfInBounds_toArray, List.set_cons_zero, List.set_cons_succ])
    | (refine pl_qc rfl rfl ?_; apply Exists.intro; refine ⟨fun w' _ => ?_, ?_⟩; (· (go_simp; exact rfl)); simp only [List.getElem_toArray, List.getElem_cons_zero, List.getElem_cons_succ, Act.put, List.setIfInBounds_toArray, List.set_cons_zero, List.set_cons_succ])
    | (refine pl_skip (by assumption) rfl rfl ?_; simp only [List.getElem_toArray, List.getElem_cons_zero, List.getElem_cons_succ, Act.put, List.setIfInBounds_toArray, List.set_cons_zero, List.set_cons_succ])
    | (refine pl_skipl (by assumption) rfl rfl ?_; simp only [List.getElem_toArray, List.getElem_cons_zero, List.getElem_cons_succ, Act.put, List.setIfInBounds_toArray, List.set_cons_zero, List.set_cons_succ]))
  first
    | refine pl_do rfl rfl (fun K hK => ?_)
    | refine op_do rfl rfl (fun K hK => ?_)
  try simp only [List.getElem_toArray, List.getElem_cons_zero, List.getElem_cons_succ]
  go_simp
  refine (turned_any (xor32 (at0 v1 d) (at0 v1 a)) 16 16 (by decide) _ (xor32_lt (hw1.2 _) (hw1.2 _)) (by decide) (by decide)).mono ?_
  rintro e W2 ⟨rfl, hb2⟩
  refine hK.out _ _ (hS.trans (hb2.mono hS.size)) (fun hS => ?_)
  clear hK K
  try simp only [List.getElem_toArray, List.getElem_cons_zero, List.getElem_cons_succ, Act.put, List.setIfInBounds_toArray, List.set_cons_zero, List.set_cons_succ]
  repeat (first
    | (refine pl_q (by assumption) rfl rfl ?_; apply Exists.intro; refine ⟨fun w' hS => ?_, ?_⟩; (· (skip; go_simp; exact rfl)); simp only [List.getElem_toArray, List.getElem_cons_zero, List.getElem_cons_succ, Act.put, List.setIfInBounds_toArray, List.set_cons_zero, List.set_cons_succ])
    | (refine pl_qc rfl rfl ?_; apply Exists.intro; refine ⟨fun w' _ => ?_, ?_⟩; (· (go_simp; exact rfl)); simp only [List.getElem_toArray, List.getElem_cons_zero, List.getElem_cons_succ, Act.put, List.setIfInBounds_toArray, List.set_cons_zero, List.set_cons_succ])
    | (refine pl_skip (by assumption) rfl rfl ?_; simp only [List.getElem_toArray, List.getElem_cons_zero, List.getElem_cons_succ, Act.put, List.setIfInBounds_toArray, List.set_cons_zero, List.set_cons_succ])
    | (refine pl_skipl (by assumption) rfl rfl ?_; simp only [List.getElem_toArray, List.getElem_cons_zero, List.getElem_cons_succ, Act.put, List.setIfInBounds_toArray, List.set_cons_zero, List.set_cons_succ]))
  first
    | refine pl_close rfl rfl rfl (fun K hK => ?_)
    | refine op_close rfl rfl rfl (fun K hK => ?_)
  try simp only [List.getElem_toArray, List.getElem_cons_zero, List.getElem_cons_succ]
  refine wp_store_vec (xs := v1) (rot (xor32 (at0 v1 d) (at0 v1 a)) 16) rfl rfl rfl (by kernel_rfl) rfl rfl (ho1.kept hS) (by have := hw1.1; omega) ?_
  intro w2 ho2 hg
  rw [show v1.set d (rot (xor32 (at0 v1 d) (at0 v1 a)) 16) = v2 from hv2.out] at ho2
  have hk2 : Chg [g] w0 w2 := hk1.trans ((Chg.of_below hS (Nat.le_refl _)).trans (.of_grown hg (by simp)))
  clear hg hS hb2 e1 ep eq
  refine hK.out _ _ ?_
  clear hK K
  try simp only [List.getElem_toArray, List.getElem_cons_zero, List.getElem_cons_succ, Act.put, List.setIfInBounds_toArray, List.set_cons_zero, List.set_cons_succ]
  refine pl_nil ?_
  go_wp2
  obtain ⟨v3, hv3⟩ : ∃ v, Hid (mixC v2 c d = v) := ⟨_, rfl⟩
  have hw3 : Ws 16 v3 := hv3.out ▸ hw2.mixC c d
  have ep := ownN_at ho2 (i := c) (by have := hw2.1; omega)
  have eq := ownN_at ho2 (i := d) (by have := hw2.1; omega)
  have e1 := i64_add2 (hw2.2 c) (hw2.2 d)
  refine wp_region_pl (fun w' => Below w2.heap.size w2 w') [13] (.q 0 (.q 1 (.q 2 (.q 3 (.q 4 (.q 5 (.q 6 (.q 7 (.q 8 (.q 9 (.q 10 (.q 11 (.q 12 (.l 13 .nil)))))))))))))) (by kernel_rfl) (by kernel_rfl) (fun _ _ d _ _ h => by cases d <;> exact h) rfl (by kernel_rfl) ?_ ?_
  · exact below_drew _
  intro W hS
  repeat (first
    | (refine pl_q (by assumption) rfl rfl ?_; apply Exists.intro; refine ⟨fun w' hS => ?_, ?_⟩; (· (have h1 := vle_below hS _ _ ep; have h2 := vle_below hS _ _ eq; go_simp; exact rfl)); simp only [List.getElem_toArray, List.getElem_cons_zero, List.getElem_cons_succ, Act.put, List.setIfInBounds_toArray, List.set_cons_zero, List.set_cons_succ])
    | (refine pl_qc rfl rfl ?_; apply Exists.intro; refine ⟨fun w' _ => ?_, ?_⟩; (· (go_simp; exact rfl)); simp only [List.getElem_toArray, List.getElem_cons_zero, List.getElem_cons_succ, Act.put, List.setIfInBounds_toArray, List.set_cons_zero, List.set_cons_succ])
    | (refine pl_skip (by assumption) rfl rfl ?_; simp only [List.getElem_toArray, List.getElem_cons_zero, List.getElem_cons_succ, Act.put, List.setIfInBounds_toArray, List.set_cons_zero, List.set_cons_succ])
    | (refine pl_skipl (by assumption) rfl rfl ?_; simp only [List.getElem_toArray, List.getElem_cons_zero, List.getElem_cons_succ, Act.put, List.setIfInBounds_toArray, List.set_cons_zero, List.set_cons_succ]))
  first
    | refine pl_close rfl rfl rfl (fun K hK => ?_)
    | refine op_close rfl rfl rfl (fun K hK => ?_)
  try simp only [List.getElem_toArray, List.getElem_cons_zero, List.getElem_cons_succ]
  refine wp_store_vec (xs := v2) (add2 (at0 v2 c) (at0 v2 d)) rfl rfl rfl (by kernel_rfl) rfl rfl (ho2.kept hS) (by have := hw2.1; omega) ?_
  intro w3 ho3 hg
  rw [show v2.set c (add2 (at0 v2 c) (at0 v2 d)) = v3 from hv3.out] at ho3
  have hk3 : Chg [g] w0 w3 := hk2.trans ((Chg.of_below hS (Nat.le_refl _)).trans (.of_grown hg (by simp)))
  clear hg hS e1 ep eq
  refine hK.out _ _ ?_
  clear hK K
  try simp only [List.getElem_toArray, List.getElem_cons_zero, List.getElem_cons_succ, Act.put, List.setIfInBounds_toArray, List.set_cons_zero, List.set_cons_succ]
  refine pl_nil ?_
  go_wp2
  obtain ⟨v4, hv4⟩ : ∃ v, Hid (mixD v3 b c 12 = v) := ⟨_, rfl⟩
  have hw4 : Ws 16 v4 := hv4.out ▸ hw3.mixD b c 12
  have ep := ownN_at ho3 (i := b) (by have := hw3.1; omega)
  have eq := ownN_at ho3 (i := c) (by have := hw3.1; omega)
  have e1 := i64_xor (hw3.2 b) (hw3.2 c)
  refine wp_region_pl (fun w' => Below w3.heap.size w3 w') [13] (.q 0 (.q 1 (.q 2 (.q 3 (.q 4 (.q 5 (.q 6 (.q 7 (.q 8 (.q 9 (.q 10 (.l 11 (.q 12 (.l 13 .nil)))))))))))))) (by kernel_rfl) (by kernel_rfl) (fun _ _ d _ _ h => by cases d <;> exact h) rfl (by kernel_rfl) ?_ ?_
  · exact below_drew _
  intro W hS
  repeat (first
    | (refine pl_q (by assumption) rfl rfl ?_; apply Exists.intro; refine ⟨fun w' hS => ?_, ?_⟩; (· (have h1 := vle_below hS _ _ ep; have h2 := vle_below hS _ _ eq; go_simp; exact rfl)); simp only [List.getElem_toArray, List.getElem_cons_zero, List.getElem_cons_succ, Act.put, List.setIfInBounds_toArray, List.set_cons_zero, List.set_cons_succ])
    | (refine pl_qc rfl rfl ?_; apply Exists.intro; refine ⟨fun w' _ => ?_, ?_⟩; (· (go_simp; exact rfl)); simp only [List.getElem_toArray, List.getElem_cons_zero, List.getElem_cons_succ, Act.put, List.setIfInBounds_toArray, List.set_cons_zero, List.set_cons_succ])
    | (refine pl_skip (by assumption) rfl rfl ?_; simp only [List.getElem_toArray, List.getElem_cons_zero, List.getElem_cons_succ, Act.put, List.setIfInBounds_toArray, List.set_cons_zero, List.set_cons_succ])
    | (refine pl_skipl (by assumption) rfl rfl ?_; simp only [List.getElem_toArray, List.getElem_cons_zero, List.getElem_cons_succ, Act.put, List.setIfInBounds_toArray, List.set_cons_zero, List.set_cons_succ]))
  first
    | refine pl_do rfl rfl (fun K hK => ?_)
    | refine op_do rfl rfl (fun K hK => ?_)
  try simp only [List.getElem_toArray, List.getElem_cons_zero, List.getElem_cons_succ]
  go_simp
  refine (turned_any (xor32 (at0 v3 b) (at0 v3 c)) 12 12 (by decide) _ (xor32_lt (hw3.2 _) (hw3.2 _)) (by decide) (by decide)).mono ?_
  rintro e W2 ⟨rfl, hb2⟩
  refine hK.out _ _ (hS.trans (hb2.mono hS.size)) (fun hS => ?_)
  clear hK K
  try simp only [List.getElem_toArray, List.getElem_cons_zero, List.getElem_cons_succ, Act.put, List.setIfInBounds_toArray, List.set_cons_zero, List.set_cons_succ]
  repeat (first
    | (refine pl_q (by assumption) rfl rfl ?_; apply Exists.intro; refine ⟨fun w' hS => ?_, ?_⟩; (· (skip; go_simp; exact rfl)); simp only [List.getElem_toArray, List.getElem_cons_zero, List.getElem_cons_succ, Act.put, List.setIfInBounds_toArray, List.set_cons_zero, List.set_cons_succ])
    | (refine pl_qc rfl rfl ?_; apply Exists.intro; refine ⟨fun w' _ => ?_, ?_⟩; (· (go_simp; exact rfl)); simp only [List.getElem_toArray, List.getElem_cons_zero, List.getElem_cons_succ, Act.put, List.setIfInBounds_toArray, List.set_cons_zero, List.set_cons_succ])
    | (refine pl_skip (by assumption) rfl rfl ?_; simp only [List.getElem_toArray, List.getElem_cons_zero, List.getElem_cons_succ, Act.put, List.setIfInBounds_toArray, List.set_cons_zero, List.set_cons_succ])
    | (refine pl_skipl (by assumption) rfl rfl ?_; simp only [List.getElem_toArray, List.getElem_cons_zero, List.getElem_cons_succ, Act.put, List.setIfInBounds_toArray, List.set_cons_zero, List.set_cons_succ]))
  first
    | refine pl_close rfl rfl rfl (fun K hK => ?_)
    | refine op_close rfl rfl rfl (fun K hK => ?_)
  try simp only [List.getElem_toArray, List.getElem_cons_zero, List.getElem_cons_succ]
  refine wp_store_vec (xs := v3) (rot (xor32 (at0 v3 b) (at0 v3 c)) 12) rfl rfl rfl (by kernel_rfl) rfl rfl (ho3.kept hS) (by have := hw3.1; omega) ?_
  intro w4 ho4 hg
  rw [show v3.set b (rot (xor32 (at0 v3 b) (at0 v3 c)) 12) = v4 from hv4.out] at ho4
  have hk4 : Chg [g] w0 w4 := hk3.trans ((Chg.of_below hS (Nat.le_refl _)).trans (.of_grown hg (by simp)))
  clear hg hS hb2 e1 ep eq
  refine hK.out _ _ ?_
  clear hK K
  try simp only [List.getElem_toArray, List.getElem_cons_zero, List.getElem_cons_succ, Act.put, List.setIfInBounds_toArray, List.set_cons_zero, List.set_cons_succ]
  refine pl_nil ?_
  go_wp2
  obtain ⟨v5, hv5⟩ : ∃ v, Hid (mixA v4 a b y = v) := ⟨_, rfl⟩
  have hw5 : Ws 16 v5 := hv5.out ▸ hw4.mixA a b y
  have ep := ownN_at ho4 (i := a) (by have := hw4.1; omega)
  have eq := ownN_at ho4 (i := b) (by have := hw4.1; omega)
  have e1 := i64_add3 (hw4.2 a) (hw4.2 b) hy
  refine wp_region_pl (fun w' => Below w4.heap.size w4 w') [15] (.q 0 (.q 1 (.q 2 (.q 3 (.q 4 (.q 5 (.q 6 (.q 7 (.q 8 (.q 9 (.q 10 (.q 11 (.q 12 (.q 13 (.q 14 (.l 15 .nil)))))))))))))))) (by kernel_rfl) (by kernel_rfl) (fun _ _ d _ _ h => by cases d <;> exact h) rfl (by kernel_rfl) ?_ ?_
  · exact below_drew _
  intro W hS
  repeat (first
    | (refine pl_q (by assumption) rfl rfl ?_; apply Exists.intro; refine ⟨fun w' hS => ?_, ?_⟩; (· (have h1 := vle_below hS _ _ ep; have h2 := vle_below hS _ _ eq; go_simp; exact rfl)); simp only [List.getElem_toArray, List.getElem_cons_zero, List.getElem_cons_succ, Act.put, List.setIfInBounds_toArray, List.set_cons_zero, List.set_cons_succ])
    | (refine pl_qc rfl rfl ?_; apply Exists.intro; refine ⟨fun w' _ => ?_, ?_⟩; (· (go_simp; exact rfl)); simp only [List.getElem_toArray, List.getElem_cons_zero, List.getElem_cons_succ, Act.put, List.setIfInBounds_toArray, List.set_cons_zero, List.set_cons_succ])
    | (refine pl_skip (by assumption) rfl rfl ?_; simp only [List.getElem_toArray, List.getElem_cons_zero, List.getElem_cons_succ, Act.put, List.setIfInBounds_toArray, List.set_cons_zero, List.set_cons_succ])
    | (refine pl_skipl (by assumption) rfl rfl ?_; simp only [List.getElem_toArray, List.getElem_cons_zero, List.getElem_cons_succ, Act.put, List.setIfInBounds_toArray, List.set_cons_zero, List.set_cons_succ]))
  first
    | refine pl_close rfl rfl rfl (fun K hK => ?_)
    | refine op_close rfl rfl rfl (fun K hK => ?_)
  try simp only [List.getElem_toArray, List.getElem_cons_zero, List.getElem_cons_succ]
  refine wp_store_vec (xs := v4) (add3 (at0 v4 a) (at0 v4 b) _) rfl rfl rfl (by kernel_rfl) rfl rfl (ho4.kept hS) (by have := hw4.1; omega) ?_
  intro w5 ho5 hg
  rw [show v4.set a (add3 (at0 v4 a) (at0 v4 b) _) = v5 from hv5.out] at ho5
  have hk5 : Chg [g] w0 w5 := hk4.trans ((Chg.of_below hS (Nat.le_refl _)).trans (.of_grown hg (by simp)))
  clear hg hS e1 ep eq
  refine hK.out _ _ ?_
  clear hK K
  try simp only [List.getElem_toArray, List.getElem_cons_zero, List.getElem_cons_succ, Act.put, List.setIfInBounds_toArray, List.set_cons_zero, List.set_cons_succ]
  refine pl_nil ?_
  go_wp2
  obtain ⟨v6, hv6⟩ : ∃ v, Hid (mixD v5 d a 8 = v) := ⟨_, rfl⟩
  have hw6 : Ws 16 v6 := hv6.out ▸ hw5.mixD d a 8
  have ep := ownN_at ho5 (i := d) (by have := hw5.1; omega)
  have eq := ownN_at ho5 (i := a) (by have := hw5.1; omega)
  have e1 := i64_xor (hw5.2 d) (hw5.2 a)
  refine wp_region_pl (fun w' => Below w5.heap.size w5 w') [13] (.q 0 (.q 1 (.q 2 (.q 3 (.q 4 (.q 5 (.q 6 (.q 7 (.q 8 (.q 9 (.q 10 (.l 11 (.q 12 (.l 13 .nil)))))))))))))) (by kernel_rfl) (by kernel_rfl) (fun _ _ d _ _ h => by cases d <;> exact h) rfl (by kernel_rfl) ?_ ?_
  · exact below_drew _
  intro W hS
  repeat (first
    | (refine pl_q (by assumption) rfl rfl ?_; apply Exists.intro; refine ⟨fun w' hS => ?_, ?_⟩; (· (have h1 := vle_below hS _ _ ep; have h2 := vle_below hS _ _ eq; go_simp; exact rfl)); simp only [List.getElem_toArray, List.getElem_cons_zero, List.getElem_cons_succ, Act.put, List.setIfInBounds_toArray, List.set_cons_zero, List.set_cons_succ])
    | (refine pl_qc rfl rfl ?_; apply Exists.intro; refine ⟨fun w' _ => ?_, ?_⟩; (· (go_simp; exact rfl)); simp only [List.getElem_toArray, List.getElem_cons_zero, List.getElem_cons_succ, Act.put, List.setIfInBounds_toArray, List.set_cons_zero, List.set_cons_succ])
    | (refine pl_skip (by assumption) rfl rfl ?_; simp only [List.getElem_toArray, List.getElem_cons_zero, List.getElem_cons_succ, Act.put, List.setIfInBounds_toArray, List.set_cons_zero, List.set_cons_succ])
    | (refine pl_skipl (by assumption) rfl rfl ?_; simp only [List.getElem_toArray, List.getElem_cons_zero, List.getElem_cons_succ, Act.put, List.setIfInBounds_toArray, List.set_cons_zero, List.set_cons_succ]))
  first
    | refine pl_do rfl rfl (fun K hK => ?_)
    | refine op_do rfl rfl (fun K hK => ?_)
  try simp only [List.getElem_toArray, List.getElem_cons_zero, List.getElem_cons_succ]
  go_simp
  refine (turned_any (xor32 (at0 v5 d) (at0 v5 a)) 8 8 (by decide) _ (xor32_lt (hw5.2 _) (hw5.2 _)) (by decide) (by decide)).mono ?_
  rintro e W2 ⟨rfl, hb2⟩
  refine hK.out _ _ (hS.trans (hb2.mono hS.size)) (fun hS => ?_)
  clear hK K
  try simp only [List.getElem_toArray, List.getElem_cons_zero, List.getElem_cons_succ, Act.put, List.setIfInBounds_toArray, List.set_cons_zero, List.set_cons_succ]
  repeat (first
    | (refine pl_q (by assumption) rfl rfl ?_; apply Exists.intro; refine ⟨fun w' hS => ?_, ?_⟩; (· (skip; go_simp; exact rfl)); simp only [List.getElem_toArray, List.getElem_cons_zero, List.getElem_cons_succ, Act.put, List.setIfInBounds_toArray, List.set_cons_zero, List.set_cons_succ])
    | (refine pl_qc rfl rfl ?_; apply Exists.intro; refine ⟨fun w' _ => ?_, ?_⟩; (· (go_simp; exact rfl)); simp only [List.getElem_toArray, List.getElem_cons_zero, List.getElem_cons_succ, Act.put, List.setIfInBounds_toArray, List.set_cons_zero, List.set_cons_succ])
    | (refine pl_skip (by assumption) rfl rfl ?_; simp only [List.getElem_toArray, List.getElem_cons_zero, List.getElem_cons_succ, Act.put, List.setIfInBounds_toArray, List.set_cons_zero, List.set_cons_succ])
    | (refine pl_skipl (by assumption) rfl rfl ?_; simp only [List.getElem_toArray, List.getElem_cons_zero, List.getElem_cons_succ, Act.put, List.setIfInBounds_toArray, List.set_cons_zero, List.set_cons_succ]))
  first
    | refine pl_close rfl rfl rfl (fun K hK => ?_)
    | refine op_close rfl rfl rfl (fun K hK => ?_)
  try simp only [List.getElem_toArray, List.getElem_cons_zero, List.getElem_cons_succ]
  refine wp_store_vec (xs := v5) (rot (xor32 (at0 v5 d) (at0 v5 a)) 8) rfl rfl rfl (by kernel_rfl) rfl rfl (ho5.kept hS) (by have := hw5.1; omega) ?_
  intro w6 ho6 hg
  rw [show v5.set d (rot (xor32 (at0 v5 d) (at0 v5 a)) 8) = v6 from hv6.out] at ho6
  have hk6 : Chg [g] w0 w6 := hk5.trans ((Chg.of_below hS (Nat.le_refl _)).trans (.of_grown hg (by simp)))
  clear hg hS hb2 e1 ep eq
  refine hK.out _ _ ?_
  clear hK K
  try simp only [List.getElem_toArray, List.getElem_cons_zero, List.getElem_cons_succ, Act.put, List.setIfInBounds_toArray, List.set_cons_zero, List.set_cons_succ]
  refine pl_nil ?_
  go_wp2
  obtain ⟨v7, hv7⟩ : ∃ v, Hid (mixC v6 c d = v) := ⟨_, rfl⟩
  have hw7 : Ws 16 v7 := hv7.out ▸ hw6.mixC c d
  have ep := ownN_at ho6 (i := c) (by have := hw6.1; omega)
  have eq := ownN_at ho6 (i := d) (by have := hw6.1; omega)
  have e1 := i64_add2 (hw6.2 c) (hw6.2 d)
  refine wp_region_pl (fun w' => Below w6.heap.size w6 w') [13] (.q 0 (.q 1 (.q 2 (.q 3 (.q 4 (.q 5 (.q 6 (.q 7 (.q 8 (.q 9 (.q 10 (.q 11 (.q 12 (.l 13 .nil)))))))))))))) (by kernel_rfl) (by kernel_rfl) (fun _ _ d _ _ h => by cases d <;> exact h) rfl (by kernel_rfl) ?_ ?_
  · exact below_drew _
  intro W hS
  repeat (first
    | (refine pl_q (by assumption) rfl rfl ?_; apply Exists.intro; refine ⟨fun w' hS => ?_, ?_⟩; (· (have h1 := vle_below hS _ _ ep; have h2 := vle_below hS _ _ eq; go_simp; exact rfl)); simp only [List.getElem_toArray, List.getElem_cons_zero, List.getElem_cons_succ, Act.put, List.setIfInBounds_toArray, List.set_cons_zero, List.set_cons_succ])
    | (refine pl_qc rfl rfl ?_; apply Exists.intro; refine ⟨fun w' _ => ?_, ?_⟩; (· (go_simp; exact rfl)); simp only [List.getElem_toArray, List.getElem_cons_zero, List.getElem_cons_succ, Act.put, List.setIfInBounds_toArray, List.set_cons_zero, List.set_cons_succ])
    | (refine pl_skip (by assumption) rfl rfl ?_; simp only [List.getElem_toArray, List.getElem_cons_zero, List.getElem_cons_succ, Act.put, List.setIfInBounds_toArray, List.set_cons_zero, List.set_cons_succ])
    | (refine pl_skipl (by assumption) rfl rfl ?_; simp only [List.getElem_toArray, List.getElem_cons_zero, List.getElem_cons_succ, Act.put, List.setIfInBounds_toArray, List.set_cons_zero, List.set_cons_succ]))
  first
    | refine pl_close rfl rfl rfl (fun K hK => ?_)
    | refine op_close rfl rfl rfl (fun K hK => ?_)
  try simp only [List.getElem_toArray, List.getElem_cons_zero, List.getElem_cons_succ]
  refine wp_store_vec (xs := v6) (add2 (at0 v6 c) (at0 v6 d)) rfl rfl rfl (by kernel_rfl) rfl rfl (ho6.kept hS) (by have := hw6.1; omega) ?_
  intro w7 ho7 hg
  rw [show v6.set c (add2 (at0 v6 c) (at0 v6 d)) = v7 from hv7.out] at ho7
  have hk7 : Chg [g] w0 w7 := hk6.trans ((Chg.of_below hS (Nat.le_refl _)).trans (.of_grown hg (by simp)))
  clear hg hS e1 ep eq
  refine hK.out _ _ ?_
  clear hK K
  try simp only [List.getElem_toArray, List.getElem_cons_zero, List.getElem_cons_succ, Act.put, List.setIfInBounds_toArray, List.set_cons_zero, List.set_cons_succ]
  refine pl_nil ?_
  go_wp2
  obtain ⟨v8, hv8⟩ : ∃ v, Hid (mixD v7 b c 7 = v) := ⟨_, rfl⟩
  have hw8 : Ws 16 v8 := hv8.out ▸ hw7.mixD b c 7
  have ep := ownN_at ho7 (i := b) (by have := hw7.1; omega)
  have eq := ownN_at ho7 (i := c) (by have := hw7.1; omega)
  have e1 := i64_xor (hw7.2 b) (hw7.2 c)
  refine wp_region_pl (fun w' => Below w7.heap.size w7 w') [13] (.q 0 (.q 1 (.q 2 (.q 3 (.q 4 (.q 5 (.q 6 (.q 7 (.q 8 (.q 9 (.q 10 (.l 11 (.q 12 (.l 13 .nil)))))))))))))) (by kernel_rfl) (by kernel_rfl) (fun _ _ d _ _ h => by cases d <;> exact h) rfl (by kernel_rfl) ?_ ?_
  · exact below_drew _
  intro W hS
  repeat (first
    | (refine pl_q (by assumption) rfl rfl ?_; apply Exists.intro; refine ⟨fun w' hS => ?_, ?_⟩; (· (have h1 := vle_below hS _ _ ep; have h2 := vle_below hS _ _ eq; go_simp; exact rfl)); simp only [List.getElem_toArray, List.getElem_cons_zero, List.getElem_cons_succ, Act.put, List.setIfInBounds_toArray, List.set_cons_zero, List.set_cons_succ])
    | (refine pl_qc rfl rfl ?_; apply Exists.intro; refine ⟨fun w' _ => ?_, ?_⟩; (· (go_simp; exact rfl)); simp only [List.getElem_toArray, List.getElem_cons_zero, List.getElem_cons_succ, Act.put, List.setIfInBounds_toArray, List.set_cons_zero, List.set_cons_succ])
    | (refine pl_skip (by assumption) rfl rfl ?_; simp only [List.getElem_toArray, List.getElem_cons_zero, List.getElem_cons_succ, Act.put, List.setIfInBounds_toArray, List.set_cons_zero, List.set_cons_succ])
    | (refine pl_skipl (by assumption) rfl rfl ?_; simp only [List.getElem_toArray, List.getElem_cons_zero, List.getElem_cons_succ, Act.put, List.setIfInBounds_toArray, List.set_cons_zero, List.set_cons_succ]))
  first
    | refine pl_do rfl rfl (fun K hK => ?_)
    | refine op_do rfl rfl (fun K hK => ?_)
  try simp only [List.getElem_toArray, List.getElem_cons_zero, List.getElem_cons_succ]
  go_simp
  refine (turned_any (xor32 (at0 v7 b) (at0 v7 c)) 7 7 (by decide) _ (xor32_lt (hw7.2 _) (hw7.2 _)) (by decide) (by decide)).mono ?_
  rintro e W2 ⟨rfl, hb2⟩
  refine hK.out _ _ (hS.trans (hb2.mono hS.size)) (fun hS => ?_)
  clear hK K
  try simp only [List.getElem_toArray, List.getElem_cons_zero, List.getElem_cons_succ, Act.put, List.setIfInBounds_toArray, List.set_cons_zero, List.set_cons_succ]
  repeat (first
    | (refine pl_q (by assumption) rfl rfl ?_; apply Exists.intro; refine ⟨fun w' hS => ?_, ?_⟩; (· (skip; go_simp; exact rfl)); simp only [List.getElem_toArray, List.getElem_cons_zero, List.getElem_cons_succ, Act.put, List.setIfInBounds_toArray, List.set_cons_zero, List.set_cons_succ])
    | (refine pl_qc rfl rfl ?_; apply Exists.intro; refine ⟨fun w' _ => ?_, ?_⟩; (· (go_simp; exact rfl)); simp only [List.getElem_toArray, List.getElem_cons_zero, List.getElem_cons_succ, Act.put, List.setIfInBounds_toArray, List.set_cons_zero, List.set_cons_succ])
    | (refine pl_skip (by assumption) rfl rfl ?_; simp only [List.getElem_toArray, List.getElem_cons_zero, List.getElem_cons_succ, Act.put, List.setIfInBounds_toArray, List.set_cons_zero, List.set_cons_succ])
    | (refine pl_skipl (by assumption) rfl rfl ?_; simp only [List.getElem_toArray, List.getElem_cons_zero, List.getElem_cons_succ, Act.put, List.setIfInBounds_toArray, List.set_cons_zero, List.set_cons_succ]))
  first
    | refine pl_close rfl rfl rfl (fun K hK => ?_)
    | refine op_close rfl rfl rfl (fun K hK => ?_)
  try simp only [List.getElem_toArray, List.getElem_cons_zero, List.getElem_cons_succ]
  refine wp_store_vec (xs := v7) (rot (xor32 (at0 v7 b) (at0 v7 c)) 7) rfl rfl rfl (by kernel_rfl) rfl rfl (ho7.kept hS) (by have := hw7.1; omega) ?_
  intro w8 ho8 hg
  rw [show v7.set b (rot (xor32 (at0 v7 b) (at0 v7 c)) 7) = v8 from hv8.out] at ho8
  have hk8 : Chg [g] w0 w8 := hk7.trans ((Chg.of_below hS (Nat.le_refl _)).trans (.of_grown hg (by simp)))
  clear hg hS hb2 e1 ep eq
  refine hK.out _ _ ?_
  clear hK K
  try simp only [List.getElem_toArray, List.getElem_cons_zero, List.getElem_cons_succ, Act.put, List.setIfInBounds_toArray, List.set_cons_zero, List.set_cons_succ]
  refine pl_nil ?_
  go_wp2
  have hm : mix v0 a b c d x y = v8 := by
    unfold mix
    rw [hv1.out, hv2.out, hv3.out, hv4.out, hv5.out, hv6.out, hv7.out, hv8.out]
  rw [hm]
  go_end0
  exact ⟨rfl, ho8, hk8⟩
end Go.Proofs.YtbcoecmeoemmeaaGreatDoor
