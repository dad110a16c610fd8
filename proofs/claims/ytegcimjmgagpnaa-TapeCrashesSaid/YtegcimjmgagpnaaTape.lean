/- Tapes: open, Sync and the reference's answers. -/
import Derived.Test.YtegcimjmgagpnaaClone
import Derived.Test.YtegcimjmgagpnaaStr
import Derived.Test.YtegcimjmgagpnaaBlk
import Derived.Test.YtegcimjmgagpnaaNum
namespace Go.Proofs.Ytegcimjmgagpnaa
open Go.ChangeShapes Go.WideShapes Go.ChangeAt Go.RowKit
set_option linter.unusedVariables false
set_option maxHeartbeats 1000000 in
set_option maxRecDepth 100000 in
theorem tapes_any (nx : Int) (v : Value) (l : List UInt8) (w : World) (hd : RBytes w.cell? v l) :
    Calls Try.prog 23 #[.agg #[v, .int .i64 nx]] w fun e w' => ∃ d', e = .returned (.agg #[d', .int .i64 nx]) ∧ Below w.heap.size w w' ∧ OwnB w' w.heap.size d' l := by
  go_enter Try.func23, Try.ntmps23
  go_wp2
  refine two_blocks _ _ _ _ _ (fun W => (Code.region _ _ _).wp _ _ _ W) (fun W hb1 hb2 hsz hbl => ?_)
  have hd1 := hd.below_but hbl (Nat.le_succ _)
  refine wp_region_plan (fun w' => W.grownBy w' (some (w.heap.size + 1)) ∧ ∃ cs, Blk w' (w.heap.size + 1) 43 cs ∧ cs.size = 2) [(0, true), (1, true), (3, true), (4, true), (2, false), (5, true), (6, false)] (by kernel_rfl) (by kernel_rfl) (fun _ _ d _ _ h => by cases d <;> exact h) rfl (by kernel_rfl) ?_ ?_
  · exact ⟨grownBy_drew _ _, _, hb2, rfl⟩
  intro W1 hS1
  repeat (first
    | (refine wpPlan_takes rfl rfl ?_; apply Exists.intro; refine ⟨fun w' hS => ?_, ?_⟩; (· (have hq := hb1.grown hS.1 (by simp); have h0 := hq.cell 0; have h1 := hq.cell 1; simp at h0 h1; go_simp; exact rfl)); simp only [List.getElem_toArray, List.getElem_cons_zero, List.getElem_cons_succ, Act.put, List.setIfInBounds_toArray, List.set_cons_zero, List.set_cons_succ])
    | (refine wpPlan_skip (by assumption) rfl rfl ?_; simp only [List.getElem_toArray, List.getElem_cons_zero, List.getElem_cons_succ, Act.put, List.setIfInBounds_toArray, List.set_cons_zero, List.set_cons_succ]))
  refine wpPlan_do rfl rfl (fun K hK => ?_)
  try simp only [List.getElem_toArray, List.getElem_cons_zero, List.getElem_cons_succ]
  go_simp
  obtain ⟨hg1, cs, hc, hcs⟩ := hS1
  refine (octets_any _ _ _ (hd1.mono (vle_grown hg1))).mono ?_
  rintro e w1 ⟨d', rfl, hj, hown⟩
  obtain ⟨A', c', rfl⟩ := hown.form
  refine hK.out _ _ (⟨grownBy_trans hg1 (grownBy_below _ hj), _, hc.kept hj, hcs⟩) (fun hS => ?_)
  clear hK K
  try simp only [List.getElem_toArray, List.getElem_cons_zero, List.getElem_cons_succ, Act.put, List.setIfInBounds_toArray, List.set_cons_zero, List.set_cons_succ]
  repeat (first
    | (refine wpPlan_takes rfl rfl ?_; apply Exists.intro; refine ⟨fun w' hS => ?_, ?_⟩; (· (have hq := hb1.grown hS.1 (by simp); have h0 := hq.cell 0; have h1 := hq.cell 1; simp at h0 h1; go_simp; exact rfl)); simp only [List.getElem_toArray, List.getElem_cons_zero, List.getElem_cons_succ, Act.put, List.setIfInBounds_toArray, List.set_cons_zero, List.set_cons_succ])
    | (refine wpPlan_skip (by assumption) rfl rfl ?_; simp only [List.getElem_toArray, List.getElem_cons_zero, List.getElem_cons_succ, Act.put, List.setIfInBounds_toArray, List.set_cons_zero, List.set_cons_succ]))
  refine wpPlan_do rfl rfl (fun K hK => ?_)
  try simp only [List.getElem_toArray, List.getElem_cons_zero, List.getElem_cons_succ]
  refine wp_store_whole rfl rfl rfl (n := 2) (by kernel_rfl) rfl (hc.kept hj) hcs rfl ?_
  intro w2 hb3 hg
  have hsz1 := hg1.size
  refine hK.out _ _ (⟨grownBy_trans hS.1 hg, _, hb3, rfl⟩) (fun hS => ?_)
  clear hK K
  try simp only [List.getElem_toArray, List.getElem_cons_zero, List.getElem_cons_succ, Act.put, List.setIfInBounds_toArray, List.set_cons_zero, List.set_cons_succ]
  refine wpPlan_nil ?_
  go_wp2
  refine bodyPost_ret (results_blk rfl rfl (by kernel_rfl) (by kernel_rfl) hb3 rfl) rfl ?_
  have hA := below_grownBy (B := w.heap.size) hbl (by omega) (grownBy_trans (grownBy_trans hg1 (grownBy_below _ hj)) hg) (fun k e => by injection e; omega)
  exact ⟨_, rfl, hA, (hown.grown hg (by omega)).base (by omega)⟩

def tapeMay (l : List UInt8) (a : Int) : Bool := decide (0 ≤ a ∧ a ≤ l.length ∧ l.length ≤ 400000)
theorem below_two (w : World) (o1 o2 : Obj) : Below w.heap.size w ((w.alloc o1).alloc o2) := ((Below.refl _ _).alloc (Nat.le_refl _) _).alloc (le_alloc _ (Nat.le_refl _)) _
set_option maxHeartbeats 1000000 in
set_option maxRecDepth 100000 in
theorem open_no (a : Int) (A : Option Addr) (c : Nat) (l : List UInt8) (w : World) (hl : l.length ≤ 140737488355328) (hm : tapeMay l a = false) :
    Calls Try.prog 54 #[.agg #[.slice A l.length c, .int .i64 a]] w fun e w' => e = .returned (.tuple #[.agg #[.slice none 0 0, .int .i64 0], .bool false]) ∧ Below w.heap.size w w' := by
  have Hm := Lib.hid hm
  clear hm
  by_cases h1 : a < 0
  rotate_left
  by_cases h2 : (l.length : Int) < a
  rotate_left
  have h3 : 400000 < l.length := by have := Hm.out; simp [tapeMay] at this; omega
  all_goals
    go_enter Try.func54, Try.ntmps54
    go_wp2
    refine bodyPost_ret (v := .tuple #[.agg #[.slice none 0 0, .int .i64 0], .bool false]) (by simp [results, Try.results54, go_sem]) rfl ⟨rfl, ?_⟩
    exact below_two _ _ _
set_option maxHeartbeats 1000000 in
set_option maxRecDepth 100000 in
theorem open_yes (a : Int) (v : Value) (l : List UInt8) (w : World) (hv : RBytes w.cell? v l) (hm : tapeMay l a = true) :
    Calls Try.prog 54 #[.agg #[v, .int .i64 a]] w fun e w' => ∃ d, e = .returned (.tuple #[.agg #[d, .int .i64 a], .bool true]) ∧ Below w.heap.size w w' ∧ OwnB w' w.heap.size d l := by
  have Hm : 0 ≤ a ∧ a ≤ l.length ∧ l.length ≤ 400000 := by simpa [tapeMay] using hm
  obtain ⟨m1, m2, m3⟩ := Hm
  clear hm
  obtain ⟨A, c, rfl, _⟩ := id hv
  go_enter Try.func54, Try.ntmps54
  go_wp2
  refine two_blocks _ _ _ _ _ (fun W => (Code.region _ _ _).wp _ _ _ W) (fun W hb1 hb2 hsz hbl => ?_)
  have hd1 := hv.below_but hbl (Nat.le_succ _)
  refine wp_region_plan (fun w' => W.grownBy w' (some (w.heap.size + 1)) ∧ ∃ cs, Blk w' (w.heap.size + 1) 43 cs ∧ cs.size = 2) [(0, true), (1, true), (3, true), (4, true), (2, false), (5, true), (6, false), (7, true)] (by kernel_rfl) (by kernel_rfl) (fun _ _ d _ _ h => by cases d <;> exact h) rfl (by kernel_rfl) ?_ ?_
  · exact ⟨grownBy_drew _ _, _, hb2, rfl⟩
  intro W1 hS1
  repeat (first
    | (refine wpPlan_takes rfl rfl ?_; apply Exists.intro; refine ⟨fun w' hS => ?_, ?_⟩; (· (have hq := hb1.grown hS.1 (by simp); have h0 := hq.cell 0; have h1 := hq.cell 1; simp at h0 h1; go_simp; exact rfl)); simp only [List.getElem_toArray, List.getElem_cons_zero, List.getElem_cons_succ, Act.put, List.setIfInBounds_toArray, List.set_cons_zero, List.set_cons_succ])
    | (refine wpPlan_skip (by assumption) rfl rfl ?_; simp only [List.getElem_toArray, List.getElem_cons_zero, List.getElem_cons_succ, Act.put, List.setIfInBounds_toArray, List.set_cons_zero, List.set_cons_succ]))
  refine wpPlan_do rfl rfl (fun K hK => ?_)
  try simp only [List.getElem_toArray, List.getElem_cons_zero, List.getElem_cons_succ]
  go_simp
  obtain ⟨hg1, cs, hc, hcs⟩ := hS1
  refine (cloneB_any _ _ _ (hd1.mono (vle_grown hg1))).mono ?_
  rintro e w1 ⟨d', rfl, hj, hown⟩
  obtain ⟨A', c', rfl⟩ := hown.form
  refine hK.out _ _ (⟨grownBy_trans hg1 (grownBy_below _ hj), _, hc.kept hj, hcs⟩) (fun hS => ?_)
  clear hK K
  try simp only [List.getElem_toArray, List.getElem_cons_zero, List.getElem_cons_succ, Act.put, List.setIfInBounds_toArray, List.set_cons_zero, List.set_cons_succ]
  repeat (first
    | (refine wpPlan_takes rfl rfl ?_; apply Exists.intro; refine ⟨fun w' hS => ?_, ?_⟩; (· (have hq := hb1.grown hS.1 (by simp); have h0 := hq.cell 0; have h1 := hq.cell 1; simp at h0 h1; go_simp; exact rfl)); simp only [List.getElem_toArray, List.getElem_cons_zero, List.getElem_cons_succ, Act.put, List.setIfInBounds_toArray, List.set_cons_zero, List.set_cons_succ])
    | (refine wpPlan_skip (by assumption) rfl rfl ?_; simp only [List.getElem_toArray, List.getElem_cons_zero, List.getElem_cons_succ, Act.put, List.setIfInBounds_toArray, List.set_cons_zero, List.set_cons_succ]))
  refine wpPlan_do rfl rfl (fun K hK => ?_)
  try simp only [List.getElem_toArray, List.getElem_cons_zero, List.getElem_cons_succ]
  refine wp_store_whole rfl rfl rfl (n := 2) (by kernel_rfl) rfl (hc.kept hj) hcs rfl ?_
  intro w2 hb3 hg
  have hsz1 := hg1.size
  refine hK.out _ _ (⟨grownBy_trans hS.1 hg, _, hb3, rfl⟩) (fun hS => ?_)
  clear hK K
  try simp only [List.getElem_toArray, List.getElem_cons_zero, List.getElem_cons_succ, Act.put, List.setIfInBounds_toArray, List.set_cons_zero, List.set_cons_succ]
  repeat (first
    | (refine wpPlan_takes rfl rfl ?_; apply Exists.intro; refine ⟨fun w' hS => ?_, ?_⟩; (· (skip; go_simp; exact rfl)); simp only [List.getElem_toArray, List.getElem_cons_zero, List.getElem_cons_succ, Act.put, List.setIfInBounds_toArray, List.set_cons_zero, List.set_cons_succ])
    | (refine wpPlan_skip (by assumption) rfl rfl ?_; simp only [List.getElem_toArray, List.getElem_cons_zero, List.getElem_cons_succ, Act.put, List.setIfInBounds_toArray, List.set_cons_zero, List.set_cons_succ]))
  refine wpPlan_nil ?_
  go_wp2
  refine bodyPost_ret (results_blk_tmp rfl rfl (by kernel_rfl) (by kernel_rfl) hb3 rfl) rfl ?_
  have hA := below_grownBy (B := w.heap.size) hbl (by omega) (grownBy_trans (grownBy_trans hg1 (grownBy_below _ hj)) hg) (fun k e => by injection e; omega)
  exact ⟨_, rfl, hA, (hown.grown hg (by omega)).base (by omega)⟩
set_option maxHeartbeats 1000000 in
set_option maxRecDepth 100000 in
theorem tapeMay_any (a : Int) (A : Option Addr) (c : Nat) (l : List UInt8) (w : World) (hl : l.length ≤ 140737488355328) :
    Calls Try.prog 55 #[.agg #[.slice A l.length c, .int .i64 a]] w fun e w' => e = .returned (.bool (tapeMay l a)) ∧ Below w.heap.size w w' := by
  have Hq : Hid (tapeMay l a = decide (0 ≤ a ∧ a ≤ l.length ∧ l.length ≤ 400000)) := rfl
  by_cases h1 : l.length ≤ 400000 <;> cases h2 : inB a 0 l.length
  all_goals
    go_enter Try.func55, Try.ntmps55
    go_wp2_with (go_at_call 48; refine (in_any _ _ _ _).mono ?_; rintro e w' ⟨rfl, rfl⟩)
    go_ret
    exact ⟨ret_bool (by rw [Hq.out]; simp [inB] at h2; simp; omega), (Below.refl _ _).alloc (Nat.le_refl _) _⟩
/-- what a call leaves that makes memory, for the caller's own blocks -/
theorem keep_blk {w w1 : World} {g : Nat} {t : TypeId} {cs : Array Value} (h : Blk w g t cs) (hb : Below w.heap.size w w1) : Blk w1 g t cs := h.kept hb
set_option maxHeartbeats 1000000 in
set_option maxRecDepth 100000 in
theorem sync_no (a : Int) (A : Option Addr) (c : Nat) (l : List UInt8) (w : World) (hl : l.length ≤ 140737488355328) (hm : tapeMay l a = false) :
    Calls Try.prog 24 #[.agg #[.slice A l.length c, .int .i64 a]] w fun e w' => e = .returned (.tuple #[.agg #[.slice none 0 0, .int .i64 0], .int .i64 12]) ∧ Below w.heap.size w w' := by
  go_enter Try.func24, Try.ntmps24
  go_wp2_with fail
  refine (open_no _ _ _ _ _ hl hm).mono ?_
  rintro e w1 ⟨rfl, hb1⟩
  obtain ⟨hc, hf⟩ := bcell hb1
  have hz : w.heap.size + 1 < w1.heap.size := by have := hb1.size; simp at this; omega
  have hbw : Below w.heap.size w w1 := (below_two _ _ _).trans (hb1.mono (by simp; omega))
  go_wp2
  refine bodyPost_ret (v := .tuple #[.agg #[.slice none 0 0, .int .i64 0], .int .i64 12]) (by simp [results, Try.results24, go_sem, hc, hf, hz]) rfl ⟨rfl, ?_⟩
  repeat (first
    | assumption
    | exact Below.refl _ _
    | refine Below.drew ?_
    | (refine Below.alloc ?_ ?sa _; (case sa => first | omega | (simp; done) | (simp; omega)))
    | (refine Below.setCell ?_ ?sa _; (case sa => first | (dsimp only; omega) | (simp; done) | (simp; omega))))
set_option maxHeartbeats 1000000 in
set_option maxRecDepth 100000 in
theorem sync_yes (a : Int) (v : Value) (l : List UInt8) (w : World) (hv : RBytes w.cell? v l) (hm : tapeMay l a = true) :
    Calls Try.prog 24 #[.agg #[v, .int .i64 a]] w fun e w' => ∃ d, e = .returned (.tuple #[.agg #[d, .int .i64 l.length], .int .i64 0]) ∧ Below w.heap.size w w' ∧ OwnB w' w.heap.size d l := by
  have hl : l.length ≤ 400000 := by simp [tapeMay] at hm; omega
  go_enter Try.func24, Try.ntmps24
  go_wp2_with fail
  refine (open_yes _ _ _ _ (hv.mono (vle_below (below_two _ _ _))) hm).mono ?_
  rintro e w1 ⟨d, rfl, hb1, ho⟩
  obtain ⟨A, c, rfl⟩ := ho.form
  have ho' : OwnB w1 (w.heap.size + 2) _ l := ho.base (by simp)
  obtain ⟨hc, hf⟩ := bcell hb1
  have hz : w.heap.size + 1 < w1.heap.size := by have := hb1.size; simp at this; omega
  have hbw : Below w.heap.size w w1 := (below_two _ _ _).trans (hb1.mono (by simp; omega))
  go_wp2
  refine bodyPost_ret (v := .tuple #[.agg #[.slice A l.length c, .int .i64 l.length], .int .i64 0]) (by simp [results, Try.results24, go_sem, hc, hf, hz]) rfl ⟨_, rfl, ?_, ?_⟩
  · repeat (first
      | assumption
      | exact Below.refl _ _
      | refine Below.drew ?_
      | (refine Below.alloc ?_ ?sa _; (case sa => first | omega | (simp; done) | (simp; omega)))
      | (refine Below.setCell ?_ ?sa _; (case sa => first | (dsimp only; omega) | (simp; done) | (simp; omega))))
  · refine OwnVec.base (b := w.heap.size + 2) ?_ (by omega)
    repeat (first
      | assumption
      | refine OwnVec.drew ?_
      | refine OwnVec.alloc ?_ _
      | (refine OwnVec.setCell ?_ ?sa _; (case sa => first | (dsimp only; omega) | (simp; done) | (simp; omega))))
set_option maxHeartbeats 1000000 in
set_option maxRecDepth 100000 in
theorem tapeSynced_no (a : Int) (A : Option Addr) (c : Nat) (l : List UInt8) (w : World) (hl : l.length ≤ 140737488355328) (hm : tapeMay l a = false) :
    Calls Try.prog 25 #[.agg #[.slice A l.length c, .int .i64 a]] w fun e w' => e = .returned (.tuple #[.agg #[.slice none 0 0, .int .i64 0], .int .i64 12]) ∧ Below w.heap.size w w' := by
  go_enter Try.func25, Try.ntmps25
  go_wp2_with fail
  refine (tapeMay_any _ _ _ _ _ hl).mono ?_
  rintro e w1 ⟨rfl, hb1⟩
  obtain ⟨hc, hf⟩ := bcell hb1
  have hz : w.heap.size + 1 < w1.heap.size := by have := hb1.size; simp at this; omega
  have hbw : Below w.heap.size w w1 := (below_two _ _ _).trans (hb1.mono (by simp; omega))
  simp only [hm]
  go_wp2
  refine bodyPost_ret (v := .tuple #[.agg #[.slice none 0 0, .int .i64 0], .int .i64 12]) (by simp [results, Try.results25, go_sem, hc, hf, hz]) rfl ⟨rfl, ?_⟩
  repeat (first
    | assumption
    | exact Below.refl _ _
    | refine Below.drew ?_
    | (refine Below.alloc ?_ ?sa _; (case sa => first | omega | (simp; done) | (simp; omega)))
    | (refine Below.setCell ?_ ?sa _; (case sa => first | (dsimp only; omega) | (simp; done) | (simp; omega))))
set_option maxHeartbeats 1000000 in
set_option maxRecDepth 100000 in
theorem tapeSynced_yes (a : Int) (v : Value) (l : List UInt8) (w : World) (hv : RBytes w.cell? v l) (hm : tapeMay l a = true) :
    Calls Try.prog 25 #[.agg #[v, .int .i64 a]] w fun e w' => ∃ d, e = .returned (.tuple #[.agg #[d, .int .i64 l.length], .int .i64 0]) ∧ Below w.heap.size w w' ∧ OwnB w' w.heap.size d l := by
  have hl : l.length ≤ 400000 := by simp [tapeMay] at hm; omega
  obtain ⟨A, c, rfl, _⟩ := id hv
  go_enter Try.func25, Try.ntmps25
  go_wp2_with fail
  refine two_blocks _ _ _ _ _ (fun W => Calls _ _ _ W _) (fun W hb1 hb2 hsz hbl => ?_)
  refine (tapeMay_any _ _ _ _ _ (by omega)).mono ?_
  rintro e w1 ⟨rfl, hbt⟩
  simp only [hm]
  replace hb1 := hb1.kept hbt
  replace hb2 := hb2.kept hbt
  replace hbl := hbl.trans (hbt.mono (by omega))
  have hd1 := hv.below_but hbl (Nat.le_succ _)
  have hsz1 := hbt.size
  clear hbt
  go_wp2
  refine wp_region_plan (fun w' => w1.grownBy w' (some (w.heap.size + 1)) ∧ ∃ cs, Blk w' (w.heap.size + 1) 43 cs ∧ cs.size = 2) [(0, true), (1, true), (3, true), (4, true), (5, true), (2, false), (6, true), (7, false), (8, true)] (by kernel_rfl) (by kernel_rfl) (fun _ _ d _ _ h => by cases d <;> exact h) rfl (by kernel_rfl) ?_ ?_
  · exact ⟨grownBy_drew _ _, _, hb2, rfl⟩
  intro W1 hS1
  repeat (first
    | (refine wpPlan_takes rfl rfl ?_; apply Exists.intro; refine ⟨fun w' hS => ?_, ?_⟩; (· (have hq := hb1.grown hS.1 (by simp); have h0 := hq.cell 0; have h1 := hq.cell 1; simp at h0 h1; go_simp; exact rfl)); simp only [List.getElem_toArray, List.getElem_cons_zero, List.getElem_cons_succ, Act.put, List.setIfInBounds_toArray, List.set_cons_zero, List.set_cons_succ])
    | (refine wpPlan_skip (by assumption) rfl rfl ?_; simp only [List.getElem_toArray, List.getElem_cons_zero, List.getElem_cons_succ, Act.put, List.setIfInBounds_toArray, List.set_cons_zero, List.set_cons_succ]))
  refine wpPlan_do rfl rfl (fun K hK => ?_)
  try simp only [List.getElem_toArray, List.getElem_cons_zero, List.getElem_cons_succ]
  go_simp
  obtain ⟨hg1, cs, hc, hcs⟩ := hS1
  refine (joined_any _ _ l [] _ (hd1.mono (vle_grown hg1)) (RVec.nil _ _ _) 400000 (by decide) (by simpa using hl)).mono ?_
  rintro e w2 ⟨d', rfl, hj, hown⟩
  rw [List.append_nil] at hown
  obtain ⟨A', c', rfl⟩ := hown.form
  refine hK.out _ _ (⟨grownBy_trans hg1 (grownBy_below _ hj), _, hc.kept hj, hcs⟩) (fun hS => ?_)
  clear hK K
  try simp only [List.getElem_toArray, List.getElem_cons_zero, List.getElem_cons_succ, Act.put, List.setIfInBounds_toArray, List.set_cons_zero, List.set_cons_succ]
  repeat (first
    | (refine wpPlan_takes rfl rfl ?_; apply Exists.intro; refine ⟨fun w' hS => ?_, ?_⟩; (· (have hq := hb1.grown hS.1 (by simp); have h0 := hq.cell 0; have h1 := hq.cell 1; simp at h0 h1; go_simp; exact rfl)); simp only [List.getElem_toArray, List.getElem_cons_zero, List.getElem_cons_succ, Act.put, List.setIfInBounds_toArray, List.set_cons_zero, List.set_cons_succ])
    | (refine wpPlan_skip (by assumption) rfl rfl ?_; simp only [List.getElem_toArray, List.getElem_cons_zero, List.getElem_cons_succ, Act.put, List.setIfInBounds_toArray, List.set_cons_zero, List.set_cons_succ]))
  refine wpPlan_do rfl rfl (fun K hK => ?_)
  try simp only [List.getElem_toArray, List.getElem_cons_zero, List.getElem_cons_succ]
  refine wp_store_whole rfl rfl rfl (n := 2) (by kernel_rfl) rfl (hc.kept hj) hcs rfl ?_
  intro w3 hb3 hg
  have hsz2 := hg1.size
  refine hK.out _ _ (⟨grownBy_trans hS.1 hg, _, hb3, rfl⟩) (fun hS => ?_)
  clear hK K
  try simp only [List.getElem_toArray, List.getElem_cons_zero, List.getElem_cons_succ, Act.put, List.setIfInBounds_toArray, List.set_cons_zero, List.set_cons_succ]
  repeat (first
    | (refine wpPlan_takes rfl rfl ?_; apply Exists.intro; refine ⟨fun w' hS => ?_, ?_⟩; (· (skip; go_simp; exact rfl)); simp only [List.getElem_toArray, List.getElem_cons_zero, List.getElem_cons_succ, Act.put, List.setIfInBounds_toArray, List.set_cons_zero, List.set_cons_succ])
    | (refine wpPlan_skip (by assumption) rfl rfl ?_; simp only [List.getElem_toArray, List.getElem_cons_zero, List.getElem_cons_succ, Act.put, List.setIfInBounds_toArray, List.set_cons_zero, List.set_cons_succ]))
  refine wpPlan_nil ?_
  go_wp2
  refine bodyPost_ret (results_blk_tmp rfl rfl (by kernel_rfl) (by kernel_rfl) hb3 rfl) rfl ?_
  have hA := below_grownBy (B := w.heap.size) hbl (by omega) (grownBy_trans (grownBy_trans hg1 (grownBy_below _ hj)) hg) (fun k e => by injection e; omega)
  exact ⟨_, rfl, hA, (hown.grown hg (by omega)).base (by omega)⟩
set_option maxHeartbeats 1000000 in
set_option maxRecDepth 100000 in
theorem sameTape_any (va vb : Value) (la lb : List UInt8) (a b : Int) (w : World) (ha : RBytes w.cell? va la) (hb : RBytes w.cell? vb lb) :
    Calls Try.prog 26 #[.agg #[va, .int .i64 a], .agg #[vb, .int .i64 b]] w fun e w' => e = .returned (.bool (a == b && la == lb)) ∧ Below w.heap.size w w' := by
  have ga := run_toStr (ha.mono (vle_below (below_two w (.cells #[va, .int .i64 a] 43) (.cells #[vb, .int .i64 b] 43))))
  have gb := run_toStr (hb.mono (vle_below (below_two w (.cells #[va, .int .i64 a] 43) (.cells #[vb, .int .i64 b] 43))))
  have He := Lib.hid (bstr_eq la lb)
  clear ha hb
  cases h : (a == b)
  all_goals
    go_enter Try.func26, Try.ntmps26
    go_wp2
    go_ret
    exact ⟨ret_bool (by simp [He.out]), below_two _ _ _⟩
end Go.Proofs.Ytegcimjmgagpnaa
