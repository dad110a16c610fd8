/- wire.CheckSlot and the reference's SlotFault answer one number; so the law WireSlots holds. Of each function: for every argument. -/
import Derived.Test.YtegcimjmgagpnaaBase
namespace Go.Proofs.Ytegcimjmgagpnaa
open Go.ChangeShapes Go.WideShapes Go.ChangeAt Go.RowKit
set_option linter.unusedVariables false

def inB (n lo hi : Int) : Bool := decide (lo ≤ n ∧ n ≤ hi)
theorem in_any (n lo hi : Int) (w : World) : Calls Try.prog 48 #[.int .i64 n, .int .i64 lo, .int .i64 hi] w fun e w' => e = .returned (.bool (inB n lo hi)) ∧ w = w' := by
  go_enter Try.func48, Try.ntmps48
  by_cases h1 : lo ≤ n <;> by_cases h2 : n ≤ hi
  all_goals
    have hB : inB n lo hi = decide (lo ≤ n ∧ n ≤ hi) := rfl
    simp only [h1, h2] at hB
    simp at hB
    go_wp2
    go_ret
    exact ⟨ret_bool (by simp [inB]; try omega), rfl⟩
theorem node_any (n : Int) (w : World) : Calls Try.prog 46 #[.int .i64 n] w fun e w' => e = .returned (.bool (inB n 0 3)) ∧ w = w' := by
  go_enter Try.func46, Try.ntmps46
  by_cases h1 : 0 ≤ n <;> by_cases h2 : n < 4
  all_goals
    have hB : inB n 0 3 = decide (0 ≤ n ∧ n ≤ 3) := rfl
    go_wp2
    go_ret
    exact ⟨ret_bool (by simp [inB]; try omega), rfl⟩
theorem count_any (n : Int) (w : World) : Calls Try.prog 47 #[.int .i64 n] w fun e w' => e = .returned (.bool (inB n 1 1048576)) ∧ w = w' := by
  go_enter Try.func47, Try.ntmps47
  by_cases h1 : 1 ≤ n <;> by_cases h2 : n ≤ 1048576
  all_goals
    have hB : inB n 1 1048576 = decide (1 ≤ n ∧ n ≤ 1048576) := rfl
    go_wp2
    go_ret
    exact ⟨ret_bool (by simp [inB]; try omega), rfl⟩

structure Slot where
  author : Int
  round : Int
  digest : List UInt8
/-- the cells of a slot -/
def RSlot (h : View) (cs : List Value) (s : Slot) : Prop := ∃ d, cs = [.int .i64 s.author, .int .i64 s.round, d] ∧ RBytes h d s.digest

def slotF (au ro : Int) (l : Nat) : Int := if !inB au 0 3 || !inB ro 1 1048576 then 2 else if l ≠ 32 then 4 else 0
theorem slotFault_any (au ro : Int) (s : Option Addr) (l c : Nat) (w : World) : Calls Try.prog 16 #[.agg #[.int .i64 au, .int .i64 ro, .slice s l c]] w fun e w' => e = .returned (.int .i64 (slotF au ro l)) ∧ Below w.heap.size w w' := by
  have hf : slotF au ro l = if !inB au 0 3 || !inB ro 1 1048576 then 2 else if l ≠ 32 then 4 else 0 := rfl
  by_cases h3 : l = 32 <;> cases ha : inB au 0 3 <;> cases hb : inB ro 1 1048576
  all_goals
    try subst h3
    try simp only [ha, hb] at hf
    simp [*] at hf
    have Hf := Lib.hid hf
    clear hf
    go_enter Try.func16, Try.ntmps16
    go_wp2_with (go_at_call 48; refine (in_any _ _ _ _).mono ?_; rintro e w' ⟨rfl, rfl⟩)
    go_ret
    exact ⟨ret_int Hf.out.symm, (Below.refl _ _).alloc (Nat.le_refl _) _⟩
theorem checkSlot_any (au ro : Int) (s : Option Addr) (l c : Nat) (w : World) : Calls Try.prog 15 #[.agg #[.int .i64 au, .int .i64 ro, .slice s l c]] w fun e w' => e = .returned (.int .i64 (slotF au ro l)) ∧ Below w.heap.size w w' := by
  have hf : slotF au ro l = if !inB au 0 3 || !inB ro 1 1048576 then 2 else if l ≠ 32 then 4 else 0 := rfl
  by_cases h3 : l = 32 <;> cases ha : inB au 0 3 <;> cases hb : inB ro 1 1048576
  all_goals
    try subst h3
    try simp only [ha, hb] at hf
    simp [*] at hf
    have Hf := Lib.hid hf
    clear hf
    go_enter Try.func15, Try.ntmps15
    go_wp2_with (first | (go_at_call 46; refine (node_any _ _).mono ?_; rintro e w' ⟨rfl, rfl⟩) | (go_at_call 47; refine (count_any _ _).mono ?_; rintro e w' ⟨rfl, rfl⟩))
    go_ret
    exact ⟨ret_int Hf.out.symm, (Below.refl _ _).alloc (Nat.le_refl _) _⟩

theorem wireSlots_any (au ro : Int) (s : Option Addr) (l c : Nat) (w : World) : Calls Try.prog 4 #[.agg #[.int .i64 au, .int .i64 ro, .slice s l c]] w fun e w' => e = .returned (.bool true) ∧ Below w.heap.size w w' := by
  go_enter Try.func4, Try.ntmps4
  go_wp2_with fail
  refine (checkSlot_any _ _ _ _ _ _).mono ?_
  rintro e w1 ⟨rfl, hb1⟩
  obtain ⟨hc, hf⟩ := bcell hb1
  have hz : w.heap.size + 1 ≤ w1.heap.size := by have := hb1.size; simpa using this
  go_wp2_with fail
  refine (slotFault_any _ _ _ _ _ _).mono ?_
  rintro e w2 ⟨rfl, hb2⟩
  go_wp2
  go_ret
  exact ⟨rfl, (((Below.refl _ _).alloc (Nat.le_refl _) _).trans (hb1.mono (by simp))).trans (hb2.mono (by omega))⟩

theorem opens_bytes : OpensTo Try.prog 26 (fun h cs (xs : List UInt8) => ∃ v, cs = [v] ∧ RBytes h v xs) := by
  have h5 : OpensTo Try.prog 5 (fun _ cs (b : UInt8) => cs = [encB b] ∧ True) := by
    intro H enc w fuel cs x h hw
    obtain ⟨n, rfl, hwf⟩ := opens_int (k := .u8) Try.underlying5 H enc w fuel cs x h hw
    have hn : 0 ≤ n ∧ n ≤ 255 := by simpa [Lit.wf, IntKind.min, IntKind.max, IntKind.signed, IntKind.bits] using hwf
    refine ⟨UInt8.ofNat n.toNat, ?_, trivial⟩
    simp only [encB]
    congr 2
    rw [UInt8.toNat_ofNat']
    omega
  intro H enc w fuel cs x h hw
  obtain ⟨xs, v, e, hr, _⟩ := opens_vec (R := fun _ => True) Try.underlying26 (by kernel_rfl) (bs := 1) (by kernel_rfl) h5 H enc w fuel cs x h hw
  exact ⟨xs, v, e, hr⟩
theorem opens_i : OpensTo Try.prog 3 (fun _ cs (n : Int) => cs = [.int .i64 n] ∧ (Lit.int .i64 n).wf = true) := opens_int Try.underlying3
theorem opens_slot : OpensTo Try.prog 28 RSlot := by
  intro H enc w fuel cs x h hw
  obtain ⟨hl, hf⟩ := opens_fields Try.underlying28 h hw
  obtain ⟨a, ha, _⟩ := hf 0 3 0 1 rfl (by kernel_rfl) opens_i
  obtain ⟨r, hr, _⟩ := hf 1 3 1 1 rfl (by kernel_rfl) opens_i
  obtain ⟨d, v, hd, hb⟩ := hf 2 26 2 1 rfl (by kernel_rfl) opens_bytes
  have hl' : cs.length = 3 := hl.trans (by kernel_rfl)
  match cs, hl' with
  | [c0, c1, c2], _ =>
    simp at ha hr hd
    subst ha hr hd
    exact ⟨⟨a, r, d⟩, _, rfl, hb⟩
theorem readables (ts : List TypeId) (h : (ts.all fun t => Try.prog.readableRec t && decide (t < Try.prog.types.size)) = true) : ∀ t ∈ ts, Try.prog.readableRec t = true ∧ t < Try.prog.types.size := by
  intro t ht
  have := List.all_eq_true.1 h t ht
  simpa using this
theorem laidOut : laidOutB Try.prog = true := by kernel_rfl
theorem own_ : ownKnob Try.prog.godebug = none := by kernel_rfl

set_option maxRecDepth 100000 in
theorem wireSlots_lifted (os : Os) (started : os.Started) (H : Type) (enc : TypeId × Value → H) :
    ReturnsInHanded {} Try.checked os 4 .any (Rows.wireSlotsSpec.pre6 enc Try.prog Try.f4 Rows.wireSlotsRow.domain false) (Rows.wireSlotsSpec.post enc Try.prog Try.f4 false true false false) := by
  refine returnsInHanded_of_change_sized (C := Try.checked) own_ started (by kernel_rfl) Try.func4
    (ChangeSpec.witness6 (enc := enc) (C := Try.checked) false ⟨#[], #[.agg #[.int .i64 0, .int .i64 0, .slice none 0 0]], []⟩ 8 (by kernel_rfl) (by kernel_rfl) (by kernel_rfl) (by kernel_rfl) (by kernel_rfl)) ?_
  intro W base args ds gs before hval hW _ hsz _
  have hW' := hW
  obtain ⟨p, q, hA, hV, rfl, hfz, hnd⟩ := hW
  obtain ⟨rfl, rfl⟩ := trodVars_none hV
  rw [Try.params4] at hA hval
  obtain ⟨v0, d0, rfl, rfl, h0⟩ := trodAll_one hA
  obtain ⟨fuel, h0⟩ := h0
  obtain ⟨s, d, hcs, hd⟩ := opens_slot H enc W fuel _ _ h0 (fun n hn => by
    have := List.all_eq_true.1 hsz n (by rw [Try.params4]; exact DataW.weights_mem_each (j := 0) rfl rfl n hn)
    simpa using this)
  obtain ⟨A, c, rfl, _⟩ := hd
  obtain ⟨cs, rfl, hsz'⟩ := okWide_struct Try.underlying28 (hval 0 28 v0 rfl rfl)
  have : cs = #[.int .i64 s.author, .int .i64 s.round, .slice A s.digest.length c] := by
    apply Array.ext'
    simpa [Value.cells] using hcs
  subst this
  refine (wireSlots_any _ _ _ _ _ _).mono fun e W' ⟨he, hb⟩ => ?_
  exact law_close laidOut (b := 4) rfl Try.underlying4 rfl (readables _ (by kernel_rfl)) rfl hW' he hb

theorem wireSlots_holds : Rows.WireSlotsSaid :=
  OpenClaim.holds_of_wide 4 Try.f4 rfl rfl rfl rfl rfl rfl rfl ⟨rfl, rfl, rfl, rfl, rfl⟩ rfl rfl rfl rfl rfl (by kernel_rfl) Try.func4 (by kernel_rfl)
    (of_decide_eq_true (by kernel_rfl)) (by unfold Func.isWrapper; first | (rw [if_pos (by decide +kernel)]; kernel_rfl) | (rw [if_neg (by decide +kernel)]; exact ⟨rfl, rfl⟩))
    (fun os started H enc _ => wireSlots_lifted os started H enc)
end Go.Proofs.Ytegcimjmgagpnaa
