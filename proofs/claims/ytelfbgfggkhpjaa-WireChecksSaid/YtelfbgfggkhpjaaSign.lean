/- Signs: their copies, their faults, the search. -/
import Derived.Test.YtelfbgfggkhpjaaBallot
import Derived.Test.YtelfbgfggkhpjaaStr
namespace Go.Proofs.Ytelfbgfggkhpjaa
open Go.ChangeShapes Go.WideShapes Go.ChangeAt Go.RowKit
set_option linter.unusedVariables false
structure Sign where
  node : Int
  slot : Slot
def RSign (h : View) (cs : List Value) (s : Sign) : Prop := ∃ d, cs = [.int .i64 s.node, .int .i64 s.slot.author, .int .i64 s.slot.round, d] ∧ RBytes h d s.slot.digest
theorem RSign.mono : Mono RSign := fun h h' cs x ⟨d, e, hd⟩ hle => ⟨d, e, hd.mono hle⟩
abbrev RSigns := RSl 4 RSign 48
abbrev OwnSigns := OwnSl 4 RSign 47
theorem elemSign : Elem Try.prog 43 47 4 48 := elemN (z := .agg #[.int .i64 0, .int .i64 0, .int .i64 0, .slice none 0 0]) Try.underlying43 (by kernel_rfl) rfl (by decide)
theorem RSigns.at {h : View} {A : Option Addr} {n c : Nat} {xs : List Sign} (hr : RSigns h (.slice A n c) xs) : n = xs.length ∧ n ≤ c ∧ n * 48 ≤ 140737488355328 ∧ ∀ k (hk : k < xs.length), ∃ b o d, A = some ⟨b, o, none⟩ ∧ h ⟨b, o + k * 4, none⟩ = some (.int .i64 xs[k].node) ∧ h ⟨b, o + k * 4 + 1, none⟩ = some (.int .i64 xs[k].slot.author) ∧ h ⟨b, o + k * 4 + 2, none⟩ = some (.int .i64 xs[k].slot.round) ∧ h ⟨b, o + k * 4 + 3, none⟩ = some d ∧ RBytes h d xs[k].slot.digest := by
  obtain ⟨A', c', e, h1, _, h2, _, h3⟩ := hr
  injection e with e1 e2 e3
  subst e1 e2 e3
  refine ⟨rfl, h1, h2, fun k hk => ?_⟩
  obtain ⟨b, o, ea, hc⟩ := h3 (by omega)
  obtain ⟨cs, hl, hcell, d, rfl, hd⟩ := hc k hk
  exact ⟨b, o, d, ea, hcell 0 (by omega), hcell 1 (by omega), hcell 2 (by omega), hcell 3 (by omega), hd⟩
set_option maxHeartbeats 1000000 in
set_option maxRecDepth 100000 in
theorem signCopy_any (no au ro : Int) (d : Value) (ds : List UInt8) (w : World) (hd : RBytes w.cell? d ds) :
    Calls Try.prog 47 #[.agg #[.int .i64 no, .int .i64 au, .int .i64 ro, d]] w fun e w' => ∃ d', e = .returned (.agg #[.int .i64 no, .int .i64 au, .int .i64 ro, d']) ∧ Below w.heap.size w w' ∧ OwnB w' w.heap.size d' ds := by
  have hlen : ds.length ≤ 140737488355328 := by obtain ⟨A, c, _, _, _, h, _⟩ := hd; omega
  go_enter Try.func47, Try.ntmps47
  go_wp2
  refine two_blocks _ _ _ _ _ (fun W => (Code.region _ _ _).wp _ _ _ W) (fun W hb1 hb2 hsz hbl => ?_)
  have hd1 := hd.below_but hbl (Nat.le_succ _)
  refine wp_region_plan (fun w' => W.grownBy w' (some (w.heap.size + 1)) ∧ ∃ cs, Blk w' (w.heap.size + 1) 47 cs ∧ cs.size = 4) [(0, true), (1, true), (2, true), (3, true), (4, true), (5, true), (6, true), (7, true), (8, true), (9, true), (10, true), (11, false), (12, true), (13, true), (14, false)] (by kernel_rfl) (by kernel_rfl) (fun _ _ d _ _ h => by cases d <;> exact h) rfl (by kernel_rfl) ?_ ?_
  · exact ⟨grownBy_drew _ _, _, hb2, rfl⟩
  intro W1 hS1
  repeat (first
    | (refine wpPlan_takes rfl rfl ?_; apply Exists.intro; refine ⟨fun w' hS => ?_, ?_⟩; (· (have hq := hb1.grown hS.1 (by simp); have h0 := hq.cell 0; have h1 := hq.cell 1; have h2 := hq.cell 2; have h3 := hq.cell 3; simp at h0 h1 h2 h3; go_simp; exact rfl)); simp only [List.getElem_toArray, List.getElem_cons_zero, List.getElem_cons_succ, Act.put, List.setIfInBounds_toArray, List.set_cons_zero, List.set_cons_succ])
    | (refine wpPlan_skip (by assumption) rfl rfl ?_; simp only [List.getElem_toArray, List.getElem_cons_zero, List.getElem_cons_succ, Act.put, List.setIfInBounds_toArray, List.set_cons_zero, List.set_cons_succ]))
  refine wpPlan_do rfl rfl (fun K hK => ?_)
  try simp only [List.getElem_toArray, List.getElem_cons_zero, List.getElem_cons_succ]
  go_simp
  obtain ⟨hg1, cs, hc, hcs⟩ := hS1
  refine (joined_any _ _ ds [] _ (hd1.mono (vle_grown hg1)) (RVec.nil _ _ _) _ (Nat.le_refl _) (by simpa using hlen)).mono ?_
  rintro e w1 ⟨d', rfl, hj, hown⟩
  rw [List.append_nil] at hown
  obtain ⟨A', c', rfl⟩ := hown.form
  refine hK.out _ _ (⟨grownBy_trans hg1 (grownBy_below _ hj), _, hc.kept hj, hcs⟩) (fun hS => ?_)
  clear hK K
  try simp only [List.getElem_toArray, List.getElem_cons_zero, List.getElem_cons_succ, Act.put, List.setIfInBounds_toArray, List.set_cons_zero, List.set_cons_succ]
  repeat (first
    | (refine wpPlan_takes rfl rfl ?_; apply Exists.intro; refine ⟨fun w' hS => ?_, ?_⟩; (· (skip; go_simp; exact rfl)); simp only [List.getElem_toArray, List.getElem_cons_zero, List.getElem_cons_succ, Act.put, List.setIfInBounds_toArray, List.set_cons_zero, List.set_cons_succ])
    | (refine wpPlan_skip (by assumption) rfl rfl ?_; simp only [List.getElem_toArray, List.getElem_cons_zero, List.getElem_cons_succ, Act.put, List.setIfInBounds_toArray, List.set_cons_zero, List.set_cons_succ]))
  refine wpPlan_do rfl rfl (fun K hK => ?_)
  try simp only [List.getElem_toArray, List.getElem_cons_zero, List.getElem_cons_succ]
  refine wp_store_whole rfl rfl rfl (n := 4) (by kernel_rfl) rfl (hc.kept hj) hcs rfl ?_
  intro w2 hb3 hg
  have hsz1 := hg1.size
  refine hK.out _ _ (⟨grownBy_trans hS.1 hg, _, hb3, rfl⟩) (fun hS => ?_)
  clear hK K
  try simp only [List.getElem_toArray, List.getElem_cons_zero, List.getElem_cons_succ, Act.put, List.setIfInBounds_toArray, List.set_cons_zero, List.set_cons_succ]
  refine wpPlan_nil ?_
  go_wp2
  refine bodyPost_ret (results_blk rfl rfl (by kernel_rfl) (by kernel_rfl) hb3 rfl) rfl ?_
  have hA := below_grownBy (B := w.heap.size) hbl (by omega) (grownBy_trans (grownBy_trans hg1 (grownBy_below _ hj)) hg) (fun k e => by injection e; omega)
  exact ⟨_, rfl, hA, (hown.grown hg (by omega)).base (by omega)⟩
set_option maxHeartbeats 2000000 in
set_option maxRecDepth 100000 in
theorem signsCopy_any (v : Value) (l : List Sign) (w : World) (hv : RSigns w.cell? v l) :
    Calls Try.prog 19 #[v] w fun e w' => ∃ v', e = .returned v' ∧ Below w.heap.size w w' ∧ OwnSigns w' w.heap.size v' l := by
  obtain ⟨A, c, rfl, _⟩ := id hv
  obtain ⟨_, hcap, hlen, hel⟩ := hv.at
  have Hel := Lib.hid hel
  clear hel hv
  go_enter Try.func19, Try.ntmps19
  go_wp2
  go_loopw [3, 4] (fun v i wr => ∃ k : Nat, k ≤ l.length ∧ i = .int .i64 k ∧ OwnSigns wr w.heap.size v (l.take k) ∧ Below w.heap.size w wr) (fun _ i _ => l.length - (intOf i).toNat)
  case atStart => exact ⟨0, Nat.zero_le _, rfl, OwnSl.nil _ _ _ _ _, Below.refl _ _⟩
  case round =>
    obtain ⟨k, hk, rfl, hown, hbl⟩ := hrel
    have hbs := hbl.size
    by_cases hlt : k < l.length
    · obtain ⟨b0, o0, d, rfl, e0, e1, e2, e3, hd⟩ := Hel.out k hlt
      have c0 := vle_below hbl _ _ e0
      have c1 := vle_below hbl _ _ e1
      have c2 := vle_below hbl _ _ e2
      have c3 := vle_below hbl _ _ e3
      have hd' := hd.mono (vle_below hbl)
      have Hlk := Lib.hid (show (l.take k).length = k by simp; omega)
      have hdl := Lib.hid (show l[k].slot.digest.length * 1 ≤ 140737488355328 by obtain ⟨_, _, _, _, _, h, _⟩ := hd; exact h)
      clear e0 e1 e2 e3 hd
      go_wp2_with fail
      refine (signCopy_any _ _ _ _ _ _ hd').mono ?_
      rintro e w1 ⟨d', rfl, hb1, o1⟩
      have hown1 := hown.kept RSign.mono hb1
      have hbl1 : Below w.heap.size w w1 := hbl.trans (hb1.mono hbs)
      have hR : RSign (View.but w1.cell? u3.ownBlock) [.int .i64 l[k].node, .int .i64 l[k].slot.author, .int .i64 l[k].slot.round, d'] l[k] :=
        ⟨d', rfl, o1.reads_but hdl.out (fun g hg => (hown.lt g hg).2)⟩
      have hs1 := hb1.size
      obtain ⟨A', c', rfl⟩ := o1.form
      clear c0 c1 c2 c3 hd'
      go_wp2_with (at_builtin; go_loud (refine wpList_append_sl1 (n := 140737488355328) RSign.mono l[k] [.int .i64 l[k].node, .int .i64 l[k].slot.author, .int .i64 l[k].slot.round, .slice A' l[k].slot.digest.length c'] elemSign _ _ rfl rfl rfl hown1 hbl1 (Nat.le_trans hbs hs1) rfl rfl rfl rfl hR (Nat.le_refl _) (by rw [Hlk.out]; omega) (by rw [Hlk.out]; omega) ?_))
      intro v' w2 ho hbl2 _
      have ho' : OwnSigns w2 w.heap.size v' (l.take (k + 1)) := by first | exact ho | (rw [List.take_succ_eq_append_getElem hlt]; exact ho)
      clear ho hown hown1
      go_wp2
      go_roundw
      case rel => exact ⟨k + 1, by omega, by go_num, ho', hbl2⟩
      case measure => simp [intOf]; omega
    · have : k = l.length := by omega
      subst this
      go_wp2
      go_ret
      exact ⟨_, rfl, hbl, by simpa using hown⟩
def signF (no au ro : Int) (n : Nat) : Int := if inB no 0 3 then slotF au ro n else 2
set_option maxHeartbeats 1000000 in
set_option maxRecDepth 100000 in
theorem signFault_any (no au ro : Int) (s : Option Addr) (l c : Nat) (w : World) : Calls Try.prog 49 #[.agg #[.int .i64 no, .int .i64 au, .int .i64 ro, .slice s l c]] w fun e w' => e = .returned (.int .i64 (signF no au ro l)) ∧ Below w.heap.size w w' := by
  have Hq : Hid (signF no au ro l = if inB no 0 3 then slotF au ro l else 2) := rfl
  cases h : inB no 0 3
  · go_enter Try.func49, Try.ntmps49
    go_wp2_with (go_at_call 34; refine (in_any _ _ _ _).mono ?_; rintro e w' ⟨rfl, rfl⟩)
    go_ret
    exact ⟨ret_int (by rw [Hq.out, h]; rfl), below_one _ _⟩
  · go_enter Try.func49, Try.ntmps49
    go_wp2_with (first | (go_at_call 34; refine (in_any _ _ _ _).mono ?_; rintro e w' ⟨rfl, rfl⟩) | fail)
    refine (slotFault_any _ _ _ _ _ _).mono ?_
    rintro e w1 ⟨rfl, hb⟩
    go_wp2
    go_ret
    exact ⟨ret_int (by rw [Hq.out, h]; rfl), (below_one _ _).trans (hb.mono (by simp))⟩
set_option maxHeartbeats 1000000 in
set_option maxRecDepth 100000 in
theorem sealSign_any (no au ro : Int) (s : Option Addr) (l c : Nat) (w : World) : Calls Try.prog 45 #[.agg #[.int .i64 no, .int .i64 au, .int .i64 ro, .slice s l c]] w fun e w' => e = .returned (.int .i64 (signF no au ro l)) ∧ Below w.heap.size w w' := by
  have Hq : Hid (signF no au ro l = if inB no 0 3 then slotF au ro l else 2) := rfl
  by_cases h1 : no < 0
  · go_enter Try.func45, Try.ntmps45
    go_wp2
    go_ret
    exact ⟨ret_int (by rw [Hq.out, if_neg (by simp [inB]; omega)]), below_one _ _⟩
  by_cases h2 : 4 ≤ no
  · go_enter Try.func45, Try.ntmps45
    go_wp2
    go_ret
    exact ⟨ret_int (by rw [Hq.out, if_neg (by simp [inB]; omega)]), below_one _ _⟩
  · go_enter Try.func45, Try.ntmps45
    go_wp2_with fail
    refine (checkSlot_any _ _ _ _ _ _).mono ?_
    rintro e w1 ⟨rfl, hb⟩
    go_wp2
    go_ret
    exact ⟨ret_int (by rw [Hq.out, if_pos (by simp [inB]; omega)]), (below_one _ _).trans (hb.mono (by simp))⟩
end Go.Proofs.Ytelfbgfggkhpjaa
