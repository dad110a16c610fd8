/- A region that draws its order, walked by a plan whose closing operations (the stores of an assignment, which wait for all that is read) need no condition on the world behind them. -/
import Derived.Test.YtbcoecmeoemmeaaGreatDoorPlan
namespace Go.Proofs.YtbcoecmeoemmeaaGreatDoor
open Go.ChangeShapes Go.WideShapes Go.ChangeAt Go.RowKit
set_option linter.unusedVariables false
section
variable {P : Program} {ops : Array Oper} {Q : Exit → Act → World → Prop} {S : World → Prop} {C : List Nat}
/-- whatever order is picked: S holds behind every operation that is carried out, but for the closing ones -/
def wpC (P : Program) (ops : Array Oper) (Q : Exit → Act → World → Prop) (S : World → Prop) (C : List Nat) : Nat → Array Bool → Act → World → Prop
  | 0, listed, a, w => Region.ready .any ops listed = [] ∧ Q .normal a w
  | fuel + 1, listed, a, w =>
    (Region.ready .any ops listed = [] → Q .normal a w) ∧
    ∀ i ∈ Region.ready .any ops listed, wpOp P ops Q i (fun a' w' => (i ∉ C → S w') ∧ wpC P ops Q S C fuel (listed.setIfInBounds i true) a' w') a w
theorem wpAny_of_C : ∀ (fuel : Nat) (listed : Array Bool) (a : Act) (w : World), wpC P ops Q S C fuel listed a w → wpAny P .any ops Q fuel listed a w
  | 0, _, _, _, h => h
  | fuel + 1, _, _, _, h => ⟨h.1, fun i hi => wpOp_mono (fun a' w' h' => wpAny_of_C fuel _ a' w' h'.2) (h.2 i hi)⟩
/-- what may be taken first: T is S, or holds of all worlds -/
theorem wpC_first {T : World → Prop} {i : Nat} {oi : Oper} {v : Value} (hi : ops[i]? = some oi) (hsel : ∀ (j : Nat) (o : Oper) cs b, ops[j]? = some o → o.op ≠ .select cs b)
    (hQ : ∀ c a w, Q (.panic c) (a.put oi.dst v) w → Q (.panic c) a w)
    (hT : ∀ j oj w, ops[j]? = some oj → (∀ e ∈ oj.after, Region.binds .any e = true → e.on ≠ i) → (j ∉ C → S w) → T w) (hiC : i ∉ C → ∀ w, T w → S w) :
    ∀ (fuel : Nat) (listed : Array Bool) (a : Act) (w : World),
      (∀ j oj, ops[j]? = some oj → j ≠ i → listed.getD j true = false → (∀ e ∈ oj.after, Region.binds .any e = true → e.on ≠ i) → oi.apart ops oj = true) →
      i ∈ Region.ready .any ops listed → YieldsIf P ops T oi v a → T w →
      wpC P ops Q S C fuel (listed.setIfInBounds i true) (a.put oi.dst v) w → wpC P ops Q S C (fuel + 1) listed a w := by
  intro fuel
  induction fuel with
  | zero =>
    intro listed a w _ hr hy hTw H
    refine ⟨fun h => (by rw [h] at hr; cases hr), fun j hj => ?_⟩
    by_cases hji : j = i
    · subst hji; exact hy.wpOp hi hTw ⟨fun hn => hiC hn w hTw, H⟩
    · have := ready_mono hj hji
      rw [H.1] at this
      cases this
  | succ fuel ih =>
    intro listed a w hfree hr hy hTw H
    refine ⟨fun h => (by rw [h] at hr; cases hr), fun j hj => ?_⟩
    by_cases hji : j = i
    · subst hji; exact hy.wpOp hi hTw ⟨fun hn => hiC hn w hTw, H⟩
    · have h1 := H.2 j (ready_mono hj hji)
      obtain ⟨hjun, oj, hoj, hall⟩ := mem_ready.1 hj
      have hnot : ∀ e ∈ oj.after, Region.binds .any e = true → e.on ≠ i := fun e he hb heq => by
        have h1 := hall e he hb
        have h0 := (mem_ready.1 hr).1
        rw [heq] at h1
        rcases Nat.lt_or_ge i listed.size with h' | h'
        · simp [h'] at h0 h1; rw [h0] at h1; cases h1
        · simp [Array.getElem?_eq_none h'] at h1
      have h2 := wpOp_putIf hoj (hfree j oj hoj hji hjun hnot) (fun cs b => hsel i oi cs b hi) (fun cs b => hsel j oj cs b hoj) hQ hy h1
      have hfree' : ∀ k ok, ops[k]? = some ok → k ≠ i → (listed.setIfInBounds j true).getD k true = false →
          (∀ e ∈ ok.after, Region.binds .any e = true → e.on ≠ i) → oi.apart ops ok = true := fun k ok hk hki hun hno => by
        refine hfree k ok hk hki ?_ hno
        by_cases hjk : j = k
        · subst hjk; exact hjun
        · rw [getD_set_ne true hjk] at hun; exact hun
      refine wpOp_mono (fun a' w' h3 => ⟨h3.2.1, ih (listed.setIfInBounds j true) a' w' hfree' (ready_mono hr (Ne.symm hji)) h3.1 (hT j oj w' hoj hnot h3.2.1) ?_⟩) h2
      rw [Array.setIfInBounds_comm _ _ hji]
      exact h3.2.2
/-- a plan: what is taken first (under S; or in whatever world, if it closes), what comes up alone, what comes up in either order -/
inductive Pl where
  | nil
  | q (i : Nat) (p : Pl)
  | qc (i : Nat) (p : Pl)
  | l (i : Nat) (p : Pl)
  | alt (i : Nat) (p : Pl) (j : Nat) (r : Pl)
def Pl.fuel : Pl → Nat
  | .nil => 0
  | .q _ p => p.fuel + 1
  | .qc _ p => p.fuel + 1
  | .l _ p => p.fuel + 1
  | .alt _ p _ _ => p.fuel + 1
/-- all closing operations wait for number i -/
def closeOk (ops : Array Oper) (C : List Nat) (i : Nat) : Bool := C.all fun j => match ops[j]? with | some o => o.after.any (fun e => Region.binds .any e && e.on == i) | none => false
def Pl.ok (ops : Array Oper) (C : List Nat) : Pl → Array Bool → Bool
  | .nil, x => (Region.ready .any ops x).isEmpty
  | .q i p, x => Region.free .any ops x i && (Region.ready .any ops x).contains i && closeOk ops C i && !C.contains i && p.ok ops C (x.setIfInBounds i true)
  | .qc i p, x => Region.free .any ops x i && (Region.ready .any ops x).contains i && C.contains i && p.ok ops C (x.setIfInBounds i true)
  | .l i p, x => Region.ready .any ops x == [i] && p.ok ops C (x.setIfInBounds i true)
  | .alt i p j r, x => Region.ready .any ops x == [i, j] && p.ok ops C (x.setIfInBounds i true) && r.ok ops C (x.setIfInBounds j true) && p.fuel == r.fuel
/-- what is owed behind operation i -/
def owed (S : World → Prop) (C : List Nat) (i : Nat) (w : World) : Prop := if C.contains i then True else S w
def Pl.wp (P : Program) (ops : Array Oper) (Q : Exit → Act → World → Prop) (S : World → Prop) (C : List Nat) : Pl → Act → World → Prop
  | .nil, a, w => Q .normal a w
  | .q i p, a, w => ∃ o v, ops[i]? = some o ∧ YieldsIf P ops S o v a ∧ (S w ∧ p.wp P ops Q S C (a.put o.dst v) w)
  | .qc i p, a, w => ∃ o v, ops[i]? = some o ∧ YieldsIf P ops (fun _ => True) o v a ∧ p.wp P ops Q S C (a.put o.dst v) w
  | .l i p, a, w => wpOp P ops Q i (fun a' w' => owed S C i w' ∧ p.wp P ops Q S C a' w') a w
  | .alt i p j r, a, w => wpOp P ops Q i (fun a' w' => owed S C i w' ∧ p.wp P ops Q S C a' w') a w ∧ wpOp P ops Q j (fun a' w' => owed S C j w' ∧ r.wp P ops Q S C a' w') a w
theorem owed_out {i : Nat} {w : World} (h : owed S C i w) (hn : i ∉ C) : S w := by
  unfold owed at h
  rw [if_neg (by simpa using hn)] at h
  exact h
theorem Pl.sound (hs : Region.noSelect ops = true) (hQ : ∀ c a d v w, Q (.panic c) (Act.put a d v) w → Q (.panic c) a w) :
    ∀ (t : Pl) (x : Array Bool) (a : Act) (w : World), t.ok ops C x = true → t.wp P ops Q S C a w → wpC P ops Q S C t.fuel x a w
  | .nil, x, a, w, hp, h => ⟨by simpa [Pl.ok] using hp, h⟩
  | .q i p, x, a, w, hp, h => by
    obtain ⟨o, v, ho, hy, hSw, hr⟩ := h
    simp only [Pl.ok, Bool.and_eq_true, Bool.not_eq_true'] at hp
    obtain ⟨⟨⟨⟨h1, h2⟩, h3⟩, h4⟩, h5⟩ := hp
    refine wpC_first (T := S) ho (Region.noSelect_spec hs) (fun c a w => hQ c a o.dst v w) (fun j oj w' hj hno hS => hS (fun hm => ?_)) (fun _ _ h => h) p.fuel x a w (Region.free_spec ho h1) (by simpa using h2) hy hSw (Pl.sound hs hQ p _ _ w h5 hr)
    have := List.all_eq_true.1 h3 j hm
    rw [hj] at this
    obtain ⟨k, hk, hk2⟩ := Array.any_eq_true.1 this
    simp only [Bool.and_eq_true, beq_iff_eq] at hk2
    exact hno _ (Array.getElem_mem hk) hk2.1 hk2.2
  | .qc i p, x, a, w, hp, h => by
    obtain ⟨o, v, ho, hy, hr⟩ := h
    simp only [Pl.ok, Bool.and_eq_true] at hp
    obtain ⟨⟨⟨h1, h2⟩, h3⟩, h5⟩ := hp
    refine wpC_first (T := fun _ => True) ho (Region.noSelect_spec hs) (fun c a w => hQ c a o.dst v w) (fun _ _ _ _ _ _ => trivial) (fun hn _ _ => absurd (by simpa using h3) hn) p.fuel x a w (Region.free_spec ho h1) (by simpa using h2) hy trivial (Pl.sound hs hQ p _ _ w h5 hr)
  | .l i p, x, a, w, hp, h => by
    simp only [Pl.ok, Bool.and_eq_true, beq_iff_eq] at hp
    refine ⟨fun h0 => by rw [h0] at hp; exact absurd hp.1 (by simp), fun j hj => ?_⟩
    rw [hp.1] at hj
    rw [List.mem_singleton.1 hj]
    exact wpOp_mono (fun a' w' hK => ⟨owed_out hK.1, Pl.sound hs hQ p _ a' w' hp.2 hK.2⟩) h
  | .alt i p j r, x, a, w, hp, h => by
    simp only [Pl.ok, Bool.and_eq_true, beq_iff_eq] at hp
    obtain ⟨⟨⟨h1, h2⟩, h3⟩, h4⟩ := hp
    refine ⟨fun h0 => by rw [h0] at h1; exact absurd h1 (by simp), fun k hk => ?_⟩
    rw [h1] at hk
    simp only [List.mem_cons, List.not_mem_nil, or_false] at hk
    rcases hk with rfl | rfl
    · exact wpOp_mono (fun a' w' hK => ⟨owed_out hK.1, Pl.sound hs hQ p _ a' w' h2 hK.2⟩) h.1
    · exact wpOp_mono (fun a' w' hK => ⟨owed_out hK.1, by have := Pl.sound hs hQ r _ a' w' h3 hK.2; rw [← h4] at this; exact this⟩) h.2
theorem wp_region_pl {id : Nat} {l : List Oper} {a : Act} {w : World} (S : World → Prop) (C : List Nat) (t : Pl) (hm : P.follows .mixedOrders = true) (hs : Region.noSelect l.toArray = true)
    (hQ : ∀ c a d v w, Q (.panic c) (Act.put a d v) w → Q (.panic c) a w) (hlen : t.fuel = l.length) (hπ : t.ok l.toArray C (Array.replicate l.length false) = true) (hS : S w.drew)
    (h : ∀ W, S W → t.wp P l.toArray Q S C a W) : (Code.region id l.toArray true).wp P Q a w := by
  refine wp_region_any hm (wpAny_of_C (S := S) (C := C) _ _ _ _ ?_)
  have := Pl.sound (P := P) (S := S) (C := C) hs hQ t (Array.replicate l.length false) a w.drew hπ (h _ hS)
  rw [hlen] at this
  simpa using this
theorem pl_nil {a : Act} {w : World} (h : Q .normal a w) : Pl.wp P ops Q S C .nil a w := h
theorem pl_q {i : Nat} {o : Oper} {p : Pl} {a : Act} {w : World} (hS : S w) (ho : ops[i]? = some o) (hw : Region.wanted o (yielded ops a.tmps) = true)
    (h : ∃ v, (∀ w, S w → (execOp a.eval o).run P w = .ok (.value v) w) ∧ p.wp P ops Q S C (a.put o.dst v) w) : Pl.wp P ops Q S C (.q i p) a w :=
  let ⟨v, hv, h⟩ := h
  ⟨o, v, ho, .inl ⟨hw, hv⟩, hS, h⟩
theorem pl_qc {i : Nat} {o : Oper} {p : Pl} {a : Act} {w : World} (ho : ops[i]? = some o) (hw : Region.wanted o (yielded ops a.tmps) = true)
    (h : ∃ v, (∀ w, True → (execOp a.eval o).run P w = .ok (.value v) w) ∧ p.wp P ops Q S C (a.put o.dst v) w) : Pl.wp P ops Q S C (.qc i p) a w :=
  let ⟨v, hv, h⟩ := h
  ⟨o, v, ho, .inl ⟨hw, hv⟩, h⟩
theorem pl_skip {i : Nat} {o : Oper} {p : Pl} {a : Act} {w : World} (hS : S w) (ho : ops[i]? = some o) (hw : Region.wanted o (yielded ops a.tmps) = false)
    (h : p.wp P ops Q S C (a.put o.dst undef) w) : Pl.wp P ops Q S C (.q i p) a w := ⟨o, undef, ho, .inr ⟨hw, rfl⟩, hS, h⟩
theorem pl_skipl {i : Nat} {o : Oper} {p : Pl} {a : Act} {w : World} (hS : S w) (ho : ops[i]? = some o) (hw : Region.wanted o (yielded ops a.tmps) = false)
    (h : p.wp P ops Q S C (a.put o.dst undef) w) : Pl.wp P ops Q S C (.l i p) a w := by
  show wpOp _ _ _ _ _ _ _
  unfold wpOp
  simp only [ho, hw]
  refine ⟨?_, h⟩
  unfold owed
  split
  · trivial
  · exact hS
/-- one operation that is carried out, and S is owed behind it -/
theorem op_do {R : Act → World → Prop} {i : Nat} {o : Oper} {a : Act} {w : World} (ho : ops[i]? = some o) (hw : Region.wanted o (yielded ops a.tmps) = true)
    (h : ∀ K : Act → World → Prop, Shut (∀ a' w', S w' → (S w' → R a' w') → K a' w') → Oper.wp P o a w K Q) : wpOp P ops Q i (fun a' w' => owed S C i w' ∧ R a' w') a w := by
  unfold wpOp
  simp only [ho, hw, if_true]
  exact .inl (h _ (fun a' w' h1 h2 => ⟨by unfold owed; split <;> first | trivial | exact h1, h2 h1⟩))
/-- one operation that closes -/
theorem op_close {R : Act → World → Prop} {i : Nat} {o : Oper} {a : Act} {w : World} (ho : ops[i]? = some o) (hw : Region.wanted o (yielded ops a.tmps) = true) (hc : C.contains i = true)
    (h : ∀ K : Act → World → Prop, Shut (∀ a' w', R a' w' → K a' w') → Oper.wp P o a w K Q) : wpOp P ops Q i (fun a' w' => owed S C i w' ∧ R a' w') a w := by
  unfold wpOp
  simp only [ho, hw, if_true]
  exact .inl (h _ (fun a' w' h1 => ⟨by unfold owed; rw [if_pos hc]; trivial, h1⟩))
theorem pl_do {i : Nat} {o : Oper} {p : Pl} {a : Act} {w : World} (ho : ops[i]? = some o) (hw : Region.wanted o (yielded ops a.tmps) = true)
    (h : ∀ K : Act → World → Prop, Shut (∀ a' w', S w' → (S w' → p.wp P ops Q S C a' w') → K a' w') → Oper.wp P o a w K Q) : Pl.wp P ops Q S C (.l i p) a w := op_do ho hw h
theorem pl_close {i : Nat} {o : Oper} {p : Pl} {a : Act} {w : World} (ho : ops[i]? = some o) (hw : Region.wanted o (yielded ops a.tmps) = true) (hc : C.contains i = true)
    (h : ∀ K : Act → World → Prop, Shut (∀ a' w', p.wp P ops Q S C a' w' → K a' w') → Oper.wp P o a w K Q) : Pl.wp P ops Q S C (.l i p) a w := op_close ho hw hc h
theorem pl_alt {i j : Nat} {p r : Pl} {a : Act} {w : World} (h1 : wpOp P ops Q i (fun a' w' => owed S C i w' ∧ p.wp P ops Q S C a' w') a w) (h2 : wpOp P ops Q j (fun a' w' => owed S C j w' ∧ r.wp P ops Q S C a' w') a w) : Pl.wp P ops Q S C (.alt i p j r) a w := ⟨h1, h2⟩
end
end Go.Proofs.YtbcoecmeoemmeaaGreatDoor
