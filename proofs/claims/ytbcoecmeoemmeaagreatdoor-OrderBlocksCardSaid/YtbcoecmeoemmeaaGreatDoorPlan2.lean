/- A region that draws its order, walked by a plan that may branch: where two loud operations may come up, both ways are walked. -/
import Derived.Test.YtbcoecmeoemmeaaGreatDoorPlan
namespace Go.Proofs.YtbcoecmeoemmeaaGreatDoor
open Go.ChangeShapes Go.WideShapes Go.ChangeAt Go.RowKit
set_option linter.unusedVariables false
section
variable {P : Program} {ops : Array Oper} {Q : Exit → Act → World → Prop} {S : World → Prop}
def planOkK (ops : Array Oper) (kOk : Array Bool → Bool) : List (Nat × Bool) → Array Bool → Bool
  | [], listed => kOk listed
  | (i, q) :: rest, listed => (if q then Region.free .any ops listed i && (Region.ready .any ops listed).contains i else Region.ready .any ops listed == [i]) && planOkK ops kOk rest (listed.setIfInBounds i true)
def wpPlanK (P : Program) (ops : Array Oper) (Q : Exit → Act → World → Prop) (S : World → Prop) (K : Act → World → Prop) : List (Nat × Bool) → Act → World → Prop
  | [], a, w => K a w
  | (i, true) :: rest, a, w => ∃ o v, ops[i]? = some o ∧ YieldsIf P ops S o v a ∧ wpPlanK P ops Q S K rest (a.put o.dst v) w
  | (i, false) :: rest, a, w => wpOp P ops Q i (fun a' w' => S w' ∧ (S w' → wpPlanK P ops Q S K rest a' w')) a w
theorem wpPlanK_sound (hs : Region.noSelect ops = true) (hQ : ∀ c a d v w, Q (.panic c) (Act.put a d v) w → Q (.panic c) a w) {kOk : Array Bool → Bool} {K : Act → World → Prop} {m : Nat}
    (hk : ∀ listed a w, kOk listed = true → S w → K a w → wpAnyH P .any ops Q S m listed a w) :
    ∀ (π : List (Nat × Bool)) (listed : Array Bool) (a : Act) (w : World), planOkK ops kOk π listed = true → S w → wpPlanK P ops Q S K π a w → wpAnyH P .any ops Q S (π.length + m) listed a w
  | [], listed, a, w, hp, hS, h => by
    rw [List.length_nil, Nat.zero_add]
    exact hk listed a w hp hS h
  | (i, true) :: rest, listed, a, w, hp, hS, h => by
    obtain ⟨o, v, ho, hy, hr⟩ := h
    simp only [planOkK, if_true, Bool.and_eq_true] at hp
    rw [List.length_cons, Nat.add_right_comm]
    exact wpAnyH_take ho hs hp.1.1 hp.1.2 (fun c a w => hQ c a o.dst v w) hy hS (wpPlanK_sound hs hQ hk rest _ _ w hp.2 hS hr)
  | (i, false) :: rest, listed, a, w, hp, hS, h => by
    simp only [planOkK, Bool.false_eq_true, if_false, Bool.and_eq_true, beq_iff_eq] at hp
    rw [List.length_cons, Nat.add_right_comm]
    refine wpAnyH_all hp.1 (by simp) (fun j hj => ?_)
    rw [List.mem_singleton.1 hj]
    exact wpOp_mono (fun a' w' hK => ⟨hK.1, wpPlanK_sound hs hQ hk rest _ a' w' hp.2 hK.1 (hK.2 hK.1)⟩) h
/-- a plan that may branch in two -/
inductive PT where
  | done (l : List (Nat × Bool))
  | alt (l : List (Nat × Bool)) (i j : Nat) (p q : PT)
def PT.fuel : PT → Nat
  | .done l => l.length
  | .alt l _ _ p _ => l.length + (p.fuel + 1)
def PT.ok (ops : Array Oper) : PT → Array Bool → Bool
  | .done l, listed => planOkK ops (fun x => (Region.ready .any ops x).isEmpty) l listed
  | .alt l i j p q, listed => planOkK ops (fun x => Region.ready .any ops x == [i, j] && p.ok ops (x.setIfInBounds i true) && q.ok ops (x.setIfInBounds j true) && p.fuel == q.fuel) l listed
def PT.wp (P : Program) (ops : Array Oper) (Q : Exit → Act → World → Prop) (S : World → Prop) : PT → Act → World → Prop
  | .done l, a, w => wpPlanK P ops Q S (Q .normal) l a w
  | .alt l i j p q, a, w => wpPlanK P ops Q S (fun a w => wpOp P ops Q i (fun a' w' => S w' ∧ (S w' → p.wp P ops Q S a' w')) a w ∧ wpOp P ops Q j (fun a' w' => S w' ∧ (S w' → q.wp P ops Q S a' w')) a w) l a w
theorem PT.sound (hs : Region.noSelect ops = true) (hQ : ∀ c a d v w, Q (.panic c) (Act.put a d v) w → Q (.panic c) a w) :
    ∀ (t : PT) (listed : Array Bool) (a : Act) (w : World), t.ok ops listed = true → S w → t.wp P ops Q S a w → wpAnyH P .any ops Q S t.fuel listed a w
  | .done l, listed, a, w, hp, hS, h => by
    have := wpPlanK_sound (m := 0) hs hQ (kOk := fun x => (Region.ready .any ops x).isEmpty) (K := Q .normal) (fun x a w hx _ hK => by
      have hr : Region.ready .any ops x = [] := by simpa using hx
      exact wpAnyH_done hr hK 0) l listed a w hp hS h
    exact this
  | .alt l i j p q, listed, a, w, hp, hS, h => by
    refine wpPlanK_sound (m := p.fuel + 1) hs hQ (fun x a w hx hS hK => ?_) l listed a w hp hS h
    simp only [Bool.and_eq_true, beq_iff_eq] at hx
    obtain ⟨⟨⟨h1, h2⟩, h3⟩, h4⟩ := hx
    refine wpAnyH_all h1 (by simp) (fun k hk => ?_)
    simp only [List.mem_cons, List.not_mem_nil, or_false] at hk
    rcases hk with rfl | rfl
    · exact wpOp_mono (fun a' w' hK => ⟨hK.1, PT.sound hs hQ p _ a' w' h2 hK.1 (hK.2 hK.1)⟩) hK.1
    · exact wpOp_mono (fun a' w' hK => ⟨hK.1, h4 ▸ PT.sound hs hQ q _ a' w' h3 hK.1 (hK.2 hK.1)⟩) hK.2
theorem wp_region_tree {id : Nat} {l : List Oper} {a : Act} {w : World} (S : World → Prop) (t : PT) (hm : P.follows .mixedOrders = true) (hs : Region.noSelect l.toArray = true)
    (hQ : ∀ c a d v w, Q (.panic c) (Act.put a d v) w → Q (.panic c) a w) (hlen : t.fuel = l.length) (hπ : t.ok l.toArray (Array.replicate l.length false) = true) (hS : S w.drew)
    (h : ∀ W, S W → t.wp P l.toArray Q S a W) : (Code.region id l.toArray true).wp P Q a w := by
  refine wp_region_held hm (S := S) ?_
  have := PT.sound (P := P) (S := S) hs hQ t (Array.replicate l.length false) a w.drew hπ hS (h _ hS)
  rw [hlen] at this
  simpa using this
theorem wpPlanK_nil {K : Act → World → Prop} {a : Act} {w : World} (h : K a w) : wpPlanK P ops Q S K [] a w := h
theorem wpPlanK_alt {i j : Nat} {p q : PT} {a : Act} {w : World} (h1 : wpOp P ops Q i (fun a' w' => S w' ∧ (S w' → p.wp P ops Q S a' w')) a w) (h2 : wpOp P ops Q j (fun a' w' => S w' ∧ (S w' → q.wp P ops Q S a' w')) a w) :
    wpPlanK P ops Q S (fun a w => wpOp P ops Q i (fun a' w' => S w' ∧ (S w' → p.wp P ops Q S a' w')) a w ∧ wpOp P ops Q j (fun a' w' => S w' ∧ (S w' → q.wp P ops Q S a' w')) a w) [] a w := ⟨h1, h2⟩
theorem wpPlanK_takes {K : Act → World → Prop} {i : Nat} {o : Oper} {rest : List (Nat × Bool)} {a : Act} {w : World} (ho : ops[i]? = some o) (hw : Region.wanted o (yielded ops a.tmps) = true)
    (h : ∃ v, (∀ w, S w → (execOp a.eval o).run P w = .ok (.value v) w) ∧ wpPlanK P ops Q S K rest (a.put o.dst v) w) : wpPlanK P ops Q S K ((i, true) :: rest) a w :=
  let ⟨v, hv, h⟩ := h
  ⟨o, v, ho, .inl ⟨hw, hv⟩, h⟩
theorem wpPlanK_skip {K : Act → World → Prop} {i : Nat} {o : Oper} {q : Bool} {rest : List (Nat × Bool)} {a : Act} {w : World} (hS : S w) (ho : ops[i]? = some o) (hw : Region.wanted o (yielded ops a.tmps) = false)
    (h : wpPlanK P ops Q S K rest (a.put o.dst undef) w) : wpPlanK P ops Q S K ((i, q) :: rest) a w := by
  cases q with
  | true => exact ⟨o, undef, ho, .inr ⟨hw, rfl⟩, h⟩
  | false =>
    show wpOp _ _ _ _ _ _ _
    unfold wpOp
    simp only [ho, hw]
    exact ⟨hS, fun _ => h⟩
/-- one operation, whatever follows -/
theorem wpOp_do {R : Act → World → Prop} {i : Nat} {o : Oper} {a : Act} {w : World} (ho : ops[i]? = some o) (hw : Region.wanted o (yielded ops a.tmps) = true)
    (h : ∀ K : Act → World → Prop, Shut (∀ a' w', S w' → (S w' → R a' w') → K a' w') → Oper.wp P o a w K Q) : wpOp P ops Q i (fun a' w' => S w' ∧ (S w' → R a' w')) a w := by
  unfold wpOp
  simp only [ho, hw, if_true]
  exact .inl (h _ (fun a' w' h1 h2 => ⟨h1, h2⟩))
theorem wpPlanK_do {K : Act → World → Prop} {i : Nat} {o : Oper} {rest : List (Nat × Bool)} {a : Act} {w : World} (ho : ops[i]? = some o) (hw : Region.wanted o (yielded ops a.tmps) = true)
    (h : ∀ K' : Act → World → Prop, Shut (∀ a' w', S w' → (S w' → wpPlanK P ops Q S K rest a' w') → K' a' w') → Oper.wp P o a w K' Q) : wpPlanK P ops Q S K ((i, false) :: rest) a w := wpOp_do ho hw h
end
end Go.Proofs.YtbcoecmeoemmeaaGreatDoor
