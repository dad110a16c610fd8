/- A region that draws its order, walked by a plan: what yields its value in every world that meets S is taken when it may come up; all else comes up alone, in one order. -/
import Derived.Test.YtbcoecmeoemmeaaGreatDoorBase
namespace Go.Proofs.YtbcoecmeoemmeaaGreatDoor
open Go.ChangeShapes Go.WideShapes Go.ChangeAt Go.RowKit
set_option linter.unusedVariables false
section
variable {P : Program} {ops : Array Oper} {Q : Exit → Act → World → Prop} {S : World → Prop}

def planOk (ops : Array Oper) : List (Nat × Bool) → Array Bool → Bool
  | [], listed => (Region.ready .any ops listed).isEmpty
  | (i, q) :: rest, listed => (if q then Region.free .any ops listed i && (Region.ready .any ops listed).contains i else Region.ready .any ops listed == [i]) && planOk ops rest (listed.setIfInBounds i true)

/-- the walk by a plan -/
def wpPlan (P : Program) (ops : Array Oper) (Q : Exit → Act → World → Prop) (S : World → Prop) : List (Nat × Bool) → Act → World → Prop
  | [], a, w => Q .normal a w
  | (i, true) :: rest, a, w => ∃ o v, ops[i]? = some o ∧ YieldsIf P ops S o v a ∧ wpPlan P ops Q S rest (a.put o.dst v) w
  | (i, false) :: rest, a, w => wpOp P ops Q i (fun a' w' => S w' ∧ (S w' → wpPlan P ops Q S rest a' w')) a w

theorem wpPlan_sound (hs : Region.noSelect ops = true) (hQ : ∀ c a d v w, Q (.panic c) (Act.put a d v) w → Q (.panic c) a w) :
    ∀ (π : List (Nat × Bool)) (listed : Array Bool) (a : Act) (w : World), planOk ops π listed = true → S w → wpPlan P ops Q S π a w → wpAnyH P .any ops Q S π.length listed a w
  | [], listed, a, w, hp, _, h => ⟨by simpa [planOk] using hp, h⟩
  | (i, true) :: rest, listed, a, w, hp, hS, h => by
    obtain ⟨o, v, ho, hy, hr⟩ := h
    simp only [planOk, if_true, Bool.and_eq_true] at hp
    exact wpAnyH_take ho hs hp.1.1 hp.1.2 (fun c a w => hQ c a o.dst v w) hy hS (wpPlan_sound hs hQ rest _ _ w hp.2 hS hr)
  | (i, false) :: rest, listed, a, w, hp, hS, h => by
    simp only [planOk, Bool.false_eq_true, if_false, Bool.and_eq_true, beq_iff_eq] at hp
    refine wpAnyH_all hp.1 (by simp) (fun j hj => ?_)
    rw [List.mem_singleton.1 hj]
    exact wpOp_mono (fun a' w' hK => ⟨hK.1, wpPlan_sound hs hQ rest _ a' w' hp.2 hK.1 (hK.2 hK.1)⟩) h

theorem wp_region_plan {id : Nat} {l : List Oper} {a : Act} {w : World} (S : World → Prop) (π : List (Nat × Bool)) (hm : P.follows .mixedOrders = true) (hs : Region.noSelect l.toArray = true)
    (hQ : ∀ c a d v w, Q (.panic c) (Act.put a d v) w → Q (.panic c) a w) (hlen : π.length = l.length) (hπ : planOk l.toArray π (Array.replicate l.length false) = true) (hS : S w.drew)
    (h : ∀ W, S W → wpPlan P l.toArray Q S π a W) : (Code.region id l.toArray true).wp P Q a w := by
  refine wp_region_held hm (S := S) ?_
  have := wpPlan_sound (P := P) (S := S) hs hQ π (Array.replicate l.length false) a w.drew hπ hS (h _ hS)
  rw [hlen] at this
  simpa using this

theorem wpPlan_nil {a : Act} {w : World} (h : Q .normal a w) : wpPlan P ops Q S [] a w := h
theorem wpPlan_take {i : Nat} {o : Oper} {v : Value} {rest : List (Nat × Bool)} {a : Act} {w : World} (ho : ops[i]? = some o) (hw : Region.wanted o (yielded ops a.tmps) = true)
    (hv : ∀ w, S w → (execOp a.eval o).run P w = .ok (.value v) w) (h : wpPlan P ops Q S rest (a.put o.dst v) w) : wpPlan P ops Q S ((i, true) :: rest) a w :=
  ⟨o, v, ho, .inl ⟨hw, hv⟩, h⟩
theorem wpPlan_takes {i : Nat} {o : Oper} {rest : List (Nat × Bool)} {a : Act} {w : World} (ho : ops[i]? = some o) (hw : Region.wanted o (yielded ops a.tmps) = true)
    (h : ∃ v, (∀ w, S w → (execOp a.eval o).run P w = .ok (.value v) w) ∧ wpPlan P ops Q S rest (a.put o.dst v) w) : wpPlan P ops Q S ((i, true) :: rest) a w :=
  let ⟨v, hv, h⟩ := h
  ⟨o, v, ho, .inl ⟨hw, hv⟩, h⟩
theorem wpPlan_skip {i : Nat} {o : Oper} {q : Bool} {rest : List (Nat × Bool)} {a : Act} {w : World} (hS : S w) (ho : ops[i]? = some o) (hw : Region.wanted o (yielded ops a.tmps) = false)
    (h : wpPlan P ops Q S rest (a.put o.dst undef) w) : wpPlan P ops Q S ((i, q) :: rest) a w := by
  cases q with
  | true => exact ⟨o, undef, ho, .inr ⟨hw, rfl⟩, h⟩
  | false =>
    show wpOp _ _ _ _ _ _ _
    unfold wpOp
    simp only [ho, hw]
    exact ⟨hS, fun _ => h⟩
/-- what comes up alone -/
theorem wpPlan_do {i : Nat} {o : Oper} {rest : List (Nat × Bool)} {a : Act} {w : World} (ho : ops[i]? = some o) (hw : Region.wanted o (yielded ops a.tmps) = true)
    (h : ∀ K : Act → World → Prop, Shut (∀ a' w', S w' → (S w' → wpPlan P ops Q S rest a' w') → K a' w') → Oper.wp P o a w K Q) : wpPlan P ops Q S ((i, false) :: rest) a w := by
  show wpOp _ _ _ _ _ _ _
  unfold wpOp
  simp only [ho, hw, if_true]
  exact .inl (h _ (fun a' w' h1 h2 => ⟨h1, h2⟩))
end
end Go.Proofs.YtbcoecmeoemmeaaGreatDoor
