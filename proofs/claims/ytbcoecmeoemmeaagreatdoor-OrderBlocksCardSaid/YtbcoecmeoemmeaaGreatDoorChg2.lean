/- More of rows of the call's own. -/
import Derived.Test.YtbcoecmeoemmeaaGreatDoorChg
import Derived.Test.YtbcoecmeoemmeaaGreatDoorPlan3
namespace Go.Proofs.YtbcoecmeoemmeaaGreatDoor
open Go.ChangeShapes Go.WideShapes Go.ChangeAt Go.RowKit
set_option linter.unusedVariables false
theorem OwnVec.there {α : Type} {enc : α → Value} {e : TypeId} {w : World} {B : Nat} {v : Value} {xs : List α} (h : OwnVec enc e w B v xs) (hp : 0 < xs.length) : ∃ g c, v = .slice (some ⟨g, 0, none⟩) xs.length c ∧ B ≤ g ∧ g < w.heap.size := by
  obtain ⟨_, h2⟩ := h.own
  rcases h2 with ⟨rfl, h2⟩ | ⟨g, cap, cur, rfl, h3, h4, _⟩
  · omega
  · exact ⟨g, cap, rfl, h3, (Array.getElem?_eq_some_iff.1 h4).1⟩
theorem wpList_store_vec {α : Type} {enc : α → Value} {P : Program} {ops : Array Oper} {rest : List Oper} {o : Oper} {a : Act} {w : World} {Q : Exit → Act → World → Prop} {t e : TypeId} {x y : Operand} {g i n c B : Nat} {xs : List α} (u : α) (hgd : o.guard = none)
    (ho : o.op = .store t x y) (hx : a.eval x = .pointer (some ⟨g, i, none⟩)) (hy : a.eval y = enc u) (ht : (P.info? t).map (·.size) = some 1) (hn : (enc u).cells = #[enc u]) (h1 : (enc u).oneCell' = true) (hb : OwnVec enc e w B (.slice (some ⟨g, 0, none⟩) n c) xs) (hi : i < xs.length)
    (h : ∀ w', OwnVec enc e w' B (.slice (some ⟨g, 0, none⟩) n c) (xs.set i u) → w.grownBy w' (some g) → wpList P ops Q rest (a.put o.dst undef) w') : wpList P ops Q (o :: rest) a w :=
  wpList_plain hgd fun _ hK => wp_store_vec u ho hx hy ht hn h1 hb hi fun w' h2 h3 => hK _ _ (h w' h2 h3)
theorem RVec.one {α : Type} {enc : α → Value} {bs : Nat} {h : View} {g : Nat} (x : α) (hc : h ⟨g, 0, none⟩ = some (enc x)) (hb : bs ≤ 140737488355328) : RVec enc bs h (.slice (some ⟨g, 0, none⟩) 1 1) [x] :=
  ⟨_, 1, rfl, Nat.le_refl _, by decide, by simpa using hb, (fun h => by cases h), fun _ => ⟨g, 0, rfl, fun i hi => by
    have : i = 0 := by simpa using hi
    subst this; simpa using hc⟩⟩
/-- a region by a plan: with what holds of the world at its beginning, besides -/
theorem wp_region_pl0 {P : Program} {Q : Exit → Act → World → Prop} {id : Nat} {l : List Oper} {a : Act} {w : World} (S0 S : World → Prop) (C : List Nat) (t : Pl) (hm : P.follows .mixedOrders = true) (hs : Region.noSelect l.toArray = true)
    (hQ : ∀ c a d v w, Q (.panic c) (Act.put a d v) w → Q (.panic c) a w) (hlen : t.fuel = l.length) (hπ : t.ok l.toArray C (Array.replicate l.length false) = true) (hS : S0 w.drew ∧ S w.drew)
    (h : ∀ W, S0 W → S W → t.wp P l.toArray Q S C a W) : (Code.region id l.toArray true).wp P Q a w := by
  refine wp_region_any hm (wpAny_of_C (S := S) (C := C) _ _ _ _ ?_)
  have := Pl.sound (P := P) (S := S) (C := C) hs hQ t (Array.replicate l.length false) a w.drew hπ (h _ hS.1 hS.2)
  rw [hlen] at this
  simpa using this
end Go.Proofs.YtbcoecmeoemmeaaGreatDoor
