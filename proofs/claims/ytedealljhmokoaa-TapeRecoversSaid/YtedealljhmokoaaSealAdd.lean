/- seal.Add and the document's answer; the law SealAdds. -/
import Derived.Test.YtedealljhmokoaaSign3
import Derived.Test.YtedealljhmokoaaClone
import Derived.Test.YtedealljhmokoaaChg2
namespace Go.Proofs.Ytedealljhmokoaa
open Go.ChangeShapes Go.WideShapes Go.ChangeAt Go.RowKit
set_option linter.unusedVariables false
theorem wpList_store_blk {P : Program} {ops : Array Oper} {rest : List Oper} {o : Oper} {a : Act} {w : World} {Q : Exit → Act → World → Prop} {t te : TypeId} {x y : Operand} {g off n : Nat} {cs : Array Value} {v : Value} (hgd : o.guard = none)
    (ho : o.op = .store t x y) (hx : a.eval x = .pointer (some ⟨g, off, none⟩)) (hy : a.eval y = v) (hi : (P.info? t).map (·.size) = some n) (hn : v.cells.size = n) (hb : Blk w g te cs) (hfit : off + n ≤ cs.size) (h1 : (v.cells.toList.all fun u => u.oneCell') = true)
    (h : ∀ w', Blk w' g te (cs.toList.take off ++ (v.cells.toList ++ cs.toList.drop (off + n))).toArray → w.grownBy w' (some g) → wpList P ops Q rest (a.put o.dst undef) w') : wpList P ops Q (o :: rest) a w :=
  wpList_plain hgd fun _ hK => wp_store_blk ho hx hy hi hn hb hfit h1 fun w' h2 h3 => hK _ _ (h w' h2 h3)
def addE (l : List Sign) (s : Sign) : Int := if signsF l ≠ 0 then signsF l else signF s.node s.slot.author s.slot.round s.slot.digest.length
def addL (l : List Sign) (s : Sign) : List Sign := if addE l s ≠ 0 then [] else if hasSign l s then l else l ++ [s]
theorem RSl.nil {α : Type} (sz : Nat) (R : View → List Value → α → Prop) (bs : Nat) (h : View) : RSl sz R bs h (.slice none 0 0) [] := ⟨none, 0, rfl, Nat.le_refl _, Nat.zero_le _, by simp, fun _ => rfl, fun h => by simp at h⟩
end Go.Proofs.Ytedealljhmokoaa
