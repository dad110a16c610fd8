/- Rows as arguments: their size is below the form's reach. -/
import Derived.Test.YtelfbgfggkhpjaaBase
namespace Go.Proofs.Ytelfbgfggkhpjaa
open Go.ChangeShapes Go.WideShapes Go.ChangeAt Go.RowKit
set_option linter.unusedVariables false
theorem opens_slb {P : Program} {t e : TypeId} {α : Type} {R : View → List Value → α → Prop} {sz bs : Nat} (ht : P.underlying t = some (.slice e)) (hc : P.cellsOf e = sz) (hsz : 0 < sz) (hbs : P.bytesOf e = bs) (he : OpensTo P e R) :
    OpensTo P t (fun h cs (xs : List α) => ∃ v, cs = [v] ∧ (RSl sz R bs h v xs ∧ xs.length * bs ≤ 140737488351232)) := by
  intro H enc w fuel cs x h hw
  obtain ⟨xs, v, rfl, hr⟩ := opens_sl ht hc hsz hbs he H enc w fuel cs x h hw
  refine ⟨xs, v, rfl, hr, ?_⟩
  obtain ⟨A, c, e1, _⟩ := hr
  rcases Deep.open_slice ht h with ⟨e2, rfl⟩ | ⟨a, len, cap, m, n, D, Pl, e2, hb, hl, hm, hmm, hx, hi⟩
  · injection e2 with e2 _
    rw [e1] at e2
    injection e2 with _ e2 _
    rw [e2]; simp
  · injection e2 with e2 _
    rw [e1] at e2
    injection e2 with _ e2 _
    simp only [if_true] at hmm
    subst hmm
    subst hx
    have hrow : ((List.range len).map D).length + ((List.range (m - len)).map fun j => D (len + j)).length = m := by simp; omega
    have := hw _ (by simp only [DataW.weights, ht]; exact List.mem_cons_self)
    rw [hrow, hbs] at this
    unfold reachBytes at this
    rw [e2]
    exact Nat.le_trans (Nat.mul_le_mul_right _ hl) (by omega)
end Go.Proofs.Ytelfbgfggkhpjaa
