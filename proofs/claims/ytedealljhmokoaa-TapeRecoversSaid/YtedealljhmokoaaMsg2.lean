/- The fault of a message: the document's answer. -/
import Derived.Test.YtedealljhmokoaaMsg
import Derived.Test.YtedealljhmokoaaCert2
import Derived.Deep.DeepCutAuto
import Derived.Deep.CutBlock
namespace Go.Proofs.Ytedealljhmokoaa
open Go.ChangeShapes Go.WideShapes Go.ChangeAt Go.RowKit
set_option linter.unusedVariables false
set_option linter.unusedSimpArgs false
def hdrNone (a r : Int) (b p : List (List UInt8)) : Bool := decide (a = 0 ∧ r = 0 ∧ b.length = 0 ∧ p.length = 0)
def batSome (x : Bat) : Bool := decide (x.author ≠ 0 ∨ x.number ≠ 0 ∨ 0 < x.txs.length)
def sltSome (x : Slt) : Bool := decide (x.author ≠ 0 ∨ x.round ≠ 0 ∨ 0 < x.digest.length)
def crtSome (x : Crt) : Bool := !hdrNone x.hdr.author x.hdr.round x.hdr.batches x.hdr.parents || decide (0 < x.voters.length)
def bodyF (m : Msg) : Int :=
  if m.kind = 1 then batchF m.bat.author m.bat.number m.bat.txs else if m.kind = 2 then headF m.hdr.author m.hdr.round m.hdr.batches m.hdr.parents else if m.kind = 3 then slotF m.slt.author m.slt.round m.slt.digest.length
  else if m.kind = 4 then certF m.crt.hdr.author m.crt.hdr.round m.crt.hdr.batches m.crt.hdr.parents m.crt.voters else if inB m.round 1 1048576 then 0 else 2
def extra (m : Msg) : Bool :=
  batSome m.bat && decide (m.kind ≠ 1) || !hdrNone m.hdr.author m.hdr.round m.hdr.batches m.hdr.parents && decide (m.kind ≠ 2) || sltSome m.slt && decide (m.kind ≠ 3) || crtSome m.crt && decide (m.kind ≠ 4) || decide (m.round ≠ 0) && decide (m.kind ≠ 5)
def msgF (m : Msg) : Int :=
  if inB m.src 0 3 && inB m.dst 0 3 then (if inB m.kind 1 5 then (if bodyF m ≠ 0 then bodyF m else if extra m then 4 else 0) else 3) else 2
set_option maxHeartbeats 1000000 in
set_option maxRecDepth 100000 in
theorem headerEmpty_any (a r : Int) (vb vp : Value) (b p : List (List UInt8)) (w : World) (hb : RDigs w.cell? vb b) (hp : RDigs w.cell? vp p) :
    Calls Try.prog 64 #[.agg #[.int .i64 a, .int .i64 r, vb, vp]] w fun e w' => e = .returned (.bool (hdrNone a r b p)) ∧ Below w.heap.size w w' := by
  obtain ⟨bA, bc, rfl, _⟩ := id hb
  obtain ⟨pA, pc, rfl, _⟩ := id hp
  clear hb hp
  have hbl := below_one w (.cells #[.int .i64 a, .int .i64 r, .slice bA b.length bc, .slice pA p.length pc] 27)
  have fin : ∀ x, (a = 0 ∧ r = 0 ∧ b.length = 0 ∧ p.length = 0 ↔ x = true) → Hid (hdrNone a r b p = x) := fun x h => by
    show _ = _
    unfold hdrNone
    cases x
    · exact decide_eq_false (fun h' => absurd (h.1 h') (by simp))
    · exact decide_eq_true (by simpa using h)
  generalize hdrNone a r b p = Z at fin ⊢
  generalize b.length = lb at fin ⊢
  generalize p.length = lp at fin ⊢
  by_cases h1 : a = 0
  · by_cases h2 : r = 0
    · by_cases h3 : lb = 0
      · by_cases h4 : lp = 0
        · have H := fin true (by simp [*])
          clear fin
          subst h1 h2 h3 h4
          go_enter Try.func64, Try.ntmps64
          go_wp2
          go_ret
          exact ⟨ret_bool H.out.symm, by repeat (first
  | assumption
  | exact Below.refl _ _
  | refine Below.drew ?_
  | (refine Below.alloc ?_ ?sa _; (case sa => first | omega | (simp; done) | (simp; omega)))
  | (refine Below.setCell ?_ ?sa _; (case sa => first | (dsimp only; omega) | (simp; done) | (simp; omega))))⟩
        · have H := fin false (by simp [*])
          clear fin
          subst h1 h2 h3
          go_enter Try.func64, Try.ntmps64
          go_wp2
          go_ret
          exact ⟨ret_bool (by rw [H.out]; try simp [h4]), by repeat (first
  | assumption
  | exact Below.refl _ _
  | refine Below.drew ?_
  | (refine Below.alloc ?_ ?sa _; (case sa => first | omega | (simp; done) | (simp; omega)))
  | (refine Below.setCell ?_ ?sa _; (case sa => first | (dsimp only; omega) | (simp; done) | (simp; omega))))⟩
      · have H := fin false (by simp [*])
        clear fin
        subst h1 h2
        go_enter Try.func64, Try.ntmps64
        go_wp2
        go_ret
        exact ⟨ret_bool (by rw [H.out]; try simp [h3]), by repeat (first
  | assumption
  | exact Below.refl _ _
  | refine Below.drew ?_
  | (refine Below.alloc ?_ ?sa _; (case sa => first | omega | (simp; done) | (simp; omega)))
  | (refine Below.setCell ?_ ?sa _; (case sa => first | (dsimp only; omega) | (simp; done) | (simp; omega))))⟩
    · have H := fin false (by simp [*])
      clear fin
      subst h1
      go_enter Try.func64, Try.ntmps64
      go_wp2
      go_ret
      exact ⟨ret_bool (by rw [H.out]; try simp [h2]), by repeat (first
  | assumption
  | exact Below.refl _ _
  | refine Below.drew ?_
  | (refine Below.alloc ?_ ?sa _; (case sa => first | omega | (simp; done) | (simp; omega)))
  | (refine Below.setCell ?_ ?sa _; (case sa => first | (dsimp only; omega) | (simp; done) | (simp; omega))))⟩
  · have H := fin false (by simp [*])
    clear fin
    go_enter Try.func64, Try.ntmps64
    go_wp2
    go_ret
    exact ⟨ret_bool (by rw [H.out]; try simp [h1]), by repeat (first
  | assumption
  | exact Below.refl _ _
  | refine Below.drew ?_
  | (refine Below.alloc ?_ ?sa _; (case sa => first | omega | (simp; done) | (simp; omega)))
  | (refine Below.setCell ?_ ?sa _; (case sa => first | (dsimp only; omega) | (simp; done) | (simp; omega))))⟩
end Go.Proofs.Ytedealljhmokoaa
