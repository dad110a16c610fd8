/- Lists of digests: their copies, their fault; headers. -/
import Derived.Test.YtbcoecmeoemmeaaGreatDoorChg
import Derived.Test.YtbcoecmeoemmeaaGreatDoorCopy
import Derived.Test.YtbcoecmeoemmeaaGreatDoorStr
namespace Go.Proofs.YtbcoecmeoemmeaaGreatDoor
open Go.ChangeShapes Go.WideShapes Go.ChangeAt Go.RowKit
set_option linter.unusedVariables false
/-- an own row whose elements lie from the base on: all of it lies there -/
theorem OwnSl.reads_from {α : Type} {sz bs : Nat} {R : View → List Value → α → Prop} (hR : Mono R) {e : TypeId} {w : World} {b : Nat} {v : Value} {xs : List α} (h : OwnSl sz (RFrom b R) e w b v xs) (hbs : xs.length * bs ≤ 140737488355328) : RSl sz R bs (View.from w.cell? b) v xs := by
  have hlt := h.lt
  obtain ⟨A, c, e1, q1, q2, q3, q4, q5⟩ := h.reads (RFrom.mono hR) hbs
  refine ⟨A, c, e1, q1, q2, q3, q4, fun hp => ?_⟩
  obtain ⟨g, o, ea, hc⟩ := q5 hp
  refine ⟨g, o, ea, fun i hi => ?_⟩
  have hg := (hlt g (by rw [e1, ea]; rfl)).1
  obtain ⟨cs, k1, k2, k3⟩ := hc i hi
  refine ⟨cs, k1, fun j hj => ?_, k3⟩
  unfold View.from
  rw [if_neg (by simp; omega)]
  exact k2 j hj
theorem OwnVec.reads_from {α : Type} {enc : α → Value} {bs base : Nat} {e : TypeId} {w : World} {v : Value} {xs : List α} (h : OwnVec enc e w base v xs) (hb : xs.length * bs ≤ 140737488355328) {b0 : Nat} (hb0 : b0 ≤ base) {g : Option Nat} (hg : ∀ k, g = some k → k < base) : RVec enc bs (View.from (View.but w.cell? g) b0) v xs := by
  have hlt := h.own.lt
  obtain ⟨A, c, e1, q1, q2, q3, q4, q5⟩ := h.reads_but hb hg
  refine ⟨A, c, e1, q1, q2, q3, q4, fun hp => ?_⟩
  obtain ⟨b, o, ea, hc⟩ := q5 hp
  refine ⟨b, o, ea, fun i hi => ?_⟩
  have hb' := (hlt b (by rw [e1, ea]; rfl)).1
  unfold View.from
  rw [if_neg (by simp; omega)]
  exact hc i hi
theorem OwnVec.from_ {α : Type} {enc : α → Value} {bs base : Nat} {e : TypeId} {w : World} {v : Value} {xs : List α} (h : OwnVec enc e w base v xs) (hb : xs.length * bs ≤ 140737488355328) {b0 : Nat} (hb0 : b0 ≤ base) : RVec enc bs (View.from w.cell? b0) v xs :=
  (h.reads_from hb hb0 (g := none) (by simp)).mono (vle_from _ (View.but_le _ _))
theorem RVec.len {α : Type} {enc : α → Value} {bs : Nat} {h : View} {v : Value} {xs : List α} (hr : RVec enc bs h v xs) : xs.length * bs ≤ 140737488355328 := by obtain ⟨A, c, _, _, _, h, _⟩ := hr; exact h

def RDig (h : View) (cs : List Value) (x : List UInt8) : Prop := ∃ d, cs = [d] ∧ RBytes h d x
theorem RDig.mono : Mono RDig := fun h h' cs x ⟨d, e, hd⟩ hle => ⟨d, e, RVec.mono hd hle⟩
abbrev RDigs := RSl 1 RDig 24
theorem elemDig : Elem Tryz.prog 63 41 1 24 := elemN (z := .slice none 0 0) Tryz.underlying63 (by kernel_rfl) rfl (by decide)
theorem RDigs.at {h : View} {A : Option Addr} {n c : Nat} {xs : List (List UInt8)} (hr : RDigs h (.slice A n c) xs) : n = xs.length ∧ n ≤ c ∧ n * 24 ≤ 140737488355328 ∧ ∀ k (hk : k < xs.length), ∃ b o d, A = some ⟨b, o, none⟩ ∧ h ⟨b, o + k, none⟩ = some d ∧ RBytes h d xs[k] := by
  obtain ⟨A', c', e, h1, _, h2, _, h3⟩ := hr
  injection e with e1 e2 e3
  subst e1 e2 e3
  refine ⟨rfl, h1, h2, fun k hk => ?_⟩
  obtain ⟨b, o, ea, hc⟩ := h3 (by omega)
  obtain ⟨cs, hl, hcell, d, rfl, hd⟩ := hc k hk
  have := hcell 0 (by omega)
  rw [Nat.mul_one, Nat.add_zero] at this
  exact ⟨b, o, d, ea, this, hd⟩
set_option maxHeartbeats 2000000 in
set_option maxRecDepth 100000 in
theorem bytesCopies_any (v : Value) (l : List (List UInt8)) (w : World) (hv : RDigs w.cell? v l) :
    Calls Tryz.prog 97 #[v] w fun e w' => ∃ v', e = .returned v' ∧ Below w.heap.size w w' ∧ OwnSl 1 (RFrom w.heap.size RDig) 41 w' w.heap.size v' l := by
  obtain ⟨A, c, rfl, _⟩ := id hv
  obtain ⟨_, hcap, hlen, hel⟩ := hv.at
  have Hel := Lib.hid hel
  clear hel hv
  go_enter Tryz.func97, Tryz.ntmps97
  go_wp2
  go_loopw [3, 4] (fun v i wr => ∃ k : Nat, k ≤ l.length ∧ i = .int .i64 k ∧ OwnSl 1 (RFrom w.heap.size RDig) 41 wr w.heap.size v (l.take k) ∧ Below w.heap.size w wr) (fun _ i _ => l.length - (intOf i).toNat)
  case atStart => exact ⟨0, Nat.zero_le _, rfl, OwnSl.nil _ _ _ _ _, Below.refl _ _⟩
  case round =>
    obtain ⟨k, hk, rfl, hown, hbl⟩ := hrel
    have hbs := hbl.size
    by_cases hlt : k < l.length
    · obtain ⟨b0, o0, d, rfl, e0, hd⟩ := Hel.out k hlt
      have c0 := vle_below hbl _ _ e0
      have hd' := hd.mono (vle_below hbl)
      have Hlk := Lib.hid (show (l.take k).length = k by simp; omega)
      have hdl := Lib.hid (show l[k].length * 1 ≤ 140737488355328 by obtain ⟨_, _, _, _, _, h, _⟩ := hd; exact h)
      clear e0 hd
      go_wp2_with fail
      refine (joined_any _ _ l[k] [] _ hd' (RVec.nil _ _ _) _ (Nat.le_refl _) (by simpa using hdl.out)).mono ?_
      rintro e w1 ⟨d', rfl, hb1, o1⟩
      rw [List.append_nil] at o1
      have hown1 := hown.kept (RFrom.mono RDig.mono) hb1
      have hbl1 : Below w.heap.size w w1 := hbl.trans (hb1.mono hbs)
      have hR : RFrom w.heap.size RDig (View.but w1.cell? u3.ownBlock) [d'] l[k] :=
        ⟨d', rfl, o1.reads_from hdl.out hbs (fun g hg => (hown.lt g hg).2)⟩
      have hs1 := hb1.size
      obtain ⟨A', c', rfl⟩ := o1.form
      clear c0 hd'
      go_wp2_with (at_builtin; go_loud (refine wpList_append_sl1 (n := 140737488355328) (RFrom.mono RDig.mono) l[k] [.slice A' l[k].length c'] elemDig _ _ rfl rfl rfl hown1 hbl1 (Nat.le_trans hbs hs1) rfl rfl rfl rfl hR (Nat.le_refl _) (by rw [Hlk.out]; omega) (by rw [Hlk.out]; omega) ?_))
      intro v' w2 ho hbl2 _
      have ho' : OwnSl 1 (RFrom w.heap.size RDig) 41 w2 w.heap.size v' (l.take (k + 1)) := by first | exact ho | (rw [List.take_succ_eq_append_getElem hlt]; exact ho)
      clear ho hown hown1
      go_wp2
      go_roundw
      case rel => exact ⟨k + 1, by omega, by go_num, ho', hbl2⟩
      case measure => simp [intOf]; omega
    · have : k = l.length := by omega
      subst this
      go_wp2
      go_ret
      exact ⟨_, rfl, hbl, by simpa using hown⟩
/-- the first fault in a list of digests -/
def digAt (l : List (List UInt8)) (i : Nat) : Int := match l[i]? with | some x => if x.length = 32 then (if (l.take i).any (· == x) then 7 else 0) else 4 | none => 0
def digsF (l : List (List UInt8)) : Int := match (List.range l.length).find? (fun i => digAt l i != 0) with | some i => digAt l i | none => 0
theorem digAt_len {l : List (List UInt8)} {k : Nat} (hk : k < l.length) (h : ¬ l[k].length = 32) : digAt l k = 4 := by
  unfold digAt; rw [List.getElem?_eq_getElem hk]; simp [h]
theorem digAt_twice {l : List (List UInt8)} {k : Nat} (hk : k < l.length) (h : l[k].length = 32) : digAt l k = if (l.take k).any (· == l[k]) then 7 else 0 := by
  unfold digAt; rw [List.getElem?_eq_getElem hk]; simp [h]
theorem digsF_found {l : List (List UInt8)} {k : Nat} {f : Int} (hk : k < l.length) (h : ∀ j, j < k → digAt l j = 0) (hf : digAt l k = f) (h0 : f ≠ 0) : digsF l = f := by
  have : (List.range l.length).find? (fun i => digAt l i != 0) = some k := by
    rw [List.find?_range_eq_some]
    exact ⟨by simp [hf, h0], List.mem_range.2 hk, fun j hj => by simp [h j hj]⟩
  unfold digsF
  simp only [this, hf]
theorem digsF_none {l : List (List UInt8)} (h : ∀ j, j < l.length → digAt l j = 0) : digsF l = 0 := by
  have : (List.range l.length).find? (fun i => digAt l i != 0) = none := by
    rw [List.find?_eq_none]
    intro x hx
    simp [h x (List.mem_range.1 hx)]
  unfold digsF
  simp only [this]
theorem zero_succ {p : Nat → Int} {k : Nat} (h : ∀ j, j < k → p j = 0) (hk : p k = 0) : ∀ j, j < k + 1 → p j = 0 := fun j hj => by
  rcases Nat.lt_or_ge j k with h1 | h1
  · exact h j h1
  · have : j = k := by omega
    subst this; exact hk
set_option maxHeartbeats 2000000 in
set_option maxRecDepth 100000 in
theorem digestsFault_any (v : Value) (l : List (List UInt8)) (w : World) (hv : RDigs w.cell? v l) :
    Calls Tryz.prog 189 #[v] w fun e w' => e = .returned (.int .i64 (digsF l)) ∧ Below w.heap.size w w' := by
  obtain ⟨A, c, rfl, _⟩ := id hv
  obtain ⟨_, hcap, hlen, hel⟩ := hv.at
  have Hel := Lib.hid hel
  clear hel hv
  go_enter Tryz.func189, Tryz.ntmps189
  go_wp2
  go_loopw [3] (fun i wr => ∃ k : Nat, k ≤ l.length ∧ i = .int .i64 k ∧ Hid (∀ j, j < k → digAt l j = 0) ∧ Below w.heap.size w wr) (fun i _ => l.length - (intOf i).toNat)
  case atStart => exact ⟨0, Nat.zero_le _, rfl, fun j hj => by omega, Below.refl _ _⟩
  case round =>
    obtain ⟨k, hk, rfl, hok, hbl⟩ := hrel
    by_cases hlt : k < l.length
    · obtain ⟨b0, o0, d, rfl, q0, hd⟩ := Hel.out k hlt
      obtain ⟨dA, dc, rfl, _⟩ := id hd
      have c0 := vle_below hbl _ _ q0
      by_cases h32 : l[k].length = 32
      · have Hd := Lib.hid hd
        have Hq0 := Lib.hid q0
        have Hat := Lib.hid (digAt_twice hlt h32)
        clear hd q0
        rw [h32] at c0
        obtain ⟨wo, hwo⟩ : ∃ wo : World, wo = wr := ⟨_, rfl⟩
        subst hwo
        go_wp2
        go_loopw [4] (fun i wi => ∃ m : Nat, m ≤ k ∧ i = .int .i64 m ∧ Hid (∀ j (hj : j < l.length), j < m → (l[j] == l[k]) = false) ∧ Below w.heap.size w wi) (fun i _ => k - (intOf i).toNat)
        case atStart => exact ⟨0, Nat.zero_le _, rfl, fun j _ hj => by omega, hbl⟩
        case round =>
          obtain ⟨m, hm, rfl, hno, hbl2⟩ := hrel
          by_cases hmk : m < k
          · have hml : m < l.length := by omega
            obtain ⟨b1, o1, d1, e1, p0, hd1⟩ := Hel.out m hml
            injection e1 with e1
            injection e1 with e1 e2
            subst e1 e2
            have c1 := vle_below hbl2 _ _ p0
            have c2 := vle_below hbl2 _ _ Hq0.out
            rw [h32] at c2
            have Hd1 := Lib.hid hd1
            clear hd1 p0
            cases ht : (l[m] == l[k])
            all_goals
              have Ht := Lib.hid ht
              go_wp2
              refine wp_region_plan (fun w' => Below wr.heap.size wr w') [(0, true), (1, true), (2, true), (3, true), (4, true), (5, true), (6, true), (7, true), (8, false)] (by kernel_rfl) (by kernel_rfl) (fun _ _ d _ _ h => by cases d <;> exact h) rfl (by kernel_rfl) ?_ ?_
              · exact below_drew _
              intro W1 hS
              repeat (first
                | (refine wpPlan_takes rfl rfl ?_; apply Exists.intro; refine ⟨fun w' hS => ?_, ?_⟩; (· (have h1 := vle_below hS _ _ c1; have h2 := vle_below hS _ _ c2; go_simp; exact rfl)); simp only [List.getElem_toArray, List.getElem_cons_zero, List.getElem_cons_succ, Act.put, List.setIfInBounds_toArray, List.set_cons_zero, List.set_cons_succ])
                | (refine wpPlan_skip (by assumption) rfl rfl ?_; simp only [List.getElem_toArray, List.getElem_cons_zero, List.getElem_cons_succ, Act.put, List.setIfInBounds_toArray, List.set_cons_zero, List.set_cons_succ]))
              refine wpPlan_do rfl rfl (fun K hK => ?_)
              try simp only [List.getElem_toArray, List.getElem_cons_zero, List.getElem_cons_succ]
              go_simp
              refine (sameBytes_any _ _ l[m] l[k] _ (Hd1.out.mono (vle_below (hbl2.trans (hS.mono hbl2.size)))) (by first | exact Hd.out.mono (vle_below (hbl2.trans (hS.mono hbl2.size))) | (have := Hd.out.mono (vle_below (hbl2.trans (hS.mono hbl2.size))); rw [h32] at this; exact this))).mono ?_
              rintro e w' ⟨rfl, rfl⟩
              simp only [ht]
              refine hK.out _ _ (hS) (fun hS => ?_)
              clear hK K
              try simp only [List.getElem_toArray, List.getElem_cons_zero, List.getElem_cons_succ, Act.put, List.setIfInBounds_toArray, List.set_cons_zero, List.set_cons_succ]
              repeat (first
                | (refine wpPlan_takes rfl rfl ?_; apply Exists.intro; refine ⟨fun w' hS => ?_, ?_⟩; (· (skip; go_simp; exact rfl)); simp only [List.getElem_toArray, List.getElem_cons_zero, List.getElem_cons_succ, Act.put, List.setIfInBounds_toArray, List.set_cons_zero, List.set_cons_succ])
                | (refine wpPlan_skip (by assumption) rfl rfl ?_; simp only [List.getElem_toArray, List.getElem_cons_zero, List.getElem_cons_succ, Act.put, List.setIfInBounds_toArray, List.set_cons_zero, List.set_cons_succ]))
              refine wpPlan_nil ?_
              go_wp2
            · go_roundw
              case rel => exact ⟨m + 1, by omega, by go_num, fun j hj hjk => by
                by_cases e : j = m
                · subst e; exact Ht.out
                · exact hno.out j hj (by omega), hbl2.trans (hS.mono hbl2.size)⟩
              case measure => simp [intOf]; omega
            · go_ret
              have hany : (l.take k).any (· == l[k]) = true := any_true_get (k := m) (by simp; omega) (by simpa using Ht.out)
              exact ⟨ret_int (digsF_found hlt hok.out (by rw [Hat.out, if_pos hany]) (by decide)).symm, hbl2.trans (hS.mono hbl2.size)⟩
          · go_wp2
            go_roundw
            case rel =>
              have hany : (l.take k).any (· == l[k]) = false := any_false_get fun j hj => by
                have := hno.out j (by simp at hj; omega) (by simp at hj; omega)
                simpa using this
              exact ⟨k + 1, by omega, by go_num, zero_succ hok.out (by rw [Hat.out, hany]; rfl), hbl2⟩
            case measure => simp [intOf]; omega
      · have Hat := Lib.hid (digAt_len hlt h32)
        clear hd q0
        go_wp2
        go_ret
        exact ⟨ret_int (digsF_found hlt hok.out Hat.out (by decide)).symm, hbl⟩
    · go_wp2
      go_ret
      exact ⟨ret_int (digsF_none fun j hj => hok.out j (by omega)).symm, hbl⟩
end Go.Proofs.YtbcoecmeoemmeaaGreatDoor
