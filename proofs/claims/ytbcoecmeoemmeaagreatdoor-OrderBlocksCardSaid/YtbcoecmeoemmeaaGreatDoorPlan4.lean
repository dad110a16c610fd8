/- Plans whose closing operations may wait for what is read through others. -/
import Derived.Test.YtbcoecmeoemmeaaGreatDoorChg2
namespace Go.Proofs.YtbcoecmeoemmeaaGreatDoor
open Go.ChangeShapes Go.WideShapes Go.ChangeAt Go.RowKit
set_option linter.unusedVariables false
section
variable {P : Program} {ops : Array Oper} {Q : Exit → Act → World → Prop} {S : World → Prop} {C : List Nat}
/-- does j wait for i, through n others at most? -/
def reachB (ops : Array Oper) : Nat → Nat → Nat → Bool
  | 0, _, _ => false
  | n + 1, j, i => match ops[j]? with
    | some o => o.after.any fun e => Region.binds .any e && (e.on == i || reachB ops n e.on i)
    | none => false
/-- what is listed has all listed that it waits for -/
def Cl (ops : Array Oper) (x : Array Bool) : Prop := ∀ j oj, ops[j]? = some oj → x.getD j false = true → ∀ e ∈ oj.after, Region.binds .any e = true → x.getD e.on false = true
theorem reach_listed {x : Array Bool} (hcl : Cl ops x) : ∀ (n j i : Nat), reachB ops n j i = true → (∀ o, ops[j]? = some o → ∀ e ∈ o.after, Region.binds .any e = true → x.getD e.on false = true) → x.getD i false = true
  | 0, _, _, h, _ => by simp [reachB] at h
  | n + 1, j, i, h, hd => by
    unfold reachB at h
    split at h
    · rename_i o ho
      obtain ⟨k, hk, h1⟩ := Array.any_eq_true.1 h
      simp only [Bool.and_eq_true, Bool.or_eq_true, beq_iff_eq] at h1
      have hl := hd o ho _ (Array.getElem_mem hk) h1.1
      rcases h1.2 with h2 | h2
      · rw [← h2]; exact hl
      · exact reach_listed hcl n _ i h2 (fun o' ho' e he hb => hcl _ o' ho' hl e he hb)
    · cases h
theorem cl_set {x : Array Bool} (hcl : Cl ops x) {j : Nat} (hj : j ∈ Region.ready .any ops x) : Cl ops (x.setIfInBounds j true) := fun k ok hk hl e he hb => by
  obtain ⟨_, oj, hoj, hall⟩ := mem_ready.1 hj
  by_cases hkj : k = j
  · subst hkj
    obtain rfl := Option.some.inj (hk.symm.trans hoj)
    exact getD_set_true (hall e he hb)
  · rw [getD_set_ne false (Ne.symm hkj)] at hl
    exact getD_set_true (hcl k ok hk hl e he hb)
theorem cl_start (n : Nat) : Cl ops (Array.replicate n false) := fun j oj hj hl => by
  simp [Array.getElem?_replicate] at hl
  split at hl <;> simp_all
theorem wpC_first2 {T : World → Prop} {i : Nat} {oi : Oper} {v : Value} (m : Nat) (hi : ops[i]? = some oi) (hsel : ∀ (j : Nat) (o : Oper) cs b, ops[j]? = some o → o.op ≠ .select cs b)
    (hQ : ∀ c a w, Q (.panic c) (a.put oi.dst v) w → Q (.panic c) a w)
    (hT : ∀ j oj w, ops[j]? = some oj → reachB ops m j i = false → (j ∉ C → S w) → T w) (hiC : i ∉ C → ∀ w, T w → S w) :
    ∀ (fuel : Nat) (listed : Array Bool) (a : Act) (w : World), Cl ops listed →
      (∀ j oj, ops[j]? = some oj → j ≠ i → listed.getD j true = false → (∀ e ∈ oj.after, Region.binds .any e = true → e.on ≠ i) → oi.apart ops oj = true) →
      i ∈ Region.ready .any ops listed → YieldsIf P ops T oi v a → T w →
      wpC P ops Q S C fuel (listed.setIfInBounds i true) (a.put oi.dst v) w → wpC P ops Q S C (fuel + 1) listed a w := by
  intro fuel
  induction fuel with
  | zero =>
    intro listed a w _ _ hr hy hTw H
    refine ⟨fun h => (by rw [h] at hr; cases hr), fun j hj => ?_⟩
    by_cases hji : j = i
    · subst hji; exact hy.wpOp hi hTw ⟨fun hn => hiC hn w hTw, H⟩
    · have := ready_mono hj hji
      rw [H.1] at this
      cases this
  | succ fuel ih =>
    intro listed a w hcl hfree hr hy hTw H
    refine ⟨fun h => (by rw [h] at hr; cases hr), fun j hj => ?_⟩
    by_cases hji : j = i
    · subst hji; exact hy.wpOp hi hTw ⟨fun hn => hiC hn w hTw, H⟩
    · have h1 := H.2 j (ready_mono hj hji)
      obtain ⟨hjun, oj, hoj, hall⟩ := mem_ready.1 hj
      have hiun : listed.getD i false = true → False := fun h1 => by
        have h0 := (mem_ready.1 hr).1
        rcases Nat.lt_or_ge i listed.size with h' | h'
        · simp [h'] at h0 h1; rw [h0] at h1; cases h1
        · simp [Array.getElem?_eq_none h'] at h1
      have hnot : ∀ e ∈ oj.after, Region.binds .any e = true → e.on ≠ i := fun e he hb heq => hiun (by rw [← heq]; exact hall e he hb)
      have hreach : reachB ops m j i = false := by
        cases hr' : reachB ops m j i
        · rfl
        · exact (hiun (reach_listed hcl m j i hr' (fun o ho e he hb => by obtain rfl := Option.some.inj (ho.symm.trans hoj); exact hall e he hb))).elim
      have h2 := wpOp_putIf hoj (hfree j oj hoj hji hjun hnot) (fun cs b => hsel i oi cs b hi) (fun cs b => hsel j oj cs b hoj) hQ hy h1
      have hfree' : ∀ k ok, ops[k]? = some ok → k ≠ i → (listed.setIfInBounds j true).getD k true = false →
          (∀ e ∈ ok.after, Region.binds .any e = true → e.on ≠ i) → oi.apart ops ok = true := fun k ok hk hki hun hno => by
        refine hfree k ok hk hki ?_ hno
        by_cases hjk : j = k
        · subst hjk; exact hjun
        · rw [getD_set_ne true hjk] at hun; exact hun
      refine wpOp_mono (fun a' w' h3 => ⟨h3.2.1, ih (listed.setIfInBounds j true) a' w' (cl_set hcl hj) hfree' (ready_mono hr (Ne.symm hji)) h3.1 (hT j oj w' hoj hreach h3.2.1) ?_⟩) h2
      rw [Array.setIfInBounds_comm _ _ hji]
      exact h3.2.2
def closeOk2 (ops : Array Oper) (C : List Nat) (i : Nat) : Bool := C.all fun j => reachB ops 3 j i
def Pl.ok2 (ops : Array Oper) (C : List Nat) : Pl → Array Bool → Bool
  | .nil, x => (Region.ready .any ops x).isEmpty
  | .q i p, x => Region.free .any ops x i && (Region.ready .any ops x).contains i && closeOk2 ops C i && !C.contains i && p.ok2 ops C (x.setIfInBounds i true)
  | .qc i p, x => Region.free .any ops x i && (Region.ready .any ops x).contains i && C.contains i && p.ok2 ops C (x.setIfInBounds i true)
  | .l i p, x => Region.ready .any ops x == [i] && p.ok2 ops C (x.setIfInBounds i true)
  | .alt i p j r, x => Region.ready .any ops x == [i, j] && p.ok2 ops C (x.setIfInBounds i true) && r.ok2 ops C (x.setIfInBounds j true) && p.fuel == r.fuel
theorem Pl.sound2 (hs : Region.noSelect ops = true) (hQ : ∀ c a d v w, Q (.panic c) (Act.put a d v) w → Q (.panic c) a w) :
    ∀ (t : Pl) (x : Array Bool) (a : Act) (w : World), Cl ops x → t.ok2 ops C x = true → t.wp P ops Q S C a w → wpC P ops Q S C t.fuel x a w
  | .nil, x, a, w, _, hp, h => ⟨by simpa [Pl.ok2] using hp, h⟩
  | .q i p, x, a, w, hcl, hp, h => by
    obtain ⟨o, v, ho, hy, hSw, hr⟩ := h
    simp only [Pl.ok2, Bool.and_eq_true, Bool.not_eq_true'] at hp
    obtain ⟨⟨⟨⟨h1, h2⟩, h3⟩, h4⟩, h5⟩ := hp
    have hm : i ∈ Region.ready .any ops x := by simpa using h2
    refine wpC_first2 (T := S) 3 ho (Region.noSelect_spec hs) (fun c a w => hQ c a o.dst v w) (fun j oj w' hj hno hS => hS (fun hm => ?_)) (fun _ _ h => h) p.fuel x a w hcl (Region.free_spec ho h1) hm hy hSw (Pl.sound2 hs hQ p _ _ w (cl_set hcl hm) h5 hr)
    have := List.all_eq_true.1 h3 j hm
    rw [hno] at this
    cases this
  | .qc i p, x, a, w, hcl, hp, h => by
    obtain ⟨o, v, ho, hy, hr⟩ := h
    simp only [Pl.ok2, Bool.and_eq_true] at hp
    obtain ⟨⟨⟨h1, h2⟩, h3⟩, h5⟩ := hp
    have hm : i ∈ Region.ready .any ops x := by simpa using h2
    refine wpC_first2 (T := fun _ => True) 3 ho (Region.noSelect_spec hs) (fun c a w => hQ c a o.dst v w) (fun _ _ _ _ _ _ => trivial) (fun hn _ _ => absurd (by simpa using h3) hn) p.fuel x a w hcl (Region.free_spec ho h1) hm hy trivial (Pl.sound2 hs hQ p _ _ w (cl_set hcl hm) h5 hr)
  | .l i p, x, a, w, hcl, hp, h => by
    simp only [Pl.ok2, Bool.and_eq_true, beq_iff_eq] at hp
    refine ⟨fun h0 => by rw [h0] at hp; exact absurd hp.1 (by simp), fun j hj => ?_⟩
    have hj' := hj
    rw [hp.1] at hj
    rw [List.mem_singleton.1 hj]
    rw [List.mem_singleton.1 hj] at hj'
    exact wpOp_mono (fun a' w' hK => ⟨owed_out hK.1, Pl.sound2 hs hQ p _ a' w' (cl_set hcl hj') hp.2 hK.2⟩) h
  | .alt i p j r, x, a, w, hcl, hp, h => by
    simp only [Pl.ok2, Bool.and_eq_true, beq_iff_eq] at hp
    obtain ⟨⟨⟨h1, h2⟩, h3⟩, h4⟩ := hp
    refine ⟨fun h0 => by rw [h0] at h1; exact absurd h1 (by simp), fun k hk => ?_⟩
    have hk' := hk
    rw [h1] at hk
    simp only [List.mem_cons, List.not_mem_nil, or_false] at hk
    rcases hk with rfl | rfl
    · exact wpOp_mono (fun a' w' hK => ⟨owed_out hK.1, Pl.sound2 hs hQ p _ a' w' (cl_set hcl hk') h2 hK.2⟩) h.1
    · exact wpOp_mono (fun a' w' hK => ⟨owed_out hK.1, by have := Pl.sound2 hs hQ r _ a' w' (cl_set hcl hk') h3 hK.2; rw [← h4] at this; exact this⟩) h.2
theorem wp_region_p2 {id : Nat} {l : List Oper} {a : Act} {w : World} (S0 S : World → Prop) (C : List Nat) (t : Pl) (hm : P.follows .mixedOrders = true) (hs : Region.noSelect l.toArray = true)
    (hQ : ∀ c a d v w, Q (.panic c) (Act.put a d v) w → Q (.panic c) a w) (hlen : t.fuel = l.length) (hπ : t.ok2 l.toArray C (Array.replicate l.length false) = true) (hS : S0 w.drew ∧ S w.drew)
    (h : ∀ W, S0 W → S W → t.wp P l.toArray Q S C a W) : (Code.region id l.toArray true).wp P Q a w := by
  refine wp_region_any hm (wpAny_of_C (S := S) (C := C) _ _ _ _ ?_)
  have := Pl.sound2 (P := P) (S := S) (C := C) hs hQ t (Array.replicate l.length false) a w.drew (cl_start _) hπ (h _ hS.1 hS.2)
  rw [hlen] at this
  simpa using this
end
end Go.Proofs.YtbcoecmeoemmeaaGreatDoor
