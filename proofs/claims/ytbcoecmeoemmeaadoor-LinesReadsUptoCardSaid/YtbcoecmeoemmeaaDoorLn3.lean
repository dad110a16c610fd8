/- lines.Show: what it answers, at all acts. -/
import Derived.Test.YtbcoecmeoemmeaaDoorLn2
import Derived.Lib.AppendIntMem
namespace Go.Proofs.YtbcoecmeoemmeaaDoor
open Go.ChangeShapes Go.WideShapes Go.ChangeAt Go.RowKit
set_option linter.unusedVariables false
set_option linter.unusedSimpArgs false
namespace Ln
/-- acts in memory -/
def RAct : View → List Value → Ac → Prop := fun _ cs a => cs = [.int .i64 a.kind, .int .i64 a.node, .int .i64 a.pick, .string a.text]
theorem RAct.mono : ∀ (h h' : View) (cs : List Value) (x : Ac), RAct h cs x → VLe h h' → RAct h' cs x := fun _ _ _ _ r _ => r
abbrev RActs := RSl 4 RAct 40
theorem RActs.at {h : View} {v : Value} {xs : List Ac} (r : RActs h v xs) : ∃ A c, v = .slice A xs.length c ∧ xs.length ≤ c ∧ c ≤ maxLen ∧ xs.length ≤ 140737488355328 ∧ ∀ k (hk : k < xs.length), ∃ b o, A = some ⟨b, o, none⟩ ∧ h ⟨b, o + k * 4, none⟩ = some (.int .i64 xs[k].kind) ∧ h ⟨b, o + k * 4 + 1, none⟩ = some (.int .i64 xs[k].node) ∧ h ⟨b, o + k * 4 + 2, none⟩ = some (.int .i64 xs[k].pick) ∧ h ⟨b, o + k * 4 + 3, none⟩ = some (.string xs[k].text) := by
  obtain ⟨A, c, e, h1, h2, h3, _, h5⟩ := r
  refine ⟨A, c, e, h1, h2, by omega, fun k hk => ?_⟩
  obtain ⟨b, o, ea, hc⟩ := h5 (by omega)
  obtain ⟨cs, hl, hcell, hx⟩ := hc k hk
  have hx : cs = _ := hx
  subst hx
  exact ⟨b, o, ea, hcell 0 (by decide), hcell 1 (by decide), hcell 2 (by decide), hcell 3 (by decide)⟩
/-- the table of words -/
def Words (h : View) : Prop := ∀ k, k < 11 → h ⟨0, k, none⟩ = some (.string (mkS (wordL k)))
theorem Words.mono {h h' : View} (w : Words h) (hv : VLe h h') : Words h' := fun k hk => hv _ _ (w k hk)
/-- the table of powers of ten -/
def Pow (w : World) : Prop := Lib.TabIs Tryd.prog w "internal/strconv.uint64pow10" .u64 Lib.pow10Tab
theorem Pow.kept {w w' : World} (h : Pow w) (hb : Below w.heap.size w w') : Pow w' := Lib.tabBelow_of_tabIs h w' hb
theorem below_grow (w : World) (k : Nat) (os : Array Obj) : Below w.heap.size w (Sort.grow (w.drewN k) os) := by
  refine ⟨rfl, rfl, rfl, ?_, fun i hi => ?_⟩
  · simp [Sort.grow, World.drewN]
  · simp [Sort.grow, World.drewN, Array.getElem?_append, hi]
theorem itoa_any (n : Int) (h0 : 0 ≤ n) (h1 : n ≤ 9223372036854775807) (w : World) (hP : Pow w) :
    Calls Tryd.prog 14 #[.int .i64 n] w fun e w' => e = .returned (.string (mkS (decL n))) ∧ Below w.heap.size w w' := by
  refine (strconv_Itoa n (by omega) h1 w hP).mono ?_
  rintro e w' ⟨rfl, k, os, rfl⟩
  refine ⟨?_, below_grow w k os⟩
  unfold decL Lib.itoa
  rw [if_neg (by omega)]
  rfl
/-- a builder of the call's own, first of its blocks -/
def Sh (w0 : World) (w : World) (L : List UInt8) : Prop := Bld w w0.heap.size L ∧ Below w0.heap.size w0 w
theorem sh_ws {w0 w : World} {L : List UInt8} (h : Sh w0 w L) (s : ByteArray) (hl : L.length + s.size ≤ 140737488355328) :
    Calls Tryd.prog 13 #[.pointer (some ⟨w0.heap.size, 0, none⟩), .string s] w fun e w' => e = .returned (.tuple #[.int .i64 s.size, .nilIface]) ∧ Sh w0 w' (L ++ s.data.toList) ∧ Others w0.heap.size w w' := by
  refine (writeString_any _ _ s w h.1 hl).mono ?_
  rintro e w' ⟨rfl, h1, h2, h3⟩
  exact ⟨rfl, ⟨h1, h.2.trans h2⟩, h3⟩
theorem sh_it {w0 w : World} {L : List UInt8} (h : Sh w0 w L) (hP : Pow w0) (n : Int) (h0 : 0 ≤ n) (h1 : n ≤ 9223372036854775807) :
    Calls Tryd.prog 14 #[.int .i64 n] w fun e w' => e = .returned (.string (mkS (decL n))) ∧ Sh w0 w' L ∧ Others w0.heap.size w w' := by
  refine (itoa_any n h0 h1 w (hP.kept h.2)).mono ?_
  rintro e w' ⟨rfl, h2⟩
  exact ⟨rfl, ⟨h.1.kept h2, h.2.trans (h2.mono h.2.size)⟩, .below h2⟩
theorem sh_hx {w0 w : World} {L : List UInt8} (h : Sh w0 w L) (s : ByteArray) (hs : s.size ≤ 4000) :
    Calls Tryd.prog 15 #[.string s] w fun e w' => e = .returned (.string (mkS (hexL s.data.toList))) ∧ Sh w0 w' L ∧ Others w0.heap.size w w' := by
  refine (hex_any s w hs).mono ?_
  rintro e w' ⟨rfl, h2⟩
  exact ⟨rfl, ⟨h.1.kept h2, h.2.trans (h2.mono h.2.size)⟩, .below h2⟩
/-- what an act without a fault is -/
theorem act_fine {a : Ac} (h : actE a = 0) : 1 ≤ a.kind ∧ a.kind ≤ 10 ∧ (hN a.kind = true → 0 ≤ a.node ∧ a.node ≤ 3) ∧ (hP a.kind = true → 0 ≤ a.pick ∧ a.pick ≤ 400000) ∧ (hT a.kind = true → a.text.size ≤ 4000) := by
  unfold actE actF at h
  split at h
  · cases h
  · rename_i h1
    split at h
    · cases h
    · rename_i h2
      split at h
      · cases h
      · rename_i h3
        simp only [Bool.or_eq_true, Bool.and_eq_true, Bool.not_eq_true', not_or, not_and, Bool.not_eq_false, decide_eq_true_eq, inB] at h1 h2 h3
        refine ⟨by omega, by omega, fun q => ?_, fun q => ?_, fun q => ?_⟩
        · have := h2.1 q; omega
        · have := h2.2 q; omega
        · have := h3 q; omega
theorem wordL_len (k : Nat) : (wordL k).length ≤ 6 := by
  unfold wordL
  rcases Nat.lt_or_ge k 11 with h | h
  · have h0 : ∀ m : Fin 11, (((wordsL[m.val]?).getD []).length ≤ 6) := by decide
    exact h0 ⟨k, h⟩
  · rw [List.getElem?_eq_none (by exact h)]; decide
theorem decL_len (n : Int) (h : 0 ≤ n) : ((decL n).length : Int) ≤ n + 1 := by
  have := (canon_dec n.toNat).2.2.2
  unfold decL
  omega
theorem lineL_len {a : Ac} (h : actE a = 0) : (lineL a).length ≤ 500000 := by
  obtain ⟨_, _, h1, h2, h3⟩ := act_fine h
  have w1 := wordL_len a.kind.toNat
  unfold lineL
  simp only [List.length_append]
  have e1 : (if hN a.kind then 32 :: decL a.node else []).length ≤ 10 := by
    split
    · rename_i q
      have := decL_len a.node (h1 q).1
      have := h1 q
      simp; omega
    · simp
  have e2 : (if hP a.kind then 32 :: decL a.pick else []).length ≤ 400010 := by
    split
    · rename_i q
      have := decL_len a.pick (h2 q).1
      have := h2 q
      simp; omega
    · simp
  have e3 : (if hT a.kind then 32 :: hexL a.text.data.toList else []).length ≤ 8001 := by
    split
    · rename_i q
      have := h3 q
      have e : a.text.data.toList.length = a.text.size := Array.length_toList
      simp only [List.length_cons, hexL_len, e]; omega
    · simp
  simp only [List.length_singleton]
  omega
theorem showL_snoc (l : List Ac) (k : Nat) (h : k < l.length) : showL (l.take (k + 1)) = showL (l.take k) ++ lineL l[k] := by
  unfold showL
  rw [List.take_succ_eq_append_getElem h, List.flatMap_append]
  simp
theorem showL_len (l : List Ac) (h : ∀ a ∈ l, actE a = 0) : (showL l).length ≤ l.length * 500000 := by
  induction l with
  | nil => simp [showL]
  | cons a l ih =>
    have h1 := lineL_len (h a (by simp))
    have h2 := ih (fun x hx => h x (by simp [hx]))
    have : showL (a :: l) = lineL a ++ showL l := rfl
    rw [this, List.length_append, List.length_cons, Nat.add_mul]
    omega
theorem badI_at (l : List Ac) (k : Nat) (hk : k < l.length) (h : actE l[k] ≠ 0) (hn : ∀ j (hj : j < l.length), j < k → actE l[j] = 0) : badI l = k := by
  unfold badI
  rw [List.findIdx_eq hk]
  exact ⟨by simpa using h, fun j hj => by have := hn j (by omega) hj; simpa using this⟩
theorem badI_none (l : List Ac) (hn : ∀ j (hj : j < l.length), actE l[j] = 0) : badI l = l.length := by
  unfold badI
  rw [List.findIdx_eq_length]
  intro x hx
  obtain ⟨j, hj, rfl⟩ := List.getElem_of_mem hx
  simpa using hn j hj
end Ln
end Go.Proofs.YtbcoecmeoemmeaaDoor
