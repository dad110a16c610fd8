/- Digits of sixteen, read: by the program and by the reference. -/
import Derived.Test.YtbcoecmeoemmeaaDoorLn9
namespace Go.Proofs.YtbcoecmeoemmeaaDoor
open Go.ChangeShapes Go.WideShapes Go.ChangeAt Go.RowKit
set_option linter.unusedVariables false
set_option linter.unusedSimpArgs false
namespace Ln
/-- a text out of digits, or none -/
def UnOut (o : Option (List UInt8)) (w : World) (e : Ending) (w' : World) : Prop := (∃ (x : ByteArray) (b : Bool), e = .returned (.tuple #[.string x, .bool b]) ∧ match o with | some t => x = mkS t ∧ b = true | none => b = false) ∧ Below w.heap.size w w'
theorem unout_no {o : Option (List UInt8)} {w w' : World} (x : ByteArray) (ho : o = none) (hb : Below w.heap.size w w') : UnOut o w (.returned (.tuple #[.string x, .bool false])) w' := ⟨⟨x, false, rfl, by rw [ho]⟩, hb⟩
theorem unout_yes {o : Option (List UInt8)} {w w' : World} {x : ByteArray} {t : List UInt8} (ho : o = some t) (hx : x = mkS t) (hb : Below w.heap.size w w') : UnOut o w (.returned (.tuple #[.string x, .bool true])) w' := ⟨⟨x, true, rfl, by rw [ho]; exact ⟨hx, rfl⟩⟩, hb⟩
def hexI (c : UInt8) : Int := match hexv c with | some k => (k : Int) | none => -1
theorem hexI_some {c : UInt8} {k : Nat} (h : hexv c = some k) : hexI c = k := by unfold hexI; rw [h]
theorem hexI_none {c : UInt8} (h : hexv c = none) : hexI c = -1 := by unfold hexI; rw [h]
theorem idx_digits (c : UInt8) (w : World) (z : Int) (hz : z = c.toNat) :
    Calls Tryd.prog 45 #[.string { data := #[48, 49, 50, 51, 52, 53, 54, 55, 56, 57, 97, 98, 99, 100, 101, 102] }, .int .u8 z] w fun e w' => e = .returned (.int .i64 (hexI c)) ∧ w' = w := by
  subst hz
  refine (strings_IndexByte _ _ w).mono ?_
  rintro e w' ⟨rfl, rfl⟩
  refine ⟨?_, rfl⟩
  have : ((c.toNat : Int).toNat.toUInt8) = c := by rw [Int.toNat_natCast]; exact UInt8.ofNat_toNat
  rw [this]
  exact ret_int (indexByte_digits c)
theorem hblS_len {a k n : Nat} (h1 : a ≤ k) (h2 : k ≤ n) (h3 : n ≤ 1048576) : a * 1 ≤ 140737488355328 := by omega
theorem or_val (a b : Nat) (ha : a < 16) (hb : b < 16) : bits BinOp.or IntKind.i64 ((a : Int) * 16) (b : Int) % 256 = ((UInt8.ofNat (16 * a + b)).toNat : Int) := by
  have h : ∀ x y : Fin 16, bits BinOp.or IntKind.i64 ((x.val : Int) * 16) (y.val : Int) % 256 = ((UInt8.ofNat (16 * x.val + y.val)).toNat : Int) := by decide +kernel
  exact h ⟨a, ha⟩ ⟨b, hb⟩
/-- two digits more -/
theorem un_step {l : List UInt8} {bs : List UInt8} {i : Nat} (h : unhexL l = (unhexL (l.drop i)).map (bs ++ ·)) (hi : i + 1 < l.length) {a b : Nat} (ha : hexv l[i] = some a) (hb : hexv l[i + 1] = some b) :
    unhexL l = (unhexL (l.drop (i + 2))).map ((bs ++ [UInt8.ofNat (16 * a + b)]) ++ ·) := by
  rw [h, unhex_step l i hi, ha, hb]
  cases unhexL (l.drop (i + 2)) <;> simp
theorem un_bad {l : List UInt8} {bs : List UInt8} {i : Nat} (h : unhexL l = (unhexL (l.drop i)).map (bs ++ ·)) (hi : i + 1 < l.length) (hn : hexv l[i] = none ∨ hexv l[i + 1] = none) : unhexL l = none := by
  rw [h, unhex_step l i hi]
  rcases hn with e | e
  · rw [e]; rfl
  · rw [e]
    cases hexv l[i] <;> rfl
set_option maxHeartbeats 4000000 in
set_option maxRecDepth 100000 in
theorem unhex_any (s : ByteArray) (hs : s.size ≤ 1048576) (w : World) : Calls Tryd.prog 35 #[.string s] w (UnOut (unhexL s.data.toList) w) := by
  have hll : s.data.toList.length = s.size := Array.length_toList
  obtain ⟨O, hO⟩ : ∃ O, Hid (unhexL s.data.toList = O) := ⟨_, rfl⟩
  rw [hO.out]
  have eq2 : (s.size : Int).tmod 2 = ((s.size % 2 : Nat) : Int) := (Int.ofNat_tmod _ 2).symm
  by_cases hodd : s.size % 2 = 1
  · have hn : O = none := by rw [← hO.out]; exact unhex_odd _ (by rw [hll]; exact hodd)
    have hz : (s.size : Int) % 2 = 1 := by omega
    clear hO eq2
    go_enter Tryd.func35, Tryd.ntmps35
    go_wp2
    go_ret2
    exact unout_no _ hn (Below.refl _ _)
  · have hz : (s.size : Int) % 2 = 0 := by omega
    have hz2 : s.size % 2 = 0 := by omega
    clear eq2 hodd
    go_enter Tryd.func35, Tryd.ntmps35
    go_wp2
    go_loopw [4, 5] (fun v i wr => ∃ (k : Nat) (bs : List UInt8), k ≤ s.size ∧ k % 2 = 0 ∧ i = .int .i64 k ∧ bs.length ≤ k ∧ OwnB wr w.heap.size v bs ∧ Hid (unhexL s.data.toList = (unhexL (s.data.toList.drop k)).map (bs ++ ·)) ∧ Below w.heap.size w wr) (fun _ i _ => s.size - (intOf i).toNat)
    case atStart => exact ⟨0, [], Nat.zero_le _, rfl, rfl, Nat.le_refl _, OwnVec.nil _ _ _ _, by show _ = _; simp, Below.refl _ _⟩
    case round =>
      clear hz
      obtain ⟨k, bs, hk, hk2, rfl, hbl2, ho, hH, hbl⟩ := hrel
      by_cases hlt : k < s.size
      · have hlt1 : k + 1 < s.size := by omega
        obtain ⟨ca, hca⟩ : ∃ c : UInt8, s[k] = c := ⟨_, rfl⟩
        obtain ⟨cb, hcb⟩ : ∃ c : UInt8, s[k + 1] = c := ⟨_, rfl⟩
        have e1 : s.data.toList[k]'(by rw [hll]; exact hlt) = ca := hca
        have e2 : s.data.toList[k + 1]'(by rw [hll]; exact hlt1) = cb := hcb
        have hst : Hid (∀ a b, hexv ca = some a → hexv cb = some b → unhexL s.data.toList = (unhexL (s.data.toList.drop (k + 2))).map ((bs ++ [UInt8.ofNat (16 * a + b)]) ++ ·)) := by
          intro a b ha hb
          exact un_step hH.out (by rw [hll]; exact hlt1) (by rw [e1]; exact ha) (by rw [e2]; exact hb)
        have hbd : Hid (hexv ca = none ∨ hexv cb = none → O = none) := by
          intro hq
          rw [← hO.out]
          exact un_bad hH.out (by rw [hll]; exact hlt1) (by rw [e1, e2]; exact hq)
        obtain ⟨k1, hk1⟩ : ∃ k1, Hid (k + 1 = k1) := ⟨_, rfl⟩
        have hlt2 : k1 < s.size := by have := hk1.out; omega
        have hcb' : s[k1] = cb := by rw [← hcb]; congr 1; exact hk1.out.symm
        have hwr : IntKind.i64.wrap ((k : Int) + 1) = (k1 : Int) := by rw [IntKind.wrap_i64]; have := hk1.out; omega
        clear e1 e2 hH hcb
        go_wp2_with fail
        refine wp_region_pl (fun w' => Below wr.heap.size wr w') [10] (.q 0 (.q 1 (.q 2 (.q 4 (.q 5 (.q 6 (.q 7 (.l 3 (.l 8 (.q 9 (.qc 10 .nil))))))))))) (by kernel_rfl) (by kernel_rfl) (fun _ _ d _ _ h => by cases d <;> exact h) rfl (by kernel_rfl) ?_ ?_
        · exact below_drew _
        intro W hS
        repeat (first
          | (refine pl_q (by assumption) rfl rfl ?_; apply Exists.intro; refine ⟨fun w' hS => ?_, ?_⟩; (· (skip; go_simp; exact rfl)); simp only [List.getElem_toArray, List.getElem_cons_zero, List.getElem_cons_succ, Act.put, List.setIfInBounds_toArray, List.set_cons_zero, List.set_cons_succ])
          | (refine pl_qc rfl rfl ?_; apply Exists.intro; refine ⟨fun w' _ => ?_, ?_⟩; (· (go_simp; exact rfl)); simp only [List.getElem_toArray, List.getElem_cons_zero, List.getElem_cons_succ, Act.put, List.setIfInBounds_toArray, List.set_cons_zero, List.set_cons_succ])
          | (refine pl_skip (by assumption) rfl rfl ?_; simp only [List.getElem_toArray, List.getElem_cons_zero, List.getElem_cons_succ, Act.put, List.setIfInBounds_toArray, List.set_cons_zero, List.set_cons_succ])
          | (refine pl_skipl (by assumption) rfl rfl ?_; simp only [List.getElem_toArray, List.getElem_cons_zero, List.getElem_cons_succ, Act.put, List.setIfInBounds_toArray, List.set_cons_zero, List.set_cons_succ]))
        first
          | refine pl_do rfl rfl (fun K hK => ?_)
          | refine op_do rfl rfl (fun K hK => ?_)
        try simp only [List.getElem_toArray, List.getElem_cons_zero, List.getElem_cons_succ]
        go_simp
        ((with_reducible refine (idx_digits ca _ _ rfl).mono ?_))
        rintro e w2 ⟨rfl, rfl⟩
        obtain ⟨VA, hVA⟩ : ∃ V, Hid (hexI ca = V) := ⟨_, rfl⟩
        rw [hVA.out]
        refine hK.out _ _ (hS) (fun hS => ?_)
        clear hK K
        try simp only [List.getElem_toArray, List.getElem_cons_zero, List.getElem_cons_succ, Act.put, List.setIfInBounds_toArray, List.set_cons_zero, List.set_cons_succ]
        first
          | refine pl_do rfl rfl (fun K hK => ?_)
          | refine op_do rfl rfl (fun K hK => ?_)
        try simp only [List.getElem_toArray, List.getElem_cons_zero, List.getElem_cons_succ]
        go_simp
        ((with_reducible refine (idx_digits cb _ _ rfl).mono ?_))
        rintro e w2 ⟨rfl, rfl⟩
        obtain ⟨VB, hVB⟩ : ∃ V, Hid (hexI cb = V) := ⟨_, rfl⟩
        rw [hVB.out]
        refine hK.out _ _ (hS) (fun hS => ?_)
        clear hK K
        try simp only [List.getElem_toArray, List.getElem_cons_zero, List.getElem_cons_succ, Act.put, List.setIfInBounds_toArray, List.set_cons_zero, List.set_cons_succ]
        repeat (first
          | (refine pl_q (by assumption) rfl rfl ?_; apply Exists.intro; refine ⟨fun w' hS => ?_, ?_⟩; (· (skip; go_simp; exact rfl)); simp only [List.getElem_toArray, List.getElem_cons_zero, List.getElem_cons_succ, Act.put, List.setIfInBounds_toArray, List.set_cons_zero, List.set_cons_succ])
          | (refine pl_qc rfl rfl ?_; apply Exists.intro; refine ⟨fun w' _ => ?_, ?_⟩; (· (go_simp; exact rfl)); simp only [List.getElem_toArray, List.getElem_cons_zero, List.getElem_cons_succ, Act.put, List.setIfInBounds_toArray, List.set_cons_zero, List.set_cons_succ])
          | (refine pl_skip (by assumption) rfl rfl ?_; simp only [List.getElem_toArray, List.getElem_cons_zero, List.getElem_cons_succ, Act.put, List.setIfInBounds_toArray, List.set_cons_zero, List.set_cons_succ])
          | (refine pl_skipl (by assumption) rfl rfl ?_; simp only [List.getElem_toArray, List.getElem_cons_zero, List.getElem_cons_succ, Act.put, List.setIfInBounds_toArray, List.set_cons_zero, List.set_cons_succ]))
        refine pl_nil ?_
        have ho2 := ho.kept hS
        have hblS := hbl.trans (hS.mono hbl.size)
        clear ho hS hbl
        cases ha : hexv ca with
        | none =>
          obtain rfl : -1 = VA := (hexI_none ha).symm.trans hVA.out
          have hn : O = none := hbd.out (.inl ha)
          clear hst hbd
          go_wp2
          go_ret2
          exact unout_no _ hn hblS
        | some va =>
          obtain rfl : (va : Int) = VA := (hexI_some ha).symm.trans hVA.out
          have hva := hexv_lt ha
          cases hb : hexv cb with
          | none =>
            obtain rfl : -1 = VB := (hexI_none hb).symm.trans hVB.out
            have hn : O = none := hbd.out (.inr hb)
            clear hst hbd
            go_wp2
            go_ret2
            exact unout_no _ hn hblS
          | some vb =>
            obtain rfl : (vb : Int) = VB := (hexI_some hb).symm.trans hVB.out
            have hvb := hexv_lt hb
            have hst2 := Lib.hid (hst.out va vb ha hb)
            clear hst hbd ha hb hVA hVB
            obtain ⟨cc, hcc⟩ : ∃ cc, Hid (UInt8.ofNat (16 * va + vb) = cc) := ⟨_, rfl⟩
            have hbv : bits BinOp.or IntKind.i64 ((va : Int) * 16) (vb : Int) % 256 = (cc.toNat : Int) := by rw [← hcc.out]; exact or_val va vb hva hvb
            rw [hcc.out] at hst2
            have hbs := hblS.size
            go_wp2_with (at_builtin; refine wpList_append_vec1 (n := 140737488355328) cc elemByte encB_one _ _ rfl rfl rfl ho2 hblS hbs rfl (Nat.le_refl _) (by omega) (by omega) ?_)
            intro v3 w3 ho3 hb3 _
            go_wp2
            go_roundw
            case rel => exact ⟨k + 2, bs ++ [cc], by omega, by omega, by go_num, by simp; omega, ho3, hst2, hb3⟩
            case measure => simp [intOf]; omega
      · have hke : k = s.size := by omega
        have hO2 : O = some bs := by
          rw [← hO.out, hH.out, hke, unhex_end _ _ (by rw [hll]; exact Nat.le_refl _)]
          simp
        have hbz := hblS_len hbl2 hk hs
        have ga := run_toStr (ho.reads (bs := 1) hbz)
        rw [mkS_bstr] at ga
        obtain ⟨U, hU⟩ : ∃ U, Hid (mkS bs = U) := ⟨_, rfl⟩
        rw [hU.out] at ga
        clear hH ho
        go_wp2
        go_ret2
        exact unout_yes hO2 hU.out.symm hbl
end Ln
end Go.Proofs.YtbcoecmeoemmeaaDoor
