/- The reference's lines: Dec, hexDigit, actWord, actLine. -/
import Derived.Test.YtbcoecmeoemmeaaDoorLn4
import Derived.Test.YtbcoecmeoemmeaaDoorStr
import Derived.Test.YtbcoecmeoemmeaaDoorChg2
import Derived.Deep.DeepCutAuto
import Derived.Deep.CutBlock
namespace Go.Proofs.YtbcoecmeoemmeaaDoor
open Go.ChangeShapes Go.WideShapes Go.ChangeAt Go.RowKit
set_option linter.unusedVariables false
set_option linter.unusedSimpArgs false
namespace Ln
set_option maxHeartbeats 1000000 in
set_option maxRecDepth 100000 in
theorem hexDigit_any (n : Nat) (z : Int) (hz : z = n) (h : n < 16) (w : World) :
    Calls Tryd.prog 31 #[.int .i64 z] w fun e w' => e = .returned (.int .u8 (hexd n).toNat) ∧ w = w' := by
  subst hz
  by_cases hlt : n < 10
  · go_enter Tryd.func31, Tryd.ntmps31
    go_wp2
    go_ret
    refine ⟨?_, rfl⟩
    unfold hexd
    rw [if_pos hlt]
    refine ret_int ?_
    rw [UInt8.toNat_ofNat']
    omega
  · go_enter Tryd.func31, Tryd.ntmps31
    go_wp2
    go_ret
    refine ⟨?_, rfl⟩
    unfold hexd
    rw [if_neg hlt]
    refine ret_int ?_
    rw [UInt8.toNat_ofNat']
    omega
theorem mkS_bstr (l : List UInt8) : bstr l = mkS l := rfl
theorem one_byte_at (w : World) (g n : Nat) (z : Int) (hz : z = 48 + n) (hn : n < 10) (hc : w.cell? ⟨g, 0, none⟩ = some (.int .u8 z)) : (convert 33 9 (.slice (some ⟨g, 0, none⟩) 1 1)).run Tryd.prog w = .ok (.string (mkS [UInt8.ofNat (48 + n)])) w := by
  subst hz
  have he : Value.int .u8 (48 + (n : Int)) = encB (UInt8.ofNat (48 + n)) := by
    unfold encB
    rw [UInt8.toNat_ofNat']
    congr 1
    omega
  rw [he] at hc
  exact run_toStr (RVec.one _ hc (by decide))
theorem one_byte (w : World) (n : Nat) (z : Int) (hz : z = 48 + n) (hn : n < 10) : (convert 33 9 (.slice (some ⟨w.heap.size, 0, none⟩) 1 1)).run Tryd.prog (w.alloc (.cells #[.int .u8 z] 5)) = .ok (.string (mkS [UInt8.ofNat (48 + n)])) (w.alloc (.cells #[.int .u8 z] 5)) :=
  one_byte_at _ _ n z hz hn ((Blk.new w 5 #[.int .u8 z]).cell 0)
theorem mkS_append (a b : List UInt8) : mkS a ++ mkS b = mkS (a ++ b) := by
  apply ByteArray.ext
  rw [ByteArray.data_append]
  simp [mkS]
theorem decDigits_small {n : Nat} (h : n < 10) : Lib.decDigits n = [UInt8.ofNat (48 + n)] := by rw [Lib.decDigits, dif_pos h]
theorem decDigits_big {n : Nat} (h : ¬ n < 10) : Lib.decDigits n = Lib.decDigits (n / 10) ++ [UInt8.ofNat (48 + n % 10)] := by rw [Lib.decDigits, dif_neg h]
set_option maxHeartbeats 4000000 in
set_option maxRecDepth 100000 in
theorem dec_nat (n : Nat) : ∀ (w : World), n ≤ 400000 →
    Calls Tryd.prog 30 #[.int .i64 n] w fun e w' => e = .returned (.string (mkS (Lib.decDigits n))) ∧ Below w.heap.size w w' := by
  induction n using Nat.strongRecOn with
  | _ n ih =>
    intro w hn
    by_cases hlt : n < 10
    · have HD : Hid (Lib.decDigits n = [UInt8.ofNat (48 + n)]) := decDigits_small hlt
      obtain ⟨D, hD⟩ : ∃ D, Hid (Lib.decDigits n = D) := ⟨_, rfl⟩
      rw [hD.out] at HD ⊢
      clear ih hD
      obtain ⟨U, hU⟩ : ∃ U, Hid (mkS [UInt8.ofNat (48 + n)] = U) := ⟨_, rfl⟩
      have ga := one_byte w n _ rfl hlt
      rw [hU.out] at ga
      replace HD : Hid (mkS D = U) := by show _ = _; rw [HD.out, hU.out]
      clear hU
      go_enter Tryd.func30, Tryd.ntmps30
      go_wp2
      go_ret
      exact ⟨by rw [HD.out]; rfl, below_one _ _⟩
    · have ih2 := ih (n / 10) (by omega)
      have HD : Hid (Lib.decDigits n = Lib.decDigits (n / 10) ++ [UInt8.ofNat (48 + n % 10)]) := decDigits_big hlt
      have hdl := (canon_dec (n / 10)).2.2.2
      obtain ⟨D1, hD1⟩ : ∃ D, Hid (Lib.decDigits (n / 10) = D) := ⟨_, rfl⟩
      obtain ⟨D, hD⟩ : ∃ D, Hid (Lib.decDigits n = D) := ⟨_, rfl⟩
      rw [hD.out, hD1.out] at HD
      rw [hD1.out] at ih2 hdl
      rw [hD.out]
      obtain ⟨T, hT⟩ : ∃ T, Hid (mkS D1 = T) := ⟨_, rfl⟩
      rw [hT.out] at ih2
      have hTs : T.size ≤ 400001 := by rw [← hT.out, mkS_size]; omega
      have hfin : Hid (mkS D = T ++ mkS [UInt8.ofNat (48 + n % 10)]) := by show _ = _; rw [HD.out, ← hT.out, mkS_append]
      have hS1 : (mkS [UInt8.ofNat (48 + n % 10)]).size ≤ 1 := Nat.le_refl _
      obtain ⟨U, hU⟩ : ∃ U, Hid (mkS [UInt8.ofNat (48 + n % 10)] = U) := ⟨_, rfl⟩
      rw [hU.out] at hS1 hfin
      have e1 : (n : Int).tdiv 10 = ((n / 10 : Nat) : Int) := (Int.ofNat_tdiv n 10).symm
      have e2 : (n : Int).tmod 10 = ((n % 10 : Nat) : Int) := (Int.ofNat_tmod n 10).symm
      have e3 : IntKind.i64.wrap (48 + ((n % 10 : Nat) : Int)) = 48 + ((n % 10 : Nat) : Int) := by rw [IntKind.wrap_i64]; omega
      have e4 : IntKind.u8.wrap (48 + ((n % 10 : Nat) : Int)) = 48 + ((n % 10 : Nat) : Int) := by
        have : n % 10 < 10 := Nat.mod_lt _ (by decide)
        simp [IntKind.wrap, IntKind.signed, IntKind.bits]
        omega
      have hga : ∀ (W : World) (g : Nat), W.cell? ⟨g, 0, none⟩ = some (.int .u8 (48 + ((n % 10 : Nat) : Int))) → (convert 33 9 (.slice (some ⟨g, 0, none⟩) 1 1)).run Tryd.prog W = .ok (.string U) W := fun W g hc => by rw [← hU.out]; exact one_byte_at W g (n % 10) _ rfl (Nat.mod_lt _ (by decide)) hc
      have Hga := Lib.hid hga
      have Hih := Lib.hid ih2
      obtain ⟨m, hm⟩ : ∃ m, Hid (n % 10 = m) := ⟨_, rfl⟩
      obtain ⟨q, hq⟩ : ∃ q, Hid (n / 10 = q) := ⟨_, rfl⟩
      rw [hm.out] at e2 e3 e4 Hga
      rw [hq.out] at e1 Hih
      have e5 : IntKind.i64.wrap (q : Int) = (q : Int) := by rw [IntKind.wrap_i64]; have := hq.out; omega
      have hq10 : q < n := by have := hq.out; omega
      clear ih ih2 hga hD hD1 HD hT hdl hU
      go_enter Tryd.func30, Tryd.ntmps30
      go_upto_region 3 with fail
      refine wp_region_pl (fun w' => Below w.heap.size w w') [10] (.q 0 (.q 1 (.q 3 (.q 4 (.q 5 (.q 6 (.alt 2 (.l 7 (.l 8 (.q 9 (.qc 10 .nil)))) 7 (.alt 2 (.l 8 (.q 9 (.qc 10 .nil))) 8 (.l 2 (.q 9 (.qc 10 .nil)))))))))))  (by kernel_rfl) (by kernel_rfl) (fun _ _ d _ _ h => by cases d <;> exact h) rfl (by kernel_rfl) ?_ ?_
      · exact below_drew _
      intro W hS
      repeat (first
        | (refine pl_q (by assumption) rfl rfl ?_; apply Exists.intro; refine ⟨fun w' hS => ?_, ?_⟩; (· (skip; go_simp; exact rfl)); simp only [List.getElem_toArray, List.getElem_cons_zero, List.getElem_cons_succ, Act.put, List.setIfInBounds_toArray, List.set_cons_zero, List.set_cons_succ])
        | (refine pl_qc rfl rfl ?_; apply Exists.intro; refine ⟨fun w' _ => ?_, ?_⟩; (· (go_simp; exact rfl)); simp only [List.getElem_toArray, List.getElem_cons_zero, List.getElem_cons_succ, Act.put, List.setIfInBounds_toArray, List.set_cons_zero, List.set_cons_succ])
        | (refine pl_skip (by assumption) rfl rfl ?_; simp only [List.getElem_toArray, List.getElem_cons_zero, List.getElem_cons_succ, Act.put, List.setIfInBounds_toArray, List.set_cons_zero, List.set_cons_succ])
        | (refine pl_skipl (by assumption) rfl rfl ?_; simp only [List.getElem_toArray, List.getElem_cons_zero, List.getElem_cons_succ, Act.put, List.setIfInBounds_toArray, List.set_cons_zero, List.set_cons_succ]))
      have hsz : ¬ 9223372036854775807 < T.size + U.size := by omega
      refine pl_alt ?_ ?_
      · first
          | refine pl_do rfl rfl (fun K hK => ?_)
          | refine op_do rfl rfl (fun K hK => ?_)
        try simp only [List.getElem_toArray, List.getElem_cons_zero, List.getElem_cons_succ]
        go_simp
        refine (Hih.out _ (by omega)).mono ?_
        rintro e w2 ⟨rfl, hb2⟩
        have hb3 := hS.trans (hb2.mono hS.size)
        refine hK.out _ _ (hb3) (fun hS => ?_)
        clear hK K
        try simp only [List.getElem_toArray, List.getElem_cons_zero, List.getElem_cons_succ, Act.put, List.setIfInBounds_toArray, List.set_cons_zero, List.set_cons_succ]
        first
          | refine pl_do rfl rfl (fun K hK => ?_)
          | refine op_do rfl rfl (fun K hK => ?_)
        try simp only [List.getElem_toArray, List.getElem_cons_zero, List.getElem_cons_succ]
        go_simp
        refine hK.out _ _ (hb3.alloc (by have := hb3.size; omega) _) (fun hS => ?_)
        clear hK K
        try simp only [List.getElem_toArray, List.getElem_cons_zero, List.getElem_cons_succ, Act.put, List.setIfInBounds_toArray, List.set_cons_zero, List.set_cons_succ]
        have ga := Hga.out _ _ ((Blk.new w2 5 #[.int .u8 (48 + (m : Int))]).cell 0)
        first
          | refine pl_do rfl rfl (fun K hK => ?_)
          | refine op_do rfl rfl (fun K hK => ?_)
        try simp only [List.getElem_toArray, List.getElem_cons_zero, List.getElem_cons_succ]
        go_simp
        refine hK.out _ _ (hb3.alloc (by have := hb3.size; omega) _) (fun hS => ?_)
        clear hK K
        try simp only [List.getElem_toArray, List.getElem_cons_zero, List.getElem_cons_succ, Act.put, List.setIfInBounds_toArray, List.set_cons_zero, List.set_cons_succ]
        clear ga
        repeat (first
          | (refine pl_q (by assumption) rfl rfl ?_; apply Exists.intro; refine ⟨fun w' hS => ?_, ?_⟩; (· (skip; go_simp; exact rfl)); simp only [List.getElem_toArray, List.getElem_cons_zero, List.getElem_cons_succ, Act.put, List.setIfInBounds_toArray, List.set_cons_zero, List.set_cons_succ])
          | (refine pl_qc rfl rfl ?_; apply Exists.intro; refine ⟨fun w' _ => ?_, ?_⟩; (· (go_simp; exact rfl)); simp only [List.getElem_toArray, List.getElem_cons_zero, List.getElem_cons_succ, Act.put, List.setIfInBounds_toArray, List.set_cons_zero, List.set_cons_succ])
          | (refine pl_skip (by assumption) rfl rfl ?_; simp only [List.getElem_toArray, List.getElem_cons_zero, List.getElem_cons_succ, Act.put, List.setIfInBounds_toArray, List.set_cons_zero, List.set_cons_succ])
          | (refine pl_skipl (by assumption) rfl rfl ?_; simp only [List.getElem_toArray, List.getElem_cons_zero, List.getElem_cons_succ, Act.put, List.setIfInBounds_toArray, List.set_cons_zero, List.set_cons_succ]))
        refine pl_nil ?_
        go_wp2
        go_ret
        exact ⟨by rw [hfin.out]; rfl, hb3.alloc (by have := hb3.size; omega) _⟩
      · first
          | refine pl_do rfl rfl (fun K hK => ?_)
          | refine op_do rfl rfl (fun K hK => ?_)
        try simp only [List.getElem_toArray, List.getElem_cons_zero, List.getElem_cons_succ]
        go_simp
        have hb3 := hS.alloc (by have := hS.size; omega) (.cells #[.int .u8 (48 + (m : Int))] 5)
        have hk : (W.alloc (.cells #[.int .u8 (48 + (m : Int))] 5)).cell? ⟨W.heap.size, 0, none⟩ = some (.int .u8 (48 + (m : Int))) ∧ True := ⟨(Blk.new W 5 #[.int .u8 (48 + (m : Int))]).cell 0, trivial⟩
        refine hK.out _ _ (hb3) (fun hS => ?_)
        clear hK K
        try simp only [List.getElem_toArray, List.getElem_cons_zero, List.getElem_cons_succ, Act.put, List.setIfInBounds_toArray, List.set_cons_zero, List.set_cons_succ]
        refine pl_alt ?_ ?_
        · first
            | refine pl_do rfl rfl (fun K hK => ?_)
            | refine op_do rfl rfl (fun K hK => ?_)
          try simp only [List.getElem_toArray, List.getElem_cons_zero, List.getElem_cons_succ]
          go_simp
          refine (Hih.out _ (by omega)).mono ?_
          rintro e w2 ⟨rfl, hb2⟩
          have hb4 := hb3.trans (hb2.mono hb3.size)
          have ga := Hga.out _ _ (vle_below hb2 _ _ hk.1)
          refine hK.out _ _ (hb4) (fun hS => ?_)
          clear hK K
          try simp only [List.getElem_toArray, List.getElem_cons_zero, List.getElem_cons_succ, Act.put, List.setIfInBounds_toArray, List.set_cons_zero, List.set_cons_succ]
          first
            | refine pl_do rfl rfl (fun K hK => ?_)
            | refine op_do rfl rfl (fun K hK => ?_)
          try simp only [List.getElem_toArray, List.getElem_cons_zero, List.getElem_cons_succ]
          go_simp
          refine hK.out _ _ (hb4) (fun hS => ?_)
          clear hK K
          try simp only [List.getElem_toArray, List.getElem_cons_zero, List.getElem_cons_succ, Act.put, List.setIfInBounds_toArray, List.set_cons_zero, List.set_cons_succ]
          clear ga
          repeat (first
            | (refine pl_q (by assumption) rfl rfl ?_; apply Exists.intro; refine ⟨fun w' hS => ?_, ?_⟩; (· (skip; go_simp; exact rfl)); simp only [List.getElem_toArray, List.getElem_cons_zero, List.getElem_cons_succ, Act.put, List.setIfInBounds_toArray, List.set_cons_zero, List.set_cons_succ])
            | (refine pl_qc rfl rfl ?_; apply Exists.intro; refine ⟨fun w' _ => ?_, ?_⟩; (· (go_simp; exact rfl)); simp only [List.getElem_toArray, List.getElem_cons_zero, List.getElem_cons_succ, Act.put, List.setIfInBounds_toArray, List.set_cons_zero, List.set_cons_succ])
            | (refine pl_skip (by assumption) rfl rfl ?_; simp only [List.getElem_toArray, List.getElem_cons_zero, List.getElem_cons_succ, Act.put, List.setIfInBounds_toArray, List.set_cons_zero, List.set_cons_succ])
            | (refine pl_skipl (by assumption) rfl rfl ?_; simp only [List.getElem_toArray, List.getElem_cons_zero, List.getElem_cons_succ, Act.put, List.setIfInBounds_toArray, List.set_cons_zero, List.set_cons_succ]))
          refine pl_nil ?_
          go_wp2
          go_ret
          exact ⟨by rw [hfin.out]; rfl, hb4⟩
        · first
            | refine pl_do rfl rfl (fun K hK => ?_)
            | refine op_do rfl rfl (fun K hK => ?_)
          try simp only [List.getElem_toArray, List.getElem_cons_zero, List.getElem_cons_succ]
          have ga := Hga.out _ _ hk.1
          go_simp
          refine hK.out _ _ (hb3) (fun hS => ?_)
          clear hK K
          try simp only [List.getElem_toArray, List.getElem_cons_zero, List.getElem_cons_succ, Act.put, List.setIfInBounds_toArray, List.set_cons_zero, List.set_cons_succ]
          clear ga
          first
            | refine pl_do rfl rfl (fun K hK => ?_)
            | refine op_do rfl rfl (fun K hK => ?_)
          try simp only [List.getElem_toArray, List.getElem_cons_zero, List.getElem_cons_succ]
          go_simp
          refine (Hih.out _ (by omega)).mono ?_
          rintro e w2 ⟨rfl, hb2⟩
          have hb4 := hb3.trans (hb2.mono hb3.size)
          refine hK.out _ _ (hb4) (fun hS => ?_)
          clear hK K
          try simp only [List.getElem_toArray, List.getElem_cons_zero, List.getElem_cons_succ, Act.put, List.setIfInBounds_toArray, List.set_cons_zero, List.set_cons_succ]
          repeat (first
            | (refine pl_q (by assumption) rfl rfl ?_; apply Exists.intro; refine ⟨fun w' hS => ?_, ?_⟩; (· (skip; go_simp; exact rfl)); simp only [List.getElem_toArray, List.getElem_cons_zero, List.getElem_cons_succ, Act.put, List.setIfInBounds_toArray, List.set_cons_zero, List.set_cons_succ])
            | (refine pl_qc rfl rfl ?_; apply Exists.intro; refine ⟨fun w' _ => ?_, ?_⟩; (· (go_simp; exact rfl)); simp only [List.getElem_toArray, List.getElem_cons_zero, List.getElem_cons_succ, Act.put, List.setIfInBounds_toArray, List.set_cons_zero, List.set_cons_succ])
            | (refine pl_skip (by assumption) rfl rfl ?_; simp only [List.getElem_toArray, List.getElem_cons_zero, List.getElem_cons_succ, Act.put, List.setIfInBounds_toArray, List.set_cons_zero, List.set_cons_succ])
            | (refine pl_skipl (by assumption) rfl rfl ?_; simp only [List.getElem_toArray, List.getElem_cons_zero, List.getElem_cons_succ, Act.put, List.setIfInBounds_toArray, List.set_cons_zero, List.set_cons_succ]))
          refine pl_nil ?_
          go_wp2
          go_ret
          exact ⟨by rw [hfin.out]; rfl, hb4⟩
end Ln
end Go.Proofs.YtbcoecmeoemmeaaDoor
