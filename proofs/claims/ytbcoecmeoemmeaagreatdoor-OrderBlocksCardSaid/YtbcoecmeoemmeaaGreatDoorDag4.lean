/- Dags: the document's DagFault, the program's Check. -/
import Derived.Test.YtbcoecmeoemmeaaGreatDoorDag3
namespace Go.Proofs.YtbcoecmeoemmeaaGreatDoor
open Go.ChangeShapes Go.WideShapes Go.ChangeAt Go.RowKit
set_option linter.unusedVariables false
set_option linter.unusedSimpArgs false
theorem badC_at {l : List Crt} {k : Nat} (hk : k < l.length) : badC hD l k = (taken (l.take k) l[k].hdr || decide (parF (l.take k) ((dsOf hD l).take k) l[k].hdr ≠ 0)) := by
  unfold badC; rw [List.getElem?_eq_getElem hk]
theorem parF_ne (l : List Crt) (ds : List (List UInt8)) (h : Hdr) : decide (parF l ds h ≠ 0) = (missW l ds h || decide (0 < (missN ds h).length)) := by
  unfold parF
  cases missW l ds h
  · simp only [Bool.false_eq_true, if_false, Bool.false_or]
    by_cases hz : (missN ds h).length = 0
    · rw [if_pos hz, hz]; decide
    · rw [if_neg hz]
      have : 0 < (missN ds h).length := by omega
      simp [this]
  · simp
theorem RSl.weak {α : Type} {sz bs : Nat} {R R' : View → List Value → α → Prop} (hR : ∀ h cs x, R h cs x → R' h cs x) {h : View} {v : Value} {xs : List α} (hr : RSl sz R bs h v xs) : RSl sz R' bs h v xs := by
  obtain ⟨A, c, e, h1, h2, h3, h4, h5⟩ := hr
  refine ⟨A, c, e, h1, h2, h3, h4, fun hp => ?_⟩
  obtain ⟨b, o, ea, hc⟩ := h5 hp
  exact ⟨b, o, ea, fun i hi => by obtain ⟨cs, k1, k2, k3⟩ := hc i hi; exact ⟨cs, k1, k2, hR _ _ _ k3⟩⟩
theorem certI_cases (l : List Crt) (a r : Int) : (certI l a r = -1 ∧ l.any (isCert a r) = false) ∨ ∃ k : Nat, certI l a r = k ∧ l.any (isCert a r) = true := by
  rcases idxI_cases (isCert a r) l with ⟨h1, h2⟩ | ⟨k, hk, h1, h2, _⟩
  · exact .inl ⟨h1, h2⟩
  · exact .inr ⟨k, h1, List.any_eq_true.2 ⟨_, List.getElem_mem hk, h2⟩⟩
theorem dsOf_len (l : List Crt) : (dsOf hD l).length = l.length := by unfold dsOf; simp
theorem dagF_big {l : List Crt} (h : 400 < l.length) : dagF hD cF l = 12 := by unfold dagF; rw [if_pos h]
theorem dagF_cert {l : List Crt} (h : ¬ 400 < l.length) {k : Nat} (hk : k < l.length) (hc : cF l[k] ≠ 0) : dagF hD cF l = 12 := by
  unfold dagF
  rw [if_neg h, if_pos (List.any_eq_true.2 ⟨l[k], List.getElem_mem hk, by simp [hc]⟩)]
theorem all_valid {l : List Crt} (h : ∀ j (hj : j < l.length), cF l[j] = 0) : ∀ c ∈ l, cF c = 0 := fun c hc => by
  obtain ⟨i, hi, rfl⟩ := List.getElem_of_mem hc
  exact h i hi
theorem dagF_rest {l : List Crt} (h : ¬ 400 < l.length) (hv : ∀ c ∈ l, cF c = 0) : dagF hD cF l = if (List.range l.length).any (badC hD l) then 12 else 0 := by
  unfold dagF
  rw [if_neg h, if_neg]
  rw [Bool.not_eq_true, List.any_eq_false]
  intro c hc
  simp [hv c hc]
set_option maxHeartbeats 4000000 in
set_option maxRecDepth 100000 in
theorem dagFault_any (vl : Value) (l : List Crt) (w : World) (hl : RCrts w.cell? vl l) :
    Calls Tryz.prog 60 #[.agg #[vl]] w fun e w' => e = .returned (.int .i64 (dagF hD cF l)) ∧ Below w.heap.size w w' := by
  obtain ⟨A, c, rfl, hform⟩ := id hl
  obtain ⟨_, hn1, hn2, hel⟩ := hl.at
  have Hel := Lib.hid hel
  have Hl := Lib.hid hl
  clear hel hl hform
  obtain ⟨Q, hQ⟩ : ∃ Q, Hid (dagF hD cF l = Q) := ⟨_, rfl⟩
  rw [hQ.out]
  by_cases hbig : 400 < l.length
  · have HQ : Hid (Q = 12) := by show _ = _; rw [← hQ.out, dagF_big hbig]
    clear hQ
    go_enter Tryz.func60, Tryz.ntmps60
    go_wp2
    go_ret
    exact ⟨ret_int HQ.out.symm, below_one _ _⟩
  have Hbig := Lib.hid hbig
  have hn4 : l.length ≤ 400 := by omega
  clear hbig
  go_enter Tryz.func60, Tryz.ntmps60
  go_upto_region 1 with fail
  refine one_block _ _ _ (fun W => Code.wp _ _ _ _ W) (fun W hbk hsz hbW => ?_)
  have hzW := hbW.size
  clear hsz
  have g0 := hbk.cell 0
  simp at g0
  go_wp2
  go_loopw [3] (fun i wr => ∃ k : Nat, k ≤ l.length ∧ i = .int .i64 k ∧ Hid (∀ j (hj : j < l.length), j < k → cF l[j] = 0) ∧ Below W.heap.size W wr) (fun i _ => l.length - (intOf i).toNat)
  case atStart => exact ⟨0, Nat.zero_le _, rfl, fun j _ hj => by omega, Below.refl _ _⟩
  case round =>
    clear g0
    obtain ⟨k, hk, rfl, hok, hbl⟩ := hrel
    have hbk' := hbk.kept hbl
    have g0 := hbk'.cell 0
    simp at g0
    have hblw := hbW.trans (hbl.mono hzW)
    by_cases hlt : k < l.length
    · obtain ⟨b0, o0, vb, vp, vv, rfl, q0, q1, q2, q3, q4, hb, hp, hv⟩ := Hel.out k hlt
      have c0 := vle_below hblw _ _ q0; have c1 := vle_below hblw _ _ q1; have c2 := vle_below hblw _ _ q2; have c3 := vle_below hblw _ _ q3; have c4 := vle_below hblw _ _ q4
      have hb' := Lib.hid (hb.mono RDig.mono (vle_below hblw))
      have hp' := Lib.hid (hp.mono RDig.mono (vle_below hblw))
      have hv' := Lib.hid (hv.mono (vle_below hblw))
      have hx : Hid (∀ e, cF l[k] = e → certF l[k].hdr.author l[k].hdr.round l[k].hdr.batches l[k].hdr.parents l[k].voters = e) := fun e h => h
      have hbadQ : Hid (cF l[k] ≠ 0 → Q = 12) := fun h => by rw [← hQ.out]; exact dagF_cert Hbig.out hlt h
      have hnext : Hid (cF l[k] = 0 → ∀ j (hj : j < l.length), j < k + 1 → cF l[j] = 0) := fun hq j hj hjk => by
        by_cases e : j = k
        · subst e; exact hq
        · exact hok.out j hj (by omega)
      clear q0 q1 q2 q3 q4 hb hp hv
      generalize l[k] = x at *
      obtain ⟨E, hE⟩ : ∃ E, Hid (cF x = E) := ⟨_, rfl⟩
      rw [hE.out] at hnext hbadQ
      go_wp2_with fail
      refine (certFault_any _ _ _ _ _ x.hdr.batches x.hdr.parents x.voters _ hb'.out hp'.out hv'.out).mono ?_
      rintro e w1 ⟨rfl, hb1⟩
      rw [hx.out _ hE.out]
      have hbl1 := hbl.trans (hb1.mono hbl.size)
      clear hb' hp' hv' c0 c1 c2 c3 c4 g0 hx
      by_cases h0 : E = 0
      · have hq := Lib.hid (hnext.out h0)
        clear hnext hbadQ
        subst h0
        go_wp2
        go_roundw
        case rel => exact ⟨k + 1, by omega, by go_num, hq.out, hbl1⟩
        case measure => simp [intOf]; omega
      · have HQ := Lib.hid (hbadQ.out h0)
        clear hnext hbadQ
        go_wp2
        go_ret
        exact ⟨ret_int HQ.out.symm, hbW.trans (hbl1.mono hzW)⟩
    · have hkl : k = l.length := by omega
      have hval := all_valid (fun j hj => hok.out j hj (by omega))
      have HQ1 : Hid (Q = if (List.range l.length).any (badC hD l) then 12 else 0) := by show _ = _; rw [← hQ.out, dagF_rest Hbig.out hval]
      have Hval := Lib.hid hval
      clear hval hQ hok
      go_wp2_with fail
      refine (digestsOf_any _ l _ (Hl.out.mono RCrt.mono (vle_below hblw)) (fun c hc => cF_hF (Hval.out c hc))).mono ?_
      rintro e w1 ⟨vd, rfl, hb1, od⟩
      have hbl1 := hbl.trans (hb1.mono hbl.size)
      have hblw1 := hbW.trans (hbl1.mono hzW)
      have hDl := dsOf_len l
      have rD := od.reads (RFrom.mono RDig.mono) (bs := 24) (by omega)
      have rD : RDigs w1.cell? vd (dsOf hD l) := RSl.weak (fun h cs x hr => RDig.mono _ _ _ _ hr (View.from_le _ _)) rD
      obtain ⟨dA, dc, rfl, hdc, hform⟩ := id rD
      clear hform
      rw [hDl] at hdc
      have HDl := Lib.hid hDl
      have RD := Lib.hid rD
      have hbk1 := hbk'.kept hb1
      have hz1 := hbl1.size
      clear g0
      have g0 := hbk1.cell 0
      simp at g0
      clear hbk' rD od hDl hkl hlt hk
      obtain ⟨DN, hDN⟩ : ∃ DN, Hid ((dsOf hD l).length = DN) := ⟨_, rfl⟩
      rw [hDN.out]
      have hDN' : DN = l.length := by rw [← hDN.out, HDl.out]
      go_wp2
      go_loopw [5, 6] (fun i _ wr => ∃ k : Nat, k ≤ l.length ∧ i = .int .i64 k ∧ Hid (∀ j, j < k → badC hD l j = false) ∧ Below W.heap.size W wr ∧ Below w1.heap.size w1 wr) (fun i _ _ => l.length - (intOf i).toNat)
      case atStart => exact ⟨0, Nat.zero_le _, rfl, fun j hj => by omega, hbl1, Below.refl _ _⟩
      case round =>
        clear g0
        obtain ⟨k, hk, rfl, hok, hbl2, hbl12⟩ := hrel
        have hbk2 := hbk.kept hbl2
        have g0 := hbk2.cell 0
        simp at g0
        have hz2 := hbl2.size
        have hblw2 := hbW.trans (hbl2.mono hzW)
        by_cases hlt : k < l.length
        · obtain ⟨b0, o0, vb, vp, vv, rfl, q0, q1, q2, q3, q4, hb, hp, hv⟩ := Hel.out k hlt
          have c0 := vle_below hblw2 _ _ q0; have c1 := vle_below hblw2 _ _ q1; have c2 := vle_below hblw2 _ _ q2; have c3 := vle_below hblw2 _ _ q3
          have hpw := hp
          have Hb := Lib.hid (badC_at hlt)
          have Hr := Lib.hid (headF_zero (cF_hF (Hval.out l[k] (List.getElem_mem hlt))))
          have hsub := (Hl.out.take (k := k) (by omega)).mono RCrt.mono (vle_below hblw2)
          have hsubD := (RD.out.take (k := k) (by rw [HDl.out]; omega)).mono RDig.mono (vle_below hbl12)
          have hlsub : ((dsOf hD l).take k).length ≤ (l.take k).length := by rw [List.length_take, List.length_take, HDl.out]; omega
          have hkc : k ≤ c := by omega
          have hkc' : (k : Int) ≤ (c : Int) := by omega
          have hkd : k ≤ dc := by omega
          have hkd' : (k : Int) ≤ (dc : Int) := by omega
          have hnext : Hid (badC hD l k = false → ∀ j, j < k + 1 → badC hD l j = false) := fun hq j hj => by
            by_cases e : j = k
            · subst e; exact hq
            · exact hok.out j (by omega)
          have hbadQ : Hid (badC hD l k = true → Q = 12) := fun h => by rw [HQ1.out, if_pos (any_range_true hlt h)]
          obtain ⟨bA, bc, rfl, hf1⟩ := id hb
          obtain ⟨pA, pc, rfl, hf2⟩ := id hp
          clear q0 q1 q2 q3 q4 hb hp hv hf1 hf2
          generalize l[k] = x at *
          generalize l.take k = L at hsub Hb hlsub
          generalize (dsOf hD l).take k = Ds at hsubD Hb hlsub
          generalize badC hD l k = BK at Hb hnext hbadQ
          have hx1 : Hid (taken L x.hdr = L.any (isCert x.hdr.author x.hdr.round)) := rfl
          go_wp2_with fail
          refine one_block _ _ _ (fun W => (Code.region _ _ _).wp _ _ _ W) (fun W2 hk2 hsz2 hbW2 => ?_)
          clear hsz2 c0 c1 c2 c3 g0
          have hblw3 := hblw2.trans (hbW2.mono hblw2.size)
          have hbl3 := hbl2.trans (hbW2.mono hz2)
          have hbk3 := hbk2.kept hbW2
          have hsub := hsub.mono RCrt.mono (vle_below hbW2)
          have hsubD := hsubD.mono RDig.mono (vle_below hbW2)
          have hp3 := hpw.mono RDig.mono (vle_below hblw3)
          clear hpw
          refine wp_region_pl (fun w' => Below W2.heap.size W2 w') [] (.q 0 (.q 1 (.q 2 (.q 3 (.q 4 (.q 5 (.q 6 (.q 7 (.l 8 (.q 9 (.q 10 (.q 11 (.q 12 (.q 13 (.q 14 (.q 15 (.q 16 (.q 17 (.q 18 (.l 19 (.q 20 (.q 21 .nil)))))))))))))))))))))) (by kernel_rfl) (by kernel_rfl) (fun _ _ d _ _ h => by cases d <;> exact h) rfl (by kernel_rfl) ?_ ?_
          · exact below_drew _
          intro W3 hS3
          have hblS : ∀ W', Below W2.heap.size W2 W' → Below W.heap.size W W' := fun W' h => hbl3.trans (h.mono hbl3.size)
          repeat (first
            | (refine pl_q (by assumption) rfl rfl ?_; apply Exists.intro; refine ⟨fun w' hS => ?_, ?_⟩; (· (have hq := hbk3.kept hS; have h0 := hq.cell 0; have hh := hk2.kept hS; have h1 := hh.cell 0; have h2 := hh.cell 1; simp at h0 h1 h2; go_simp; exact rfl)); simp only [List.getElem_toArray, List.getElem_cons_zero, List.getElem_cons_succ, Act.put, List.setIfInBounds_toArray, List.set_cons_zero, List.set_cons_succ])
            | (refine pl_qc rfl rfl ?_; apply Exists.intro; refine ⟨fun w' _ => ?_, ?_⟩; (· (go_simp; exact rfl)); simp only [List.getElem_toArray, List.getElem_cons_zero, List.getElem_cons_succ, Act.put, List.setIfInBounds_toArray, List.set_cons_zero, List.set_cons_succ])
            | (refine pl_skip (by assumption) rfl rfl ?_; simp only [List.getElem_toArray, List.getElem_cons_zero, List.getElem_cons_succ, Act.put, List.setIfInBounds_toArray, List.set_cons_zero, List.set_cons_succ])
            | (refine pl_skipl (by assumption) rfl rfl ?_; simp only [List.getElem_toArray, List.getElem_cons_zero, List.getElem_cons_succ, Act.put, List.setIfInBounds_toArray, List.set_cons_zero, List.set_cons_succ]))
          first
            | refine pl_do rfl rfl (fun K hK => ?_)
            | refine op_do rfl rfl (fun K hK => ?_)
          try simp only [List.getElem_toArray, List.getElem_cons_zero, List.getElem_cons_succ]
          go_simp
          refine (certOf_any _ L x.hdr.author x.hdr.round _ (hsub.mono RCrt.mono (vle_below hS3))).mono ?_
          rintro e w4 ⟨rfl, hb4⟩
          have hb5 := hS3.trans (hb4.mono hS3.size)
          rcases certI_cases L x.hdr.author x.hdr.round with ⟨e1, e2⟩ | ⟨j, e1, e2⟩
          · rw [e1]
            have Hb2 : Hid (BK = decide (parF L Ds x.hdr ≠ 0)) := by show _ = _; rw [Hb.out, hx1.out, e2]; rfl
            clear e1 e2 Hb hx1
            refine hK.out _ _ (hb5) (fun hS => ?_)
            clear hK K
            try simp only [List.getElem_toArray, List.getElem_cons_zero, List.getElem_cons_succ, Act.put, List.setIfInBounds_toArray, List.set_cons_zero, List.set_cons_succ]
            repeat (first
              | (refine pl_q (by assumption) rfl rfl ?_; apply Exists.intro; refine ⟨fun w' hS => ?_, ?_⟩; (· (have hq := hbk3.kept hS; have h0 := hq.cell 0; have hh := hk2.kept hS; have h1 := hh.cell 0; have h2 := hh.cell 1; have h3 := hh.cell 2; have h4 := hh.cell 3; simp at h0 h1 h2 h3 h4; go_simp; exact rfl)); simp only [List.getElem_toArray, List.getElem_cons_zero, List.getElem_cons_succ, Act.put, List.setIfInBounds_toArray, List.set_cons_zero, List.set_cons_succ])
              | (refine pl_qc rfl rfl ?_; apply Exists.intro; refine ⟨fun w' _ => ?_, ?_⟩; (· (go_simp; exact rfl)); simp only [List.getElem_toArray, List.getElem_cons_zero, List.getElem_cons_succ, Act.put, List.setIfInBounds_toArray, List.set_cons_zero, List.set_cons_succ])
              | (refine pl_skip (by assumption) rfl rfl ?_; simp only [List.getElem_toArray, List.getElem_cons_zero, List.getElem_cons_succ, Act.put, List.setIfInBounds_toArray, List.set_cons_zero, List.set_cons_succ])
              | (refine pl_skipl (by assumption) rfl rfl ?_; simp only [List.getElem_toArray, List.getElem_cons_zero, List.getElem_cons_succ, Act.put, List.setIfInBounds_toArray, List.set_cons_zero, List.set_cons_succ]))
            first
              | refine pl_do rfl rfl (fun K hK => ?_)
              | refine op_do rfl rfl (fun K hK => ?_)
            try simp only [List.getElem_toArray, List.getElem_cons_zero, List.getElem_cons_succ]
            go_simp
            refine (parentsFault_any _ _ L Ds x.hdr _ _ _ (hsub.mono RCrt.mono (vle_below hb5)) (hsubD.mono RDig.mono (vle_below hb5)) (hp3.mono RDig.mono (vle_below hb5)) hlsub Hr.out.1 Hr.out.2.1).mono ?_
            rintro e w6 ⟨rfl, hb6⟩
            have hb7 := hb5.trans (hb6.mono hb5.size)
            obtain ⟨PF, hPF⟩ : ∃ PF, Hid (parF L Ds x.hdr = PF) := ⟨_, rfl⟩
            rw [hPF.out]
            rw [hPF.out] at Hb2
            by_cases h0 : PF = 0
            · have hq := Lib.hid (hnext.out (by rw [Hb2.out]; simp [h0]))
              clear hnext hbadQ Hb2 hPF
              subst h0
              refine hK.out _ _ (hb7) (fun hS => ?_)
              clear hK K
              try simp only [List.getElem_toArray, List.getElem_cons_zero, List.getElem_cons_succ, Act.put, List.setIfInBounds_toArray, List.set_cons_zero, List.set_cons_succ]
              repeat (first
                | (refine pl_q (by assumption) rfl rfl ?_; apply Exists.intro; refine ⟨fun w' hS => ?_, ?_⟩; (· (skip; go_simp; exact rfl)); simp only [List.getElem_toArray, List.getElem_cons_zero, List.getElem_cons_succ, Act.put, List.setIfInBounds_toArray, List.set_cons_zero, List.set_cons_succ])
                | (refine pl_qc rfl rfl ?_; apply Exists.intro; refine ⟨fun w' _ => ?_, ?_⟩; (· (go_simp; exact rfl)); simp only [List.getElem_toArray, List.getElem_cons_zero, List.getElem_cons_succ, Act.put, List.setIfInBounds_toArray, List.set_cons_zero, List.set_cons_succ])
                | (refine pl_skip (by assumption) rfl rfl ?_; simp only [List.getElem_toArray, List.getElem_cons_zero, List.getElem_cons_succ, Act.put, List.setIfInBounds_toArray, List.set_cons_zero, List.set_cons_succ])
                | (refine pl_skipl (by assumption) rfl rfl ?_; simp only [List.getElem_toArray, List.getElem_cons_zero, List.getElem_cons_succ, Act.put, List.setIfInBounds_toArray, List.set_cons_zero, List.set_cons_succ]))
              refine pl_nil ?_
              go_wp2
              go_roundw
              case rel => exact ⟨k + 1, by omega, by go_num, hq.out, hblS _ hb7, (hbl12.trans (hbW2.mono hbl12.size)).trans (hb7.mono (Nat.le_trans hbl12.size hbW2.size))⟩
              case measure => simp [intOf]; omega
            · have HQ := Lib.hid (hbadQ.out (by rw [Hb2.out]; simp [h0]))
              clear hnext hbadQ Hb2 hPF
              refine hK.out _ _ (hb7) (fun hS => ?_)
              clear hK K
              try simp only [List.getElem_toArray, List.getElem_cons_zero, List.getElem_cons_succ, Act.put, List.setIfInBounds_toArray, List.set_cons_zero, List.set_cons_succ]
              repeat (first
                | (refine pl_q (by assumption) rfl rfl ?_; apply Exists.intro; refine ⟨fun w' hS => ?_, ?_⟩; (· (skip; go_simp; exact rfl)); simp only [List.getElem_toArray, List.getElem_cons_zero, List.getElem_cons_succ, Act.put, List.setIfInBounds_toArray, List.set_cons_zero, List.set_cons_succ])
                | (refine pl_qc rfl rfl ?_; apply Exists.intro; refine ⟨fun w' _ => ?_, ?_⟩; (· (go_simp; exact rfl)); simp only [List.getElem_toArray, List.getElem_cons_zero, List.getElem_cons_succ, Act.put, List.setIfInBounds_toArray, List.set_cons_zero, List.set_cons_succ])
                | (refine pl_skip (by assumption) rfl rfl ?_; simp only [List.getElem_toArray, List.getElem_cons_zero, List.getElem_cons_succ, Act.put, List.setIfInBounds_toArray, List.set_cons_zero, List.set_cons_succ])
                | (refine pl_skipl (by assumption) rfl rfl ?_; simp only [List.getElem_toArray, List.getElem_cons_zero, List.getElem_cons_succ, Act.put, List.setIfInBounds_toArray, List.set_cons_zero, List.set_cons_succ]))
              refine pl_nil ?_
              go_wp2
              go_ret
              exact ⟨ret_int HQ.out.symm, hbW.trans ((hblS _ hb7).mono hzW)⟩
          · rw [e1]
            have HQ := Lib.hid (hbadQ.out (by rw [Hb.out, hx1.out, e2]; rfl))
            clear e1 e2 Hb hx1 hnext hbadQ
            refine hK.out _ _ (hb5) (fun hS => ?_)
            clear hK K
            try simp only [List.getElem_toArray, List.getElem_cons_zero, List.getElem_cons_succ, Act.put, List.setIfInBounds_toArray, List.set_cons_zero, List.set_cons_succ]
            repeat (first
              | (refine pl_q (by assumption) rfl rfl ?_; apply Exists.intro; refine ⟨fun w' hS => ?_, ?_⟩; (· (skip; go_simp; exact rfl)); simp only [List.getElem_toArray, List.getElem_cons_zero, List.getElem_cons_succ, Act.put, List.setIfInBounds_toArray, List.set_cons_zero, List.set_cons_succ])
              | (refine pl_qc rfl rfl ?_; apply Exists.intro; refine ⟨fun w' _ => ?_, ?_⟩; (· (go_simp; exact rfl)); simp only [List.getElem_toArray, List.getElem_cons_zero, List.getElem_cons_succ, Act.put, List.setIfInBounds_toArray, List.set_cons_zero, List.set_cons_succ])
              | (refine pl_skip (by assumption) rfl rfl ?_; simp only [List.getElem_toArray, List.getElem_cons_zero, List.getElem_cons_succ, Act.put, List.setIfInBounds_toArray, List.set_cons_zero, List.set_cons_succ])
              | (refine pl_skipl (by assumption) rfl rfl ?_; simp only [List.getElem_toArray, List.getElem_cons_zero, List.getElem_cons_succ, Act.put, List.setIfInBounds_toArray, List.set_cons_zero, List.set_cons_succ]))
            refine pl_nil ?_
            go_wp2
            go_ret
            exact ⟨ret_int HQ.out.symm, hbW.trans ((hblS _ hb5).mono hzW)⟩
        · have HQ : Hid (Q = 0) := by
            show _ = _
            rw [HQ1.out, if_neg]
            rw [Bool.not_eq_true]
            exact any_range_false fun j hj => hok.out j (by omega)
          go_wp2
          go_ret
          exact ⟨ret_int HQ.out.symm, hblw2⟩
end Go.Proofs.YtbcoecmeoemmeaaGreatDoor
