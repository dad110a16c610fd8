/- A part of what the last text stands on. -/
import Derived.Test.YtbcoecmeoemmeaaGreatDoorDag4
import Derived.Test.YtbcoecmeoemmeaaGreatDoorSortL
import Derived.Shelf.SlSortCmp.WholeK
import Derived.Shelf.SlSortCmp.NoneTotal
import Derived.Test.YtbcoecmeoemmeaaGreatDoorOpenCert
import Derived.Test.YtbcoecmeoemmeaaGreatDoorHead
import Derived.Test.YtbcoecmeoemmeaaGreatDoorBatch
import Derived.Test.YtbcoecmeoemmeaaGreatDoorCert
import Derived.Test.YtbcoecmeoemmeaaGreatDoorDag1
import Derived.Test.YtbcoecmeoemmeaaGreatDoorHistP
import Derived.Test.YtbcoecmeoemmeaaGreatDoorPlan4
import Derived.Shelf.SlSortCmp.Whole1
import Derived.Test.YtbcoecmeoemmeaaGreatDoorOpen
import Derived.Test.YtbcoecmeoemmeaaGreatDoorChg2
import Derived.Test.YtbcoecmeoemmeaaGreatDoorHead2
import Derived.Deep.DeepCutAuto
import Derived.Deep.CutBlock
import Derived.Test.YtbcoecmeoemmeaaGreatDoorDagP
import Derived.Test.YtbcoecmeoemmeaaGreatDoorStr
import Derived.StringKeys
import Derived.Maps.OwnSet
import Derived.Maps.AppendAt
import Derived.Deep.OwnRows
import Derived.Laws.Strings
import Derived.Test.YtbcoecmeoemmeaaGreatDoorBlakeP
import Derived.LaidMore
import Derived.Stop.Joined
import Derived.Test.YtbcoecmeoemmeaaGreatDoorCrts
import Derived.Test.YtbcoecmeoemmeaaGreatDoorCopy
import Derived.Test.YtbcoecmeoemmeaaGreatDoorOwn
import Derived.Test.YtbcoecmeoemmeaaGreatDoorCards
import Derived.Test.YtbcoecmeoemmeaaGreatDoorTie
import Derived.SevenTiedAt
namespace Go.Proofs.YtbcoecmeoemmeaaGreatDoor
open Go.ChangeShapes Go.WideShapes Go.ChangeAt Go.RowKit
set_option linter.unusedVariables false
set_option linter.unusedSimpArgs false
/-- a certificate of one of the four, and where its rows lie -/
structure CV where
  x : Crt
  lo : 0 ≤ x.hdr.author
  hi : x.hdr.author ≤ 3
  b : Option Addr
  bc : Nat
  p : Option Addr
  pc : Nat
  v : Option Addr
  vc : Nat
instance : Inhabited CV := ⟨⟨⟨⟨0, 0, [], []⟩, []⟩, by decide, by decide, none, 0, none, 0, none, 0⟩⟩
def encC (y : CV) : List Value := [.int .i64 y.x.hdr.author, .int .i64 y.x.hdr.round, .slice y.b y.x.hdr.batches.length y.bc, .slice y.p y.x.hdr.parents.length y.pc, .slice y.v y.x.voters.length y.vc]
theorem get_bang (l : List Value) {j : Nat} (h : j < l.length) : l[j]? = some l[j]! := by
  rw [List.getElem?_eq_getElem h, getElem!_pos l j h]
def cfC (a b : CV) : Int := a.x.hdr.author - b.x.hdr.author
theorem ltC (a b : CV) : ltOf cfC a b = decide (a.x.hdr.author < b.x.hdr.author) := by
  unfold ltOf cfC
  by_cases h : a.x.hdr.author < b.x.hdr.author
  · simp [h]; omega
  · simp [h]; omega
theorem swoC : Sort.SWO (ltOf cfC) where
  irrefl x := by rw [ltC]; simp
  trans x y z h1 h2 := by rw [ltC] at *; simp at *; omega
  ntrans x y z h1 h2 := by rw [ltC] at *; simp at *; omega
set_option maxHeartbeats 1000000 in
set_option maxRecDepth 100000 in
theorem ofCmp_any (x y : CV) (W : World) : Calls Tryz.prog 177 #[.agg (encC x).toArray, .agg (encC y).toArray] W fun e w' => e = .returned (.int .i64 (cfC x y)) ∧ ∃ q os', w' = Sort.grow (W.drewN q) os' := by
  obtain ⟨x, xlo, xhi, b1, bc1, p1, pc1, v1, vc1⟩ := x
  obtain ⟨y, ylo, yhi, b2, bc2, p2, pc2, v2, vc2⟩ := y
  simp only [encC, cfC]
  generalize x.hdr.author = a at *
  generalize y.hdr.author = b at *
  go_enter Tryz.func177, Tryz.ntmps177
  go_wp2
  go_ret
  exact ⟨rfl, 0, _, by rw [Sort.alloc_eq_grow, Sort.alloc_eq_grow, Sort.grow_grow]; rfl⟩
theorem cmpLaysC (blk off size : Nat) (w : World) : CmpLays Tryz.prog 177 #[] encC 5 cfC blk off size w := fun _ _ _ _ x y => ofCmp_any x y _
theorem sortWorldK_grown {α : Type} [Inhabited α] (enc : α → List Value) (k : Nat) (w : World) (blk off n : Nat) (d : Array α) (os : Array Obj) (hb : blk < w.heap.size) : w.grownBy (sortWorldK enc k w blk off n d os) (some blk) := by
  refine ⟨rfl, rfl, rfl, size_sortWorldK_c enc k w blk off n d os, fun i hi hne => ?_⟩
  unfold sortWorldK
  rw [Sort.heap_grow_old _ _ (by rw [Sort.size_putRowK]; exact hi)]
  show ((Sort.ahead w n).heap.modify blk _)[i]? = _
  rw [Array.getElem?_modify, if_neg (fun e => hne (by rw [e]))]
  rfl
theorem noneC (h : View) : RCrts h (.slice none 0 0) [] := ⟨none, 0, rfl, Nat.le_refl _, Nat.zero_le _, by simp, fun _ => rfl, fun h => by simp at h⟩
set_option maxHeartbeats 2000000 in
set_option maxRecDepth 100000 in
theorem sortCrts_any {w0 : World} (v : Value) (xs : List Crt) (W : World) (b : Nat) (hown : OwnSl 5 (fun _ cs x => RCrt w0.cell? cs x) 68 W b v xs) (hA : Auth xs) (hl : xs.length ≤ 400) (hb0 : Below w0.heap.size w0 W) (hbb : w0.heap.size ≤ b) :
    Calls Tryz.prog 164 #[v, .func (.func 177) #[] #[]] W fun e w' => e = .returned (.tuple #[]) ∧ Below w0.heap.size w0 w' ∧ ∃ ys, ys.Perm xs ∧ (ys.Pairwise fun x y => x.hdr.author ≤ y.hdr.author) ∧ RCrts w'.cell? v ys := by
  have hr := hown.reads (bs := 88) (fun _ _ _ _ h _ => h) (by omega)
  obtain ⟨css, h1, _, _⟩ := hown.own
  rcases h1.2 with ⟨rfl, hn⟩ | ⟨g, cap, cur, rfl, hbg, hc, hncap, hcap, hcs, _⟩
  · have hx : xs = [] := List.eq_nil_of_length_eq_zero hn
    subst hx
    refine (AnyF.slices_SortFunc_none sortCrt none 0 _ W).mono ?_
    rintro e w' ⟨rfl, rfl⟩
    exact ⟨rfl, hb0, [], List.Perm.refl _, List.Pairwise.nil, noneC _⟩
  · obtain ⟨A', c', e, _, _, hbd, _, hel⟩ := hr
    injection e with e1 e2 e3
    subst e1 e3
    have hex : ∀ i (hi : i < xs.length), ∃ y : CV, y.x = xs[i] ∧ RCrt w0.cell? (encC y) y.x ∧ ∀ j, j < 5 → W.cell? ⟨g, 0 + i * 5 + j, none⟩ = (encC y)[j]? := fun i hi => by
      obtain ⟨b', o', ea, hcc⟩ := hel (by omega)
      injection ea with ea
      injection ea with eb eo _
      subst eb eo
      obtain ⟨cs, _, hcell, vb, vp, vv, rfl, r1, r2, r3⟩ := hcc i hi
      obtain ⟨bA, bc, rfl, _⟩ := id r1
      obtain ⟨pA, pc, rfl, _⟩ := id r2
      obtain ⟨vA, vc, rfl, _⟩ := id r3
      have ha := hA _ (List.getElem_mem hi)
      exact ⟨⟨xs[i], ha.1, ha.2, bA, bc, pA, pc, vA, vc⟩, rfl, ⟨_, _, _, rfl, r1, r2, r3⟩, hcell⟩
    obtain ⟨d, hds, hd⟩ : ∃ d : Array CV, ∃ hs : d.size = xs.length, ∀ i (hi : i < xs.length), (d[i]'(by omega)).x = xs[i] ∧ RCrt w0.cell? (encC (d[i]'(by omega))) (d[i]'(by omega)).x ∧ ∀ j, j < 5 → W.cell? ⟨g, 0 + i * 5 + j, none⟩ = (encC (d[i]'(by omega)))[j]? :=
      ⟨Array.ofFn (fun i : Fin xs.length => Classical.choose (hex i i.2)), by simp, fun i hi => by simpa using Classical.choose_spec (hex i hi)⟩
    have hH : Sort.HoldsK encC 5 W g 0 d := fun t ht => by
      rw [Sort.size_flatK] at ht
      have h5 : t / 5 < xs.length := by omega
      have hq := (hd (t / 5) h5).2.2 (t % 5) (by omega)
      rw [show 0 + t / 5 * 5 + t % 5 = 0 + t by omega] at hq
      rw [Sort.get_flatK _ _ _ _ ht]
      refine ⟨?_, ?_⟩
      · rw [hq, getElem!_pos d (t / 5) (by omega)]
        exact get_bang _ (show t % 5 < 5 by omega)
      · exact Blk.frozen (show Blk W g 68 cur from hc) _
    have hmap : d.toList.map (·.x) = xs := by
      apply List.ext_getElem
      · simp [hds]
      · intro i h1 h2
        simp only [List.getElem_map, Array.getElem_toList]
        exact (hd i h2).1
    have eg : ∀ args w, (callFunc 177 args).run Tryz.prog w = .ok (.enter 177 args) w := enters_of Tryz.func177 (by kernel_rfl) rfl
    have hcon := AnyQ.slices_SortFunc sortCrt 5 (fun w => by kernel_rfl) (fun w => by kernel_rfl) encC (fun _ => rfl) (fun x v hv => by simp [encC] at hv; rcases hv with rfl | rfl | rfl | rfl | rfl <;> rfl) cfC swoC 177 #[] g 0 cap d W eg (cmpLaysC g 0 d.size W) hH (by exact (Array.getElem?_eq_some_iff.1 hc).1) (by omega)
    rw [hds] at hcon
    refine hcon.mono ?_
    rintro e w' ⟨rfl, d', n, os, hp, hs, rfl⟩
    have hlt : g < W.heap.size := (Array.getElem?_eq_some_iff.1 hc).1
    have hg := sortWorldK_grown encC 5 W g 0 n d' os hlt
    have hbl : Below w0.heap.size w0 (sortWorldK encC 5 W g 0 n d' os) := below_grownBy hb0 hb0.size hg (by intro k e; injection e with e; omega)
    have hds' : d'.size = xs.length := hp.1.trans hds
    have hperm : d'.toList.Perm d.toList := by
      have h2 := hp.2.2
      rw [← hds] at h2
      simp at h2
      rw [List.take_of_length_le (by simp [hp.1])] at h2
      exact h2
    have hH' := holdsK_sortWorldK_c encC 5 W g 0 d d' n os hH hlt hp.1
    refine ⟨rfl, hbl, d'.toList.map (·.x), by rw [← hmap]; exact hperm.map _, ?_, ?_⟩
    · rw [List.pairwise_map, List.pairwise_iff_getElem]
      intro i j hi hj hij
      simp at hi hj
      have := hs i j (Nat.zero_le _) hij (by omega)
      rw [ltC, getElem!_pos d' i (by omega), getElem!_pos d' j (by omega)] at this
      simp at this ⊢
      omega
    · have hlen : (d'.toList.map (·.x)).length = xs.length := by simp [hds']
      refine ⟨some ⟨g, 0, none⟩, cap, by rw [hlen], by rw [hlen]; exact hncap, hcap, by rw [hlen]; exact hbd, (fun h => by cases h), fun h0 => ⟨g, 0, rfl, fun i hi => ?_⟩⟩
      rw [hlen] at hi
      refine ⟨encC (d'[i]'(by omega)), rfl, fun j hj => ?_, ?_⟩
      · have := (hH'.cell (i := i) (c := j) (by omega) hj).1
        rw [getElem!_pos d' i (by omega)] at this
        rw [get_bang (encC (d'[i]'(by omega))) hj]
        exact this
      · have hmem : (d'[i]'(by omega)) ∈ d.toList := hperm.mem_iff.1 (by simp)
        obtain ⟨k, hk, hk2⟩ := List.getElem_of_mem hmem
        have hq := (hd k (by simpa [hds] using hk)).2.1
        simp only [Array.getElem_toList] at hk2
        rw [hk2] at hq
        simp only [List.getElem_map, Array.getElem_toList]
        exact RCrt.mono _ _ _ _ hq (vle_below hbl)
end Go.Proofs.YtbcoecmeoemmeaaGreatDoor

namespace Go.Proofs.YtbcoecmeoemmeaaGreatDoor
open Go.ChangeShapes Go.WideShapes Go.ChangeAt Go.RowKit
set_option linter.unusedVariables false
set_option linter.unusedSimpArgs false
set_option maxHeartbeats 4000000 in
set_option maxRecDepth 100000 in
theorem dagCheck_any (vl : Value) (l : List Crt) (w : World) (hl : RCrts w.cell? vl l) (hT : Tabs w.cell?) :
    Calls Tryz.prog 46 #[.agg #[vl]] w fun e w' => e = .returned (.int .i64 (dagF hD cF l)) ∧ Below w.heap.size w w' := by
  obtain ⟨A, c, rfl, hform⟩ := id hl
  have HT := Lib.hid hT
  clear hT
  obtain ⟨_, hn1, hn2, hel⟩ := hl.at
  have Hel := Lib.hid hel
  have Hl := Lib.hid hl
  clear hel hl hform
  obtain ⟨Q, hQ⟩ : ∃ Q, Hid (dagF hD cF l = Q) := ⟨_, rfl⟩
  rw [hQ.out]
  by_cases hbig : 400 < l.length
  · have HQ : Hid (Q = 12) := by show _ = _; rw [← hQ.out, dagF_big hbig]
    clear hQ
    go_enter Tryz.func46, Tryz.ntmps46
    go_wp2
    go_ret
    exact ⟨ret_int HQ.out.symm, below_one _ _⟩
  have Hbig := Lib.hid hbig
  have hn4 : l.length ≤ 400 := by omega
  clear hbig
  go_enter Tryz.func46, Tryz.ntmps46
  go_upto_region 1 with fail
  refine one_block _ _ _ (fun W => Code.wp _ _ _ _ W) (fun W hbk hsz hbW => ?_)
  have hzW := hbW.size
  clear hsz
  have g0 := hbk.cell 0
  simp at g0
  go_wp2
  go_loopw [4, 17] (fun _ i wr => ∃ k : Nat, k ≤ l.length ∧ i = .int .i64 k ∧ Hid (∀ j (hj : j < l.length), j < k → cF l[j] = 0) ∧ Below W.heap.size W wr) (fun _ i _ => l.length - (intOf i).toNat)
  case atStart => exact ⟨0, Nat.zero_le _, rfl, fun j _ hj => by omega, Below.refl _ _⟩
  case round =>
    clear g0
    obtain ⟨k, hk, rfl, hok, hbl⟩ := hrel
    have hbk' := hbk.kept hbl
    have g0 := hbk'.cell 0
    simp at g0
    have hblw := hbW.trans (hbl.mono hzW)
    by_cases hlt : k < l.length
    · obtain ⟨b0, o0, vb, vp, vv, rfl, q0, q1, q2, q3, q4, hb, hp, hv⟩ := Hel.out k hlt
      obtain ⟨bA, bc, rfl, hf1⟩ := id hb
      obtain ⟨pA, pc, rfl, hf2⟩ := id hp
      obtain ⟨vA, vc, rfl, hf3⟩ := id hv
      clear hf1 hf2 hf3
      have c0 := vle_below hblw _ _ q0; have c1 := vle_below hblw _ _ q1; have c2 := vle_below hblw _ _ q2; have c3 := vle_below hblw _ _ q3; have c4 := vle_below hblw _ _ q4
      have hb' := Lib.hid (hb.mono RDig.mono (vle_below hblw))
      have hp' := Lib.hid (hp.mono RDig.mono (vle_below hblw))
      have hv' := Lib.hid (hv.mono (vle_below hblw))
      have hx : Hid (∀ e, cF l[k] = e → certF l[k].hdr.author l[k].hdr.round l[k].hdr.batches l[k].hdr.parents l[k].voters = e) := fun e h => h
      have hbadQ : Hid (cF l[k] ≠ 0 → Q = 12) := fun h => by rw [← hQ.out]; exact dagF_cert Hbig.out hlt h
      have hnext : Hid (cF l[k] = 0 → ∀ j (hj : j < l.length), j < k + 1 → cF l[j] = 0) := fun hq j hj hjk => by
        by_cases e : j = k
        · subst e; exact hq
        · exact hok.out j hj (by omega)
      clear q0 q1 q2 q3 q4 hb hp hv
      generalize l[k] = x at *
      obtain ⟨E, hE⟩ : ∃ E, Hid (cF x = E) := ⟨_, rfl⟩
      rw [hE.out] at hnext hbadQ
      go_wp2_with fail
      refine one_block _ _ _ (fun W => Calls Tryz.prog _ _ W _) (fun W2 hk2 hsz2 hbW2 => ?_)
      have qW := vle_below hbW2
      refine (checkCert_any _ _ _ _ _ x.hdr.batches x.hdr.parents x.voters _ (hb'.out.mono RDig.mono qW) (hp'.out.mono RDig.mono qW) (hv'.out.mono qW)).mono ?_
      rintro e w1 ⟨rfl, hb1⟩
      have hb1 := hbW2.trans (hb1.mono hbW2.size)
      clear hk2 hsz2 hbW2 qW
      rw [hx.out _ hE.out]
      have hbl1 := hbl.trans (hb1.mono hbl.size)
      clear hb' hp' hv' c0 c1 c2 c3 c4 g0 hx
      by_cases h0 : E = 0
      · have hq := Lib.hid (hnext.out h0)
        clear hnext hbadQ
        subst h0
        go_wp2
        go_roundw
        case rel => exact ⟨k + 1, by omega, by go_num, hq.out, hbl1⟩
        case measure => simp [intOf]; omega
      · have HQ := Lib.hid (hbadQ.out h0)
        clear hnext hbadQ
        go_wp2
        go_ret
        exact ⟨ret_int HQ.out.symm, hbW.trans (hbl1.mono hzW)⟩
    · have hkl : k = l.length := by omega
      have hval := all_valid (fun j hj => hok.out j hj (by omega))
      have HQ1 : Hid (Q = if (List.range l.length).any (badC hD l) then 12 else 0) := by show _ = _; rw [← hQ.out, dagF_rest Hbig.out hval]
      have Hval := Lib.hid hval
      clear hval hQ hok
      go_wp2_with fail
      refine (all_any _ l _ (Hl.out.mono RCrt.mono (vle_below hblw)) (fun c hc => cF_hF (Hval.out c hc)) (HT.out.mono (vle_below hblw))).mono ?_
      rintro e w1 ⟨vd, rfl, hb1, od⟩
      have hbl1 := hbl.trans (hb1.mono hbl.size)
      have hblw1 := hbW.trans (hbl1.mono hzW)
      have hDl := dsOf_len l
      have rD := od.reads (RFrom.mono RDig.mono) (bs := 24) (by omega)
      have rD : RDigs w1.cell? vd (dsOf hD l) := RSl.weak (fun h cs x hr => RDig.mono _ _ _ _ hr (View.from_le _ _)) rD
      obtain ⟨dA, dc, rfl, hdc, hform⟩ := id rD
      clear hform
      rw [hDl] at hdc
      have HDl := Lib.hid hDl
      have RD := Lib.hid rD
      have hbk1 := hbk'.kept hb1
      have hz1 := hbl1.size
      clear g0
      have g0 := hbk1.cell 0
      simp at g0
      clear hbk' rD od hDl hkl hlt hk
      obtain ⟨DN, hDN⟩ : ∃ DN, Hid ((dsOf hD l).length = DN) := ⟨_, rfl⟩
      rw [hDN.out]
      have hDN' : DN = l.length := by rw [← hDN.out, HDl.out]
      go_wp2
      go_loopw [31] (fun i wr => ∃ k : Nat, k ≤ l.length ∧ i = .int .i64 k ∧ Hid (∀ j, j < k → badC hD l j = false) ∧ Below W.heap.size W wr ∧ Below w1.heap.size w1 wr) (fun i _ => l.length - (intOf i).toNat)
      case atStart => exact ⟨0, Nat.zero_le _, rfl, fun j hj => by omega, hbl1, Below.refl _ _⟩
      case round =>
        clear g0
        obtain ⟨k, hk, rfl, hok, hbl2, hbl12⟩ := hrel
        have hbk2 := hbk.kept hbl2
        have g0 := hbk2.cell 0
        simp at g0
        have hz2 := hbl2.size
        have hblw2 := hbW.trans (hbl2.mono hzW)
        by_cases hlt : k < l.length
        · obtain ⟨b0, o0, vb, vp, vv, rfl, q0, q1, q2, q3, q4, hb, hp, hv⟩ := Hel.out k hlt
          have c0 := vle_below hblw2 _ _ q0; have c1 := vle_below hblw2 _ _ q1; have c2 := vle_below hblw2 _ _ q2; have c3 := vle_below hblw2 _ _ q3; have c4 := vle_below hblw2 _ _ q4
          have hpw := hp
          have Hb := Lib.hid (badC_at hlt)
          have Hr := Lib.hid (headF_zero (cF_hF (Hval.out l[k] (List.getElem_mem hlt))))
          have hsub := (Hl.out.take (k := k) (by omega)).mono RCrt.mono (vle_below hblw2)
          have hsubD := (RD.out.take (k := k) (by rw [HDl.out]; omega)).mono RDig.mono (vle_below hbl12)
          have hlsub : ((dsOf hD l).take k).length ≤ (l.take k).length := by rw [List.length_take, List.length_take, HDl.out]; omega
          have hkc : k ≤ c := by omega
          have hkc' : (k : Int) ≤ (c : Int) := by omega
          have hkd : k ≤ dc := by omega
          have hkd' : (k : Int) ≤ (dc : Int) := by omega
          have hnext : Hid (badC hD l k = false → ∀ j, j < k + 1 → badC hD l j = false) := fun hq j hj => by
            by_cases e : j = k
            · subst e; exact hq
            · exact hok.out j (by omega)
          have hbadQ : Hid (badC hD l k = true → Q = 12) := fun h => by rw [HQ1.out, if_pos (any_range_true hlt h)]
          obtain ⟨bA, bc, rfl, hf1⟩ := id hb
          obtain ⟨pA, pc, rfl, hf2⟩ := id hp
          obtain ⟨vA, vc, rfl, hf3⟩ := id hv
          clear q0 q1 q2 q3 q4 hb hp hv hf1 hf2 hf3
          generalize l[k] = x at *
          generalize l.take k = L at hsub Hb hlsub
          generalize (dsOf hD l).take k = Ds at hsubD Hb hlsub
          generalize badC hD l k = BK at Hb hnext hbadQ
          have Hb : Hid (BK = (taken L x.hdr || (missW L Ds x.hdr || decide (0 < (missN Ds x.hdr).length)))) := by show _ = _; rw [Hb.out, parF_ne]
          have hNl : (missN Ds x.hdr).length * 24 ≤ 140737488355328 := Nat.le_trans (Nat.mul_le_mul_right _ (List.length_filter_le _ _)) (by obtain ⟨_, _, _, _, _, h, _⟩ := hpw; exact h)
          go_wp2_with fail
          refine one_block _ _ _ (fun W => (Code.region _ _ _).wp _ _ _ W) (fun W2 hk2 hsz2 hbW2 => ?_)
          clear hsz2 c0 c1 c2 c3 c4 g0
          have hblw3 := hblw2.trans (hbW2.mono hblw2.size)
          have hbl3 := hbl2.trans (hbW2.mono hz2)
          have hbk3 := hbk2.kept hbW2
          have hsub := hsub.mono RCrt.mono (vle_below hbW2)
          have hsubD := hsubD.mono RDig.mono (vle_below hbW2)
          have hp3 := hpw.mono RDig.mono (vle_below hblw3)
          clear hpw
          have hblS : ∀ W', Below W2.heap.size W2 W' → Below W.heap.size W W' := fun W' h => hbl3.trans (h.mono hbl3.size)
          refine wp_region_pl (fun w' => Below W2.heap.size W2 w') [14] (.q 0 (.q 1 (.q 2 (.q 3 (.q 4 (.q 5 (.q 6 (.q 7 (.q 8 (.l 9 (.q 10 (.q 11 (.q 12 (.q 13 (.qc 14 .nil))))))))))))))) (by kernel_rfl) (by kernel_rfl) (fun _ _ d _ _ h => by cases d <;> exact h) rfl (by kernel_rfl) ?_ ?_
          · exact below_drew _
          intro W3 hS3
          repeat (first
            | (refine pl_q (by assumption) rfl rfl ?_; apply Exists.intro; refine ⟨fun w' hS => ?_, ?_⟩; (· (have hq := hbk3.kept hS; have h0 := hq.cell 0; have hh := hk2.kept hS; have h1 := hh.cell 0; have h2 := hh.cell 1; have h3 := hh.cell 2; have h4 := hh.cell 3; simp at h0 h1 h2 h3 h4; go_simp; exact rfl)); simp only [List.getElem_toArray, List.getElem_cons_zero, List.getElem_cons_succ, Act.put, List.setIfInBounds_toArray, List.set_cons_zero, List.set_cons_succ])
            | (refine pl_qc rfl rfl ?_; apply Exists.intro; refine ⟨fun w' _ => ?_, ?_⟩; (· (go_simp; exact rfl)); simp only [List.getElem_toArray, List.getElem_cons_zero, List.getElem_cons_succ, Act.put, List.setIfInBounds_toArray, List.set_cons_zero, List.set_cons_succ])
            | (refine pl_skip (by assumption) rfl rfl ?_; simp only [List.getElem_toArray, List.getElem_cons_zero, List.getElem_cons_succ, Act.put, List.setIfInBounds_toArray, List.set_cons_zero, List.set_cons_succ])
            | (refine pl_skipl (by assumption) rfl rfl ?_; simp only [List.getElem_toArray, List.getElem_cons_zero, List.getElem_cons_succ, Act.put, List.setIfInBounds_toArray, List.set_cons_zero, List.set_cons_succ]))
          first
            | refine pl_do rfl rfl (fun K hK => ?_)
            | refine op_do rfl rfl (fun K hK => ?_)
          try simp only [List.getElem_toArray, List.getElem_cons_zero, List.getElem_cons_succ]
          go_simp
          refine (missing_any _ _ L Ds x.hdr _ _ _ (hsub.mono RCrt.mono (vle_below hS3)) (hsubD.mono RDig.mono (vle_below hS3)) (hp3.mono RDig.mono (vle_below hS3)) hlsub Hr.out.1 Hr.out.2.1).mono ?_
          rintro e w4 ⟨v4, rfl, hb4, o4⟩
          have hb5 := hS3.trans (hb4.mono hS3.size)
          generalize missN Ds x.hdr = N at o4 Hb hNl
          generalize missW L Ds x.hdr = MW at Hb
          obtain ⟨nA, nc, rfl⟩ := o4.form
          obtain ⟨nl, hnl⟩ : ∃ nl, Hid (N.length = nl) := ⟨_, rfl⟩
          rw [hnl.out] at Hb
          rw [hnl.out]
          clear o4 hNl
          refine hK.out _ _ (hb5) (fun hS => ?_)
          clear hK K
          try simp only [List.getElem_toArray, List.getElem_cons_zero, List.getElem_cons_succ, Act.put, List.setIfInBounds_toArray, List.set_cons_zero, List.set_cons_succ]
          repeat (first
            | (refine pl_q (by assumption) rfl rfl ?_; apply Exists.intro; refine ⟨fun w' hS => ?_, ?_⟩; (· (skip; go_simp; exact rfl)); simp only [List.getElem_toArray, List.getElem_cons_zero, List.getElem_cons_succ, Act.put, List.setIfInBounds_toArray, List.set_cons_zero, List.set_cons_succ])
            | (refine pl_qc rfl rfl ?_; apply Exists.intro; refine ⟨fun w' _ => ?_, ?_⟩; (· (go_simp; exact rfl)); simp only [List.getElem_toArray, List.getElem_cons_zero, List.getElem_cons_succ, Act.put, List.setIfInBounds_toArray, List.set_cons_zero, List.set_cons_succ])
            | (refine pl_skip (by assumption) rfl rfl ?_; simp only [List.getElem_toArray, List.getElem_cons_zero, List.getElem_cons_succ, Act.put, List.setIfInBounds_toArray, List.set_cons_zero, List.set_cons_succ])
            | (refine pl_skipl (by assumption) rfl rfl ?_; simp only [List.getElem_toArray, List.getElem_cons_zero, List.getElem_cons_succ, Act.put, List.setIfInBounds_toArray, List.set_cons_zero, List.set_cons_succ]))
          refine pl_nil ?_
          have hbk5 := hbk3.kept hb5
          have hk5 := hk2.kept hb5
          have hsub5 := hsub.mono RCrt.mono (vle_below hb5)
          have hbl5 := hblS _ hb5
          have hbl15 : Below w1.heap.size w1 w4 := (hbl12.trans (hbW2.mono hbl12.size)).trans (hb5.mono (Nat.le_trans hbl12.size hbW2.size))
          clear hsub hsubD hp3 hb4 hS3
          by_cases hpos : 0 < nl
          · have HQ := Lib.hid (hbadQ.out (by rw [Hb.out]; simp [hpos]))
            have hpos' : (0 : Int) < nl := by omega
            clear Hb hnext hbadQ
            go_wp2_with fail
            refine wp_region_pl (fun w' => Below w4.heap.size w4 w') [] (.q 0 (.q 1 (.q 2 (.q 3 (.q 4 (.q 5 (.q 6 (.q 7 (.q 8 (.q 9 (.q 10 (.q 11 (.q 12 (.l 13 (.q 14 .nil))))))))))))))) (by kernel_rfl) (by kernel_rfl) (fun _ _ d _ _ h => by cases d <;> exact h) rfl (by kernel_rfl) ?_ ?_
            · exact below_drew _
            intro W6 hS6
            repeat (first
              | (refine pl_q (by assumption) rfl rfl ?_; apply Exists.intro; refine ⟨fun w' hS => ?_, ?_⟩; (· (skip; go_simp; exact rfl)); simp only [List.getElem_toArray, List.getElem_cons_zero, List.getElem_cons_succ, Act.put, List.setIfInBounds_toArray, List.set_cons_zero, List.set_cons_succ])
              | (refine pl_qc rfl rfl ?_; apply Exists.intro; refine ⟨fun w' _ => ?_, ?_⟩; (· (go_simp; exact rfl)); simp only [List.getElem_toArray, List.getElem_cons_zero, List.getElem_cons_succ, Act.put, List.setIfInBounds_toArray, List.set_cons_zero, List.set_cons_succ])
              | (refine pl_skip (by assumption) rfl rfl ?_; simp only [List.getElem_toArray, List.getElem_cons_zero, List.getElem_cons_succ, Act.put, List.setIfInBounds_toArray, List.set_cons_zero, List.set_cons_succ])
              | (refine pl_skipl (by assumption) rfl rfl ?_; simp only [List.getElem_toArray, List.getElem_cons_zero, List.getElem_cons_succ, Act.put, List.setIfInBounds_toArray, List.set_cons_zero, List.set_cons_succ]))
            refine pl_nil ?_
            go_wp2
            go_ret
            exact ⟨ret_int HQ.out.symm, hbW.trans ((hbl5.trans (hS6.mono hbl5.size)).mono hzW)⟩
          · have hz0 : nl = 0 := by omega
            rw [hz0] at Hb ⊢
            cases MW
            · have Hb : Hid (BK = taken L x.hdr) := by show _ = _; rw [Hb.out]; simp
              go_wp2_with fail
              refine wp_region_pl (fun w' => Below w4.heap.size w4 w') [] (.q 0 (.q 1 (.q 2 (.q 3 (.q 4 (.q 5 (.q 6 (.q 7 (.q 8 (.q 9 (.q 10 (.q 11 (.q 12 (.l 13 (.q 14 .nil))))))))))))))) (by kernel_rfl) (by kernel_rfl) (fun _ _ d _ _ h => by cases d <;> exact h) rfl (by kernel_rfl) ?_ ?_
              · exact below_drew _
              intro W6 hS6
              repeat (first
                | (refine pl_q (by assumption) rfl rfl ?_; apply Exists.intro; refine ⟨fun w' hS => ?_, ?_⟩; (· (have hq := hbk5.kept hS; have h0 := hq.cell 0; have hh := hk5.kept hS; have h1 := hh.cell 0; have h2 := hh.cell 1; have h3 := hh.cell 2; have h4 := hh.cell 3; simp at h0 h1 h2 h3 h4; go_simp; exact rfl)); simp only [List.getElem_toArray, List.getElem_cons_zero, List.getElem_cons_succ, Act.put, List.setIfInBounds_toArray, List.set_cons_zero, List.set_cons_succ])
                | (refine pl_qc rfl rfl ?_; apply Exists.intro; refine ⟨fun w' _ => ?_, ?_⟩; (· (go_simp; exact rfl)); simp only [List.getElem_toArray, List.getElem_cons_zero, List.getElem_cons_succ, Act.put, List.setIfInBounds_toArray, List.set_cons_zero, List.set_cons_succ])
                | (refine pl_skip (by assumption) rfl rfl ?_; simp only [List.getElem_toArray, List.getElem_cons_zero, List.getElem_cons_succ, Act.put, List.setIfInBounds_toArray, List.set_cons_zero, List.set_cons_succ])
                | (refine pl_skipl (by assumption) rfl rfl ?_; simp only [List.getElem_toArray, List.getElem_cons_zero, List.getElem_cons_succ, Act.put, List.setIfInBounds_toArray, List.set_cons_zero, List.set_cons_succ]))
              first
                | refine pl_do rfl rfl (fun K hK => ?_)
                | refine op_do rfl rfl (fun K hK => ?_)
              try simp only [List.getElem_toArray, List.getElem_cons_zero, List.getElem_cons_succ]
              go_simp
              refine (certTaken_any _ L x.hdr _ _ _ (hsub5.mono RCrt.mono (vle_below hS6))).mono ?_
              rintro e w7 ⟨rfl, hb7⟩
              have hb8 := hS6.trans (hb7.mono hS6.size)
              obtain ⟨TK, hTK⟩ : ∃ TK, Hid (taken L x.hdr = TK) := ⟨_, rfl⟩
              rw [hTK.out]
              rw [hTK.out] at Hb
              cases TK
              · have hq := Lib.hid (hnext.out Hb.out)
                clear hnext hbadQ Hb hTK
                refine hK.out _ _ (hb8) (fun hS => ?_)
                clear hK K
                try simp only [List.getElem_toArray, List.getElem_cons_zero, List.getElem_cons_succ, Act.put, List.setIfInBounds_toArray, List.set_cons_zero, List.set_cons_succ]
                repeat (first
                  | (refine pl_q (by assumption) rfl rfl ?_; apply Exists.intro; refine ⟨fun w' hS => ?_, ?_⟩; (· (skip; go_simp; exact rfl)); simp only [List.getElem_toArray, List.getElem_cons_zero, List.getElem_cons_succ, Act.put, List.setIfInBounds_toArray, List.set_cons_zero, List.set_cons_succ])
                  | (refine pl_qc rfl rfl ?_; apply Exists.intro; refine ⟨fun w' _ => ?_, ?_⟩; (· (go_simp; exact rfl)); simp only [List.getElem_toArray, List.getElem_cons_zero, List.getElem_cons_succ, Act.put, List.setIfInBounds_toArray, List.set_cons_zero, List.set_cons_succ])
                  | (refine pl_skip (by assumption) rfl rfl ?_; simp only [List.getElem_toArray, List.getElem_cons_zero, List.getElem_cons_succ, Act.put, List.setIfInBounds_toArray, List.set_cons_zero, List.set_cons_succ])
                  | (refine pl_skipl (by assumption) rfl rfl ?_; simp only [List.getElem_toArray, List.getElem_cons_zero, List.getElem_cons_succ, Act.put, List.setIfInBounds_toArray, List.set_cons_zero, List.set_cons_succ]))
                refine pl_nil ?_
                go_wp2
                go_roundw
                case rel => exact ⟨k + 1, by omega, by go_num, hq.out, hbl5.trans (hb8.mono hbl5.size), hbl15.trans (hb8.mono hbl15.size)⟩
                case measure => simp [intOf]; omega
              · have HQ := Lib.hid (hbadQ.out Hb.out)
                clear hnext hbadQ Hb hTK
                refine hK.out _ _ (hb8) (fun hS => ?_)
                clear hK K
                try simp only [List.getElem_toArray, List.getElem_cons_zero, List.getElem_cons_succ, Act.put, List.setIfInBounds_toArray, List.set_cons_zero, List.set_cons_succ]
                repeat (first
                  | (refine pl_q (by assumption) rfl rfl ?_; apply Exists.intro; refine ⟨fun w' hS => ?_, ?_⟩; (· (skip; go_simp; exact rfl)); simp only [List.getElem_toArray, List.getElem_cons_zero, List.getElem_cons_succ, Act.put, List.setIfInBounds_toArray, List.set_cons_zero, List.set_cons_succ])
                  | (refine pl_qc rfl rfl ?_; apply Exists.intro; refine ⟨fun w' _ => ?_, ?_⟩; (· (go_simp; exact rfl)); simp only [List.getElem_toArray, List.getElem_cons_zero, List.getElem_cons_succ, Act.put, List.setIfInBounds_toArray, List.set_cons_zero, List.set_cons_succ])
                  | (refine pl_skip (by assumption) rfl rfl ?_; simp only [List.getElem_toArray, List.getElem_cons_zero, List.getElem_cons_succ, Act.put, List.setIfInBounds_toArray, List.set_cons_zero, List.set_cons_succ])
                  | (refine pl_skipl (by assumption) rfl rfl ?_; simp only [List.getElem_toArray, List.getElem_cons_zero, List.getElem_cons_succ, Act.put, List.setIfInBounds_toArray, List.set_cons_zero, List.set_cons_succ]))
                refine pl_nil ?_
                go_wp2
                go_ret
                exact ⟨ret_int HQ.out.symm, hbW.trans ((hbl5.trans (hb8.mono hbl5.size)).mono hzW)⟩
            · have HQ := Lib.hid (hbadQ.out (by rw [Hb.out]; simp))
              clear Hb hnext hbadQ
              go_wp2_with fail
              refine wp_region_pl (fun w' => Below w4.heap.size w4 w') [] (.q 0 (.q 1 (.q 2 (.q 3 (.q 4 (.q 5 (.q 6 (.q 7 (.q 8 (.q 9 (.q 10 (.q 11 (.q 12 (.l 13 (.q 14 .nil))))))))))))))) (by kernel_rfl) (by kernel_rfl) (fun _ _ d _ _ h => by cases d <;> exact h) rfl (by kernel_rfl) ?_ ?_
              · exact below_drew _
              intro W6 hS6
              repeat (first
                | (refine pl_q (by assumption) rfl rfl ?_; apply Exists.intro; refine ⟨fun w' hS => ?_, ?_⟩; (· (skip; go_simp; exact rfl)); simp only [List.getElem_toArray, List.getElem_cons_zero, List.getElem_cons_succ, Act.put, List.setIfInBounds_toArray, List.set_cons_zero, List.set_cons_succ])
                | (refine pl_qc rfl rfl ?_; apply Exists.intro; refine ⟨fun w' _ => ?_, ?_⟩; (· (go_simp; exact rfl)); simp only [List.getElem_toArray, List.getElem_cons_zero, List.getElem_cons_succ, Act.put, List.setIfInBounds_toArray, List.set_cons_zero, List.set_cons_succ])
                | (refine pl_skip (by assumption) rfl rfl ?_; simp only [List.getElem_toArray, List.getElem_cons_zero, List.getElem_cons_succ, Act.put, List.setIfInBounds_toArray, List.set_cons_zero, List.set_cons_succ])
                | (refine pl_skipl (by assumption) rfl rfl ?_; simp only [List.getElem_toArray, List.getElem_cons_zero, List.getElem_cons_succ, Act.put, List.setIfInBounds_toArray, List.set_cons_zero, List.set_cons_succ]))
              refine pl_nil ?_
              go_wp2
              go_ret
              exact ⟨ret_int HQ.out.symm, hbW.trans ((hbl5.trans (hS6.mono hbl5.size)).mono hzW)⟩
        · have HQ : Hid (Q = 0) := by
            show _ = _
            rw [HQ1.out, if_neg]
            rw [Bool.not_eq_true]
            exact any_range_false fun j hj => hok.out j (by omega)
          go_wp2
          go_ret
          exact ⟨ret_int HQ.out.symm, hblw2⟩
end Go.Proofs.YtbcoecmeoemmeaaGreatDoor

namespace Go.Proofs.YtbcoecmeoemmeaaGreatDoor
open Go.ChangeShapes Go.WideShapes Go.ChangeAt Go.RowKit
set_option linter.unusedVariables false
set_option linter.unusedSimpArgs false
theorem wpList_store_blkD {P : Program} {ops : Array Oper} {rest : List Oper} {o : Oper} {a : Act} {w : World} {Q : Exit → Act → World → Prop} {t te : TypeId} {x y : Operand} {g off n : Nat} {cs : Array Value} {v : Value} (hgd : o.guard = none)
    (ho : o.op = .store t x y) (hx : a.eval x = .pointer (some ⟨g, off, none⟩)) (hy : a.eval y = v) (hi : (P.info? t).map (·.size) = some n) (hn : v.cells.size = n) (hb : Blk w g te cs) (hfit : off + n ≤ cs.size) (h1 : (v.cells.toList.all fun u => u.oneCell') = true)
    (h : ∀ w', Blk w' g te (cs.toList.take off ++ (v.cells.toList ++ cs.toList.drop (off + n))).toArray → w.grownBy w' (some g) → wpList P ops Q rest (a.put o.dst undef) w') : wpList P ops Q (o :: rest) a w :=
  wpList_plain hgd fun _ hK => wp_store_blk ho hx hy hi hn hb hfit h1 fun w' h2 h3 => hK _ _ (h w' h2 h3)
theorem OwnSl.low {α : Type} {sz : Nat} {R : View → List Value → α → Prop} (hR : Mono R) {e : TypeId} {w w' : World} {b g : Nat} {v : Value} {xs : List α} (h : OwnSl sz (RFrom b R) e w b v xs) (hg : w.grownBy w' (some g)) (hne : g < b) : OwnSl sz (RFrom b R) e w' b v xs := by
  obtain ⟨css, h1, h2, h3⟩ := h.own
  have hlt := h1.lt
  refine ⟨css, h1.kept hg (.inr (fun e => by have := (hlt g e).1; omega)), h2, fun i hi => ?_⟩
  obtain ⟨cs, q1, q2, q3⟩ := h3 i hi
  refine ⟨cs, q1, q2, hR _ _ _ _ q3 (fun a u hu => ?_)⟩
  unfold View.from at hu ⊢
  split at hu
  · cases hu
  · rename_i hlt'
    rw [if_neg hlt']
    unfold View.but at hu ⊢
    split at hu
    · cases hu
    · rename_i hne'
      rw [if_neg hne']
      exact hg.cell hu (by intro e; injection e; omega)
theorem OwnSl.low_ne {α : Type} {sz : Nat} {R : View → List Value → α → Prop} {e : TypeId} {w : World} {b g : Nat} {v : Value} {xs : List α} (h : OwnSl sz R e w b v xs) (hg : g < b) : some g ≠ v.ownBlock := fun e => by have := (h.lt g e.symm).1; omega
theorem RFrom.weaken {α : Type} {b b' : Nat} {R : View → List Value → α → Prop} (hR : Mono R) (hb : b' ≤ b) {h : View} {cs : List Value} {x : α} (hr : RFrom b R h cs x) : RFrom b' R h cs x := hR _ _ _ _ hr (from_from hb)
theorem OwnSl.baseR {α : Type} {sz : Nat} {R : View → List Value → α → Prop} (hR : Mono R) {e : TypeId} {w : World} {b b' : Nat} {v : Value} {xs : List α} (h : OwnSl sz (RFrom b R) e w b v xs) (hb : b' ≤ b) : OwnSl sz (RFrom b' R) e w b' v xs := by
  obtain ⟨css, h1, h2, h3⟩ := (h.base hb).own
  exact ⟨css, h1, h2, fun i hi => by obtain ⟨cs, q1, q2, q3⟩ := h3 i hi; exact ⟨cs, q1, q2, RFrom.weaken hR hb q3⟩⟩
set_option maxHeartbeats 4000000 in
set_option maxRecDepth 100000 in
theorem dagCopy_any (vl : Value) (l : List Crt) (w : World) (hl : RCrts w.cell? vl l) :
    Calls Tryz.prog 13 #[.agg #[vl]] w fun e w' => ∃ v', e = .returned (.agg #[v']) ∧ Below w.heap.size w w' ∧ OwnSl 5 (RFrom w.heap.size RCrt) 68 w' w.heap.size v' l := by
  obtain ⟨A, c, rfl, hform⟩ := id hl
  obtain ⟨_, hn1, hn2, hel⟩ := hl.at
  have Hel := Lib.hid hel
  clear hel hform hl
  go_enter Tryz.func13, Tryz.ntmps13
  go_upto_region 1 with fail
  refine two_blocks _ _ _ _ _ (fun W => Code.wp _ _ _ _ W) (fun W hb1 hb2 hsz hbW => ?_)
  have hzW := hbW.size
  have hszI : w.heap.size + 2 ≤ W.heap.size := by omega
  clear hsz
  have g0 := hb1.cell 0
  simp at g0
  go_wp2
  go_loopw [4, 5] (fun i _ wr => ∃ k : Nat, k ≤ l.length ∧ i = .int .i64 k ∧ ∃ v', Blk wr W.heap.size 39 #[v'] ∧ OwnSl 5 (RFrom (W.heap.size + 1) RCrt) 68 wr (W.heap.size + 1) v' (l.take k) ∧ Below W.heap.size W wr ∧ W.heap.size + 1 ≤ wr.heap.size) (fun i _ _ => l.length - (intOf i).toNat)
  case atStart => exact ⟨0, Nat.zero_le _, rfl, _, Blk.new _ _ _, OwnSl.nil _ _ _ _ _, below_one _ _, by simp⟩
  case round =>
    clear g0
    obtain ⟨k, hk, rfl, v', hB, hown, hbl, hz⟩ := hrel
    have hb1k := hb1.kept hbl
    have g0 := hb1k.cell 0
    simp at g0
    have hlt0 : w.heap.size < wr.heap.size := by have := hbl.size; omega
    have hblw := hbW.trans (hbl.mono hzW)
    by_cases hlt : k < l.length
    · obtain ⟨b0, o0, vb, vp, vv, rfl, q0, q1, q2, q3, q4, hb, hp, hv⟩ := Hel.out k hlt
      have c0 := vle_below hblw _ _ q0; have c1 := vle_below hblw _ _ q1; have c2 := vle_below hblw _ _ q2; have c3 := vle_below hblw _ _ q3; have c4 := vle_below hblw _ _ q4
      have hb' := hb.mono RDig.mono (vle_below hblw)
      have hp' := hp.mono RDig.mono (vle_below hblw)
      have hv' := hv.mono (vle_below hblw)
      have Hn := Lib.hid (List.take_succ_eq_append_getElem hlt)
      have Hlk := Lib.hid (show (l.take k).length = k by simp; omega)
      clear q0 q1 q2 q3 q4 hb hp hv
      generalize l.take k = L at hown Hn Hlk
      generalize l[k] = x at *
      go_wp2_with fail
      refine (certCopy_any _ _ _ _ _ x.hdr.batches x.hdr.parents x.voters _ hb' hp' hv').mono ?_
      rintro e w1 ⟨ub, up, uv, rfl, hj, r1, r2, r3⟩
      have hbl1 := hbl.trans (hj.mono hbl.size)
      have hB1 := hB.kept hj
      have hown1 := hown.kept (RFrom.mono RCrt.mono) hj
      have hlto := hown.lt
      have hz1 := hj.size
      obtain ⟨A1, c1', rfl, hf1⟩ := id r1
      obtain ⟨A2, c2', rfl, hf2⟩ := id r2
      obtain ⟨A3, c3', rfl, hf3⟩ := id r3
      clear hf1 hf2 hf3 hB hown c0 c1 c2 c3 c4 g0 hb' hp' hv'
      obtain ⟨nA, nc, rfl⟩ := hown1.form
      have hne := hown1.low_ne (g := W.heap.size) (by omega)
      have hne0 := hown1.low_ne (g := w.heap.size) (by omega)
      have d0 := hB1.cell 0
      simp at d0
      have hltB : W.heap.size < w1.heap.size := by omega
      have hzW1 : W.heap.size + 1 ≤ w1.heap.size := by omega
      have rR : RFrom (W.heap.size + 1) RCrt (View.but w1.cell? (Value.slice nA L.length nc).ownBlock) [.int .i64 x.hdr.author, .int .i64 x.hdr.round, .slice A1 x.hdr.batches.length c1', .slice A2 x.hdr.parents.length c2', .slice A3 x.voters.length c3'] x := by
        have q : VLe (View.from w1.cell? wr.heap.size) (View.from (View.but w1.cell? (Value.slice nA L.length nc).ownBlock) (W.heap.size + 1)) := from_from_but hz (fun g hg => (hlto g hg).2)
        exact ⟨_, _, _, rfl, r1.mono RDig.mono q, r2.mono RDig.mono q, r3.mono q⟩
      have hb1k1 := hb1k.kept hj
      clear r1 r2 r3 hj hb1k hlto
      go_wp2_with (at_builtin; go_loud (refine wpList_append_sl1 (n := 140737488355328) (RFrom.mono RCrt.mono) x [.int .i64 x.hdr.author, .int .i64 x.hdr.round, .slice A1 x.hdr.batches.length c1', .slice A2 x.hdr.parents.length c2', .slice A3 x.voters.length c3'] elemCrt _ _ rfl rfl rfl (hown1.kept (RFrom.mono RCrt.mono) (below_one _ _)) (W := w1) ((Below.refl _ _).alloc hzW1 _) (le_alloc _ hzW1) rfl (by simp) rfl rfl (RFrom.mono RCrt.mono _ _ _ _ rR (but_below (below_one _ _) _)) (Nat.le_refl _) (by rw [Hlk.out]; omega) (by rw [Hlk.out]; omega) ?_))
      intro v2 w2 ho hbl2 hg2
      have hzA : w1.heap.size ≤ (w1.alloc (.cells #[.int .i64 x.hdr.author, .int .i64 x.hdr.round, .slice A1 x.hdr.batches.length c1', .slice A2 x.hdr.parents.length c2', .slice A3 x.voters.length c3'] 68)).heap.size := by simp
      have hz2 := hbl2.size
      have hg2' : w1.grownBy w2 (Value.slice nA L.length nc).ownBlock := grownBy_trans (World.grownBy_alloc w1 _ _) hg2
      have hB2 := hB1.grown hg2' hne
      have hblw2 : Below W.heap.size W w2 := below_grownBy hbl1 hbl1.size hg2' (fun q hq => by have := (hown1.lt q hq).1; omega)
      obtain ⟨mA, mc, rfl⟩ := ho.form
      have hLl : (L ++ [x]).length = k + 1 := by rw [List.length_append, Hlk.out]; rfl
      rw [hLl] at ho
      rw [← Hn.out] at ho
      clear hg2 hg2' hown1 rR d0 hB1 hbl2
      go_wp2_with (refine wpList_store_blkD (n := 1) rfl rfl rfl rfl (by kernel_rfl) rfl hB2 (by simp) rfl ?_)
      intro w3 hB3 hg3
      have hB3 : Blk w3 W.heap.size 39 #[.slice mA (k + 1) mc] := hB3
      have ho3 := ho.low RCrt.mono hg3 (by omega)
      have hbl3 : Below W.heap.size W w3 := below_grownBy hblw2 hblw2.size hg3 (by intro q e; injection e; omega)
      have hz3 := hg3.size
      clear hB2 ho hg3
      go_wp2
      go_roundw
      case rel => exact ⟨k + 1, by omega, by go_num, _, hB3, ho3, hbl3, by omega⟩
      case measure => simp [intOf]; omega
    · have hkl : k = l.length := by omega
      rw [hkl, List.take_length] at hown
      obtain ⟨nA, nc, rfl⟩ := hown.form
      have hb2k := hb2.kept hbl
      have d0 := hB.cell 0
      simp at d0
      go_wp2_with (refine wpList_store_whole (n := 1) rfl rfl rfl rfl (by kernel_rfl) rfl hb2k rfl rfl ?_)
      intro w3 hB3 hg3
      have hown3 := hown.low RCrt.mono hg3 (by omega)
      go_wp2
      refine bodyPost_ret (results_blk rfl rfl (by kernel_rfl) (by kernel_rfl) hB3 rfl) rfl ?_
      exact ⟨_, rfl, below_grownBy hblw hblw.size hg3 (by intro k e; injection e; omega), hown3.baseR RCrt.mono (by omega)⟩
end Go.Proofs.YtbcoecmeoemmeaaGreatDoor

namespace Go.Proofs.YtbcoecmeoemmeaaGreatDoor
open Go.ChangeShapes Go.WideShapes Go.ChangeAt Go.RowKit
set_option linter.unusedVariables false
set_option linter.unusedSimpArgs false
theorem below_2 (w : World) (o1 o2 : Obj) : Below w.heap.size w ((w.alloc o1).alloc o2) := ((Below.refl _ _).alloc (Nat.le_refl _) _).alloc (le_alloc _ (Nat.le_refl _)) _
set_option maxHeartbeats 1000000 in
set_option maxRecDepth 100000 in
theorem sameTexts_same (va vb : Value) (l : List ByteArray) (w : World) (ha : RTexts w.cell? va l) (hb : RTexts w.cell? vb l) :
    Calls Tryz.prog 16 #[va, vb] w fun e w' => e = .returned (.bool true) ∧ Below w.heap.size w w' := by
  obtain ⟨A, c, rfl, hlen, hel⟩ := ha.form
  obtain ⟨B, d, rfl, _, hel2⟩ := hb.form
  have Hel := Lib.hid hel
  have Hel2 := Lib.hid hel2
  clear hel hel2 ha hb
  go_enter Tryz.func16, Tryz.ntmps16
  go_wp2
  go_loopw [5] (fun i wr => ∃ k : Nat, k ≤ l.length ∧ i = .int .i64 k ∧ Below w.heap.size w wr) (fun i _ => l.length - (intOf i).toNat)
  case atStart => exact ⟨0, Nat.zero_le _, rfl, Below.refl _ _⟩
  case round =>
    obtain ⟨k, hk, rfl, hbl⟩ := hrel
    by_cases hlt : k < l.length
    · obtain ⟨b0, o0, rfl, hcell⟩ := Hel.out k hlt
      obtain ⟨b1, o1, rfl, hcell2⟩ := Hel2.out k hlt
      have c1 : wr.cell? ⟨b0, o0 + k, none⟩ = some (.string l[k]) := vle_below hbl _ _ hcell
      have c2 : wr.cell? ⟨b1, o1 + k, none⟩ = some (.string l[k]) := vle_below hbl _ _ hcell2
      clear hcell hcell2
      go_wp2
      refine wp_region_plan (fun w' => Below wr.heap.size wr w') [(0, true), (1, true), (2, true), (3, true), (4, true), (5, true), (6, true), (7, true), (8, true)] (by kernel_rfl) (by kernel_rfl) (fun _ _ d _ _ h => by cases d <;> exact h) rfl (by kernel_rfl) ?_ ?_
      · exact below_drew _
      intro W1 hS
      repeat (first
        | (refine wpPlan_takes rfl rfl ?_; apply Exists.intro; refine ⟨fun w' hS => ?_, ?_⟩; (· (have h1 := vle_below hS _ _ c1; have h2 := vle_below hS _ _ c2; go_simp; exact rfl)); simp only [List.getElem_toArray, List.getElem_cons_zero, List.getElem_cons_succ, Act.put, List.setIfInBounds_toArray, List.set_cons_zero, List.set_cons_succ])
        | (refine wpPlan_skip (by assumption) rfl rfl ?_; simp only [List.getElem_toArray, List.getElem_cons_zero, List.getElem_cons_succ, Act.put, List.setIfInBounds_toArray, List.set_cons_zero, List.set_cons_succ]))
      refine wpPlan_nil ?_
      go_wp2
      go_roundw
      case rel => exact ⟨k + 1, by omega, by go_num, hbl.trans (hS.mono hbl.size)⟩
      case measure => simp [intOf]; omega
    · go_wp2
      go_ret
      exact ⟨rfl, hbl⟩
set_option maxHeartbeats 1000000 in
set_option maxRecDepth 100000 in
theorem sameBatch_same (a r : Int) (va vb : Value) (l : List ByteArray) (w : World) (ha : RTexts w.cell? va l) (hb : RTexts w.cell? vb l) :
    Calls Tryz.prog 34 #[.agg #[.int .i64 a, .int .i64 r, va], .agg #[.int .i64 a, .int .i64 r, vb]] w fun e w' => e = .returned (.bool true) ∧ Below w.heap.size w w' := by
  go_enter Tryz.func34, Tryz.ntmps34
  go_wp2_with fail
  refine (sameTexts_same _ _ l _ (ha.mono (vle_below (below_2 _ _ _))) (hb.mono (vle_below (below_2 _ _ _)))).mono ?_
  rintro e w1 ⟨rfl, hk⟩
  go_wp2
  go_ret
  exact ⟨rfl, (below_2 _ _ _).trans (hk.mono (by simp; omega))⟩
end Go.Proofs.YtbcoecmeoemmeaaGreatDoor

namespace Go.Proofs.YtbcoecmeoemmeaaGreatDoor
open Go.ChangeShapes Go.WideShapes Go.ChangeAt Go.RowKit
set_option linter.unusedVariables false
set_option linter.unusedSimpArgs false
def missE (l : List Crt) (h : Hdr) : Int := if dagF hD cF l ≠ 0 then dagF hD cF l else if hF h ≠ 0 then hF h else if missW l (dsOf hD l) h then 9 else 0
def missL (l : List Crt) (h : Hdr) : List (List UInt8) := if missE l h = 0 then missN (dsOf hD l) h else []
theorem dag_valid {l : List Crt} (h : dagF hD cF l = 0) : l.length ≤ 400 ∧ (∀ c ∈ l, hF c.hdr = 0) := ⟨(dagF_zero h).1, fun c hc => cF_hF ((dagF_zero h).2.1 c hc)⟩
theorem RDigs.of_own {w : World} {b : Nat} {v : Value} {xs : List (List UInt8)} {bb : Nat} (h : OwnSl 1 (RFrom bb RDig) 41 w b v xs) (hl : xs.length * 24 ≤ 140737488355328) : RDigs w.cell? v xs :=
  RSl.weak (fun h cs x hr => RDig.mono _ _ _ _ hr (View.from_le _ _)) (h.reads (RFrom.mono RDig.mono) hl)
theorem RDigs.nil (h : View) : RDigs h (.slice none 0 0) [] := ⟨none, 0, rfl, Nat.le_refl _, Nat.zero_le _, by simp, fun _ => rfl, fun h => by simp at h⟩
set_option maxHeartbeats 4000000 in
set_option maxRecDepth 100000 in
theorem dagMissing_any (vl : Value) (l : List Crt) (h : Hdr) (vb vp : Value) (w : World) (hl : RCrts w.cell? vl l) (hb : RDigs w.cell? vb h.batches) (hp : RDigs w.cell? vp h.parents) (hT : Tabs w.cell?) :
    Calls Tryz.prog 149 #[.agg #[vl], .agg #[.int .i64 h.author, .int .i64 h.round, vb, vp]] w fun e w' => ∃ d, e = .returned (.tuple #[d, .int .i64 (missE l h)]) ∧ Below w.heap.size w w' ∧ RDigs w'.cell? d (missL l h) := by
  obtain ⟨A, c, rfl, hf0⟩ := id hl
  obtain ⟨bA, bc, rfl, hf1⟩ := id hb
  obtain ⟨pA, pc, rfl, hf2⟩ := id hp
  clear hf0 hf1 hf2
  have hpl : h.parents.length * 24 ≤ 140737488355328 := by obtain ⟨_, _, _, _, _, h, _⟩ := hp; exact h
  obtain ⟨QE, hQE⟩ : ∃ q, Hid (missE l h = q) := ⟨_, rfl⟩
  obtain ⟨QL, hQL⟩ : ∃ q, Hid (missL l h = q) := ⟨_, rfl⟩
  have hE0 : Hid (QE = if dagF hD cF l ≠ 0 then dagF hD cF l else if hF h ≠ 0 then hF h else if missW l (dsOf hD l) h then 9 else 0) := hQE.out.symm
  have hL0 : Hid (QL = if QE = 0 then missN (dsOf hD l) h else []) := by show _ = _; rw [← hQL.out]; unfold missL; rw [hQE.out]
  have hvalid : Hid (dagF hD cF l = 0 → l.length ≤ 400 ∧ (∀ c ∈ l, hF c.hdr = 0)) := dag_valid
  have hhdr : Hid (hF h = 0 → 1 ≤ h.round ∧ h.round ≤ 1048576) := fun h0 => by obtain ⟨a, b, _⟩ := headF_zero h0; exact ⟨a, b⟩
  rw [hQE.out, hQL.out]
  clear hQE hQL
  obtain ⟨E1, hE1⟩ : ∃ q, Hid (dagF hD cF l = q) := ⟨_, rfl⟩
  obtain ⟨E2, hE2⟩ : ∃ q, Hid (hF h = q) := ⟨_, rfl⟩
  rw [hE1.out, hE2.out] at hE0
  rw [hE1.out] at hvalid
  rw [hE2.out] at hhdr
  go_enter Tryz.func149, Tryz.ntmps149
  go_wp2_with fail
  refine two_blocks _ _ _ _ _ (fun W => Calls Tryz.prog _ _ W _) (fun W hk1 hk2 hsz hbW => ?_)
  clear hsz
  refine (dagCheck_any _ l _ (hl.mono RCrt.mono (vle_below hbW)) (hT.mono (vle_below hbW))).mono ?_
  rintro e w1 ⟨rfl, hb1⟩
  rw [hE1.out]
  have hbl1 := hbW.trans (hb1.mono hbW.size)
  have hk11 := hk1.kept hb1
  have hk21 := hk2.kept hb1
  have hz1 := hbl1.size
  by_cases h1 : E1 = 0
  · have hv := Lib.hid (hvalid.out h1)
    have hE0 : Hid (QE = if E2 ≠ 0 then E2 else if missW l (dsOf hD l) h then 9 else 0) := by show _ = _; rw [hE0.out]; simp [h1]
    clear hvalid hE1
    subst h1
    have g0 := hk21.cell 0; have g1 := hk21.cell 1; have g2 := hk21.cell 2; have g3 := hk21.cell 3
    simp at g0 g1 g2 g3
    go_wp2_with fail
    refine (checkHeader_any _ _ _ _ h.batches h.parents _ (hb.mono RDig.mono (vle_below hbl1)) (hp.mono RDig.mono (vle_below hbl1))).mono ?_
    rintro e w2 ⟨rfl, hb2⟩
    rw [show headF h.author h.round h.batches h.parents = E2 from hE2.out]
    have hbl2 := hbl1.trans (hb2.mono hz1)
    have hk12 := hk11.kept hb2
    have hk22 := hk21.kept hb2
    have hz2 := hbl2.size
    clear g0 g1 g2 g3
    by_cases h2 : E2 = 0
    · have hr := hhdr.out h2
      have hE0 : Hid (QE = if missW l (dsOf hD l) h then 9 else 0) := by show _ = _; rw [hE0.out]; simp [h2]
      clear hhdr hE2
      subst h2
      have hl2 := hl.mono RCrt.mono (vle_below hbl2)
      have hp2 := hp.mono RDig.mono (vle_below hbl2)
      have hT2 := hT.mono (vle_below hbl2)
      go_wp2_with fail
      refine wp_region_pl (fun w' => Below w2.heap.size w2 w') [11] (.q 0 (.q 1 (.q 2 (.q 3 (.q 5 (.l 4 (.l 6 (.q 7 (.q 8 (.q 9 (.q 10 (.qc 11 .nil)))))))))))) (by kernel_rfl) (by kernel_rfl) (fun _ _ d _ _ h => by cases d <;> exact h) rfl (by kernel_rfl) ?_ ?_
      · exact below_drew _
      intro W3 hS3
      repeat (first
        | (refine pl_q (by assumption) rfl rfl ?_; apply Exists.intro; refine ⟨fun w' hS => ?_, ?_⟩; (· (have hq := hk12.kept hS; have h0 := hq.cell 0; have hh := hk22.kept hS; have p0 := hh.cell 0; have p1 := hh.cell 1; have p2 := hh.cell 2; have p3 := hh.cell 3; simp at h0 p0 p1 p2 p3; go_simp; exact rfl)); simp only [List.getElem_toArray, List.getElem_cons_zero, List.getElem_cons_succ, Act.put, List.setIfInBounds_toArray, List.set_cons_zero, List.set_cons_succ])
        | (refine pl_qc rfl rfl ?_; apply Exists.intro; refine ⟨fun w' _ => ?_, ?_⟩; (· (go_simp; exact rfl)); simp only [List.getElem_toArray, List.getElem_cons_zero, List.getElem_cons_succ, Act.put, List.setIfInBounds_toArray, List.set_cons_zero, List.set_cons_succ])
        | (refine pl_skip (by assumption) rfl rfl ?_; simp only [List.getElem_toArray, List.getElem_cons_zero, List.getElem_cons_succ, Act.put, List.setIfInBounds_toArray, List.set_cons_zero, List.set_cons_succ])
        | (refine pl_skipl (by assumption) rfl rfl ?_; simp only [List.getElem_toArray, List.getElem_cons_zero, List.getElem_cons_succ, Act.put, List.setIfInBounds_toArray, List.set_cons_zero, List.set_cons_succ]))
      first
        | refine pl_do rfl rfl (fun K hK => ?_)
        | refine op_do rfl rfl (fun K hK => ?_)
      try simp only [List.getElem_toArray, List.getElem_cons_zero, List.getElem_cons_succ]
      go_simp
      refine (all_any _ l _ (hl2.mono RCrt.mono (vle_below hS3)) hv.out.2 (hT2.mono (vle_below hS3))).mono ?_
      rintro e w4 ⟨vd, rfl, hb4, od⟩
      have hS4 := hS3.trans (hb4.mono hS3.size)
      have rD := RDigs.of_own od (by rw [dsOf_len]; have := hv.out.1; omega)
      have hlen : (dsOf hD l).length ≤ l.length := by rw [dsOf_len]; omega
      clear od
      generalize dsOf hD l = Ds at rD hlen hE0 hL0
      obtain ⟨dA, dc, rfl, hfd⟩ := id rD
      clear hfd
      refine hK.out _ _ (hS4) (fun hS => ?_)
      clear hK K
      try simp only [List.getElem_toArray, List.getElem_cons_zero, List.getElem_cons_succ, Act.put, List.setIfInBounds_toArray, List.set_cons_zero, List.set_cons_succ]
      repeat (first
        | (refine pl_q (by assumption) rfl rfl ?_; apply Exists.intro; refine ⟨fun w' hS => ?_, ?_⟩; (· (have hh := hk22.kept hS; have p0 := hh.cell 0; have p1 := hh.cell 1; have p2 := hh.cell 2; have p3 := hh.cell 3; simp at p0 p1 p2 p3; go_simp; exact rfl)); simp only [List.getElem_toArray, List.getElem_cons_zero, List.getElem_cons_succ, Act.put, List.setIfInBounds_toArray, List.set_cons_zero, List.set_cons_succ])
        | (refine pl_qc rfl rfl ?_; apply Exists.intro; refine ⟨fun w' _ => ?_, ?_⟩; (· (go_simp; exact rfl)); simp only [List.getElem_toArray, List.getElem_cons_zero, List.getElem_cons_succ, Act.put, List.setIfInBounds_toArray, List.set_cons_zero, List.set_cons_succ])
        | (refine pl_skip (by assumption) rfl rfl ?_; simp only [List.getElem_toArray, List.getElem_cons_zero, List.getElem_cons_succ, Act.put, List.setIfInBounds_toArray, List.set_cons_zero, List.set_cons_succ])
        | (refine pl_skipl (by assumption) rfl rfl ?_; simp only [List.getElem_toArray, List.getElem_cons_zero, List.getElem_cons_succ, Act.put, List.setIfInBounds_toArray, List.set_cons_zero, List.set_cons_succ]))
      first
        | refine pl_do rfl rfl (fun K hK => ?_)
        | refine op_do rfl rfl (fun K hK => ?_)
      try simp only [List.getElem_toArray, List.getElem_cons_zero, List.getElem_cons_succ]
      go_simp
      refine (missing_any _ _ l Ds h _ _ _ (hl2.mono RCrt.mono (vle_below hS4)) rD (hp2.mono RDig.mono (vle_below hS4)) hlen hr.1 hr.2).mono ?_
      rintro e w5 ⟨v5, rfl, hb5, o5⟩
      have hS5 := hS4.trans (hb5.mono hS4.size)
      have r5 := RDigs.of_own o5 (Nat.le_trans (Nat.mul_le_mul_right _ (List.length_filter_le _ _)) hpl)
      obtain ⟨A5, c5, rfl⟩ := o5.form
      clear o5 rD
      generalize missN Ds h = N at r5 hL0
      generalize missW l Ds h = MW at hE0
      refine hK.out _ _ (hS5) (fun hS => ?_)
      clear hK K
      try simp only [List.getElem_toArray, List.getElem_cons_zero, List.getElem_cons_succ, Act.put, List.setIfInBounds_toArray, List.set_cons_zero, List.set_cons_succ]
      repeat (first
        | (refine pl_q (by assumption) rfl rfl ?_; apply Exists.intro; refine ⟨fun w' hS => ?_, ?_⟩; (· (skip; go_simp; exact rfl)); simp only [List.getElem_toArray, List.getElem_cons_zero, List.getElem_cons_succ, Act.put, List.setIfInBounds_toArray, List.set_cons_zero, List.set_cons_succ])
        | (refine pl_qc rfl rfl ?_; apply Exists.intro; refine ⟨fun w' _ => ?_, ?_⟩; (· (go_simp; exact rfl)); simp only [List.getElem_toArray, List.getElem_cons_zero, List.getElem_cons_succ, Act.put, List.setIfInBounds_toArray, List.set_cons_zero, List.set_cons_succ])
        | (refine pl_skip (by assumption) rfl rfl ?_; simp only [List.getElem_toArray, List.getElem_cons_zero, List.getElem_cons_succ, Act.put, List.setIfInBounds_toArray, List.set_cons_zero, List.set_cons_succ])
        | (refine pl_skipl (by assumption) rfl rfl ?_; simp only [List.getElem_toArray, List.getElem_cons_zero, List.getElem_cons_succ, Act.put, List.setIfInBounds_toArray, List.set_cons_zero, List.set_cons_succ]))
      refine pl_nil ?_
      have hbl5 := hbl2.trans (hS5.mono hz2)
      clear hk12 hk22 hk11 hk21 hl2 hp2 hT2
      cases MW
      · have HE : Hid (QE = 0) := by show _ = _; rw [hE0.out]; rfl
        have HL : Hid (QL = N) := by show _ = _; rw [hL0.out, if_pos HE.out]
        clear hE0 hL0
        go_wp2
        go_ret2
        exact ⟨_, by rw [HE.out]; rfl, hbl5, by rw [HL.out]; exact r5⟩
      · have HE : Hid (QE = 9) := by show _ = _; rw [hE0.out]; rfl
        have HL : Hid (QL = []) := by show _ = _; rw [hL0.out, if_neg (by rw [HE.out]; decide)]
        clear hE0 hL0
        go_wp2
        go_ret2
        exact ⟨_, by rw [HE.out]; rfl, hbl5, by rw [HL.out]; exact RDigs.nil _⟩
    · have HE : Hid (QE = E2) := by show _ = _; rw [hE0.out]; simp [h2]
      have HL : Hid (QL = []) := by show _ = _; rw [hL0.out, HE.out, if_neg h2]
      clear hE0 hL0
      go_wp2
      go_ret2
      exact ⟨_, by rw [HE.out]; rfl, hbl2, by rw [HL.out]; exact RDigs.nil _⟩
  · have HE : Hid (QE = E1) := by show _ = _; rw [hE0.out, if_pos h1]
    have HL : Hid (QL = []) := by show _ = _; rw [hL0.out, HE.out, if_neg h1]
    clear hE0 hL0
    go_wp2
    go_ret2
    exact ⟨_, by rw [HE.out]; rfl, hbl1, by rw [HL.out]; exact RDigs.nil _⟩
end Go.Proofs.YtbcoecmeoemmeaaGreatDoor

namespace Go.Proofs.YtbcoecmeoemmeaaGreatDoor
open Go.ChangeShapes Go.WideShapes Go.ChangeAt Go.RowKit
set_option linter.unusedVariables false
set_option linter.unusedSimpArgs false
set_option maxHeartbeats 2000000 in
set_option maxRecDepth 100000 in
theorem cloneI_any (v : Value) (xs : List Int) (w : World) (hr : RIs w.cell? v xs) :
    Calls Tryz.prog 77 #[v] w fun e w' => ∃ v', e = .returned v' ∧ Below w.heap.size w w' ∧ OwnI w' w.heap.size v' xs := by
  have hb : xs.length * 8 ≤ 140737488355328 := hr.len
  have hb1 := Lib.hid hb
  obtain ⟨A, c, rfl, hf⟩ := id hr
  have e1 := @Lib.run_eql_slice_nil Tryz.prog
  clear hb hf
  cases A with
  | none =>
    obtain ⟨rfl, h1, rfl⟩ := hr.isNil
    go_enter Tryz.func77, Tryz.ntmps77
    go_wp2
    go_ret
    exact ⟨_, rfl, Below.refl _ _, OwnVec.nil _ _ _ _⟩
  | some a =>
    have hr' := hr.mono (vle_below ((Below.refl _ _).alloc (Nat.le_refl _) (.cells #[] 3)))
    clear hr
    go_enter Tryz.func77, Tryz.ntmps77
    go_wp2_with (at_builtin; refine wpList_append_vec (n := 140737488355328) elemI encI_one _ _ rfl rfl rfl (OwnVec.made _ _ _ _ (Nat.le_refl _)) ((Below.refl _ _).alloc (Nat.le_refl _) _) (le_alloc _ (Nat.le_refl _)) rfl hr' (Nat.le_refl _) (by simpa using hb1.out) (by have := hb1.out; simp; omega) ?_)
    intro v' w1 ho hbl _
    go_wp2
    go_ret
    exact ⟨v', rfl, hbl, by simpa using ho⟩
set_option maxHeartbeats 2000000 in
set_option maxRecDepth 100000 in
theorem dagDigests_any (v : Value) (l : List (List UInt8)) (w : World) (hv : RDigs w.cell? v l) :
    Calls Tryz.prog 91 #[v] w fun e w' => ∃ v', e = .returned v' ∧ Below w.heap.size w w' ∧ OwnSl 1 (RFrom w.heap.size RDig) 41 w' w.heap.size v' l := by
  obtain ⟨A, c, rfl, hf⟩ := id hv
  obtain ⟨_, hcap, hlen, hel⟩ := hv.at
  have Hel := Lib.hid hel
  clear hel hv hf
  go_enter Tryz.func91, Tryz.ntmps91
  go_wp2
  go_loopw [3, 5, 8] (fun v _ i wr => ∃ k : Nat, k ≤ l.length ∧ i = .int .i64 k ∧ OwnSl 1 (RFrom w.heap.size RDig) 41 wr w.heap.size v (l.take k) ∧ Below w.heap.size w wr) (fun _ _ i _ => l.length - (intOf i).toNat)
  case atStart => exact ⟨0, Nat.zero_le _, rfl, OwnSl.nil _ _ _ _ _, Below.refl _ _⟩
  case round =>
    obtain ⟨k, hk, rfl, hown, hbl⟩ := hrel
    have hbs := hbl.size
    by_cases hlt : k < l.length
    · obtain ⟨b0, o0, d, rfl, e0, hd⟩ := Hel.out k hlt
      have c0 := vle_below hbl _ _ e0
      have hd' := hd.mono (vle_below hbl)
      have Hlk := Lib.hid (show (l.take k).length = k by simp; omega)
      have Hn := Lib.hid (List.take_succ_eq_append_getElem hlt)
      have hdl := Lib.hid (show l[k].length * 1 ≤ 140737488355328 from hd.len)
      clear e0 hd
      generalize l.take k = L at hown Hlk Hn
      generalize l[k] = x at hd' hdl Hn
      obtain ⟨xA, xc, rfl, hfx⟩ := id hd'
      clear hfx
      go_wp2_with fail
      refine (cloneB_any _ x _ hd').mono ?_
      rintro e w1 ⟨d', rfl, hb1, o1⟩
      have hown1 := hown.kept (RFrom.mono RDig.mono) hb1
      have hbl1 : Below w.heap.size w w1 := hbl.trans (hb1.mono hbs)
      have hR : RFrom w.heap.size RDig (View.but w1.cell? u3.ownBlock) [d'] x :=
        ⟨d', rfl, o1.reads_from hdl.out hbs (fun g hg => (hown.lt g hg).2)⟩
      have hs1 := hbl1.size
      obtain ⟨A', c', rfl⟩ := o1.form
      clear c0 hd' o1
      go_wp2_with (at_builtin; go_loud (refine wpList_append_sl1 (n := 140737488355328) (RFrom.mono RDig.mono) x [.slice A' x.length c'] elemDig _ _ rfl rfl rfl hown1 hbl1 hs1 rfl rfl rfl rfl hR (Nat.le_refl _) (by rw [Hlk.out]; omega) (by rw [Hlk.out]; omega) ?_))
      intro v' w2 ho hbl2 _
      clear hown hown1 hR
      go_wp2
      go_roundw
      case rel => exact ⟨k + 1, by omega, by go_num, by rw [Hn.out]; exact ho, hbl2⟩
      case measure => simp [intOf]; omega
    · have : k = l.length := by omega
      subst this
      go_wp2
      go_ret
      exact ⟨_, rfl, hbl, by simpa using hown⟩
set_option maxHeartbeats 4000000 in
set_option maxRecDepth 100000 in
theorem dagOwn_any (a r : Int) (vb vp vv : Value) (b p : List (List UInt8)) (vs : List Int) (w : World) (hb : RDigs w.cell? vb b) (hp : RDigs w.cell? vp p) (hv : RIs w.cell? vv vs) :
    Calls Tryz.prog 49 #[.agg #[.int .i64 a, .int .i64 r, vb, vp, vv]] w fun e w' => ∃ vb' vp' vv', e = .returned (.agg #[.int .i64 a, .int .i64 r, vb', vp', vv']) ∧ Below w.heap.size w w' ∧
      RDigs (View.from w'.cell? w.heap.size) vb' b ∧ RDigs (View.from w'.cell? w.heap.size) vp' p ∧ RIs (View.from w'.cell? w.heap.size) vv' vs := by
  have hlb : b.length * 24 ≤ 140737488355328 := by obtain ⟨_, _, _, _, _, h, _⟩ := hb; exact h
  have hlp : p.length * 24 ≤ 140737488355328 := by obtain ⟨_, _, _, _, _, h, _⟩ := hp; exact h
  have hlv := hv.len
  obtain ⟨bA, bc, rfl, hf1⟩ := id hb
  obtain ⟨pA, pc, rfl, hf2⟩ := id hp
  obtain ⟨vA, vc, rfl, hf3⟩ := id hv
  clear hf1 hf2 hf3
  go_enter Tryz.func49, Tryz.ntmps49
  go_upto_region 1 with fail
  refine two_blocks _ _ _ _ _ (fun W => Code.wp _ _ _ _ W) (fun W hk1 hk2 hsz hbW => ?_)
  have hszI : w.heap.size + 2 ≤ W.heap.size := by omega
  clear hsz
  have g0 := hk1.cell 0; have g1 := hk1.cell 1; have g2 := hk1.cell 2; have g3 := hk1.cell 3
  simp at g0 g1 g2 g3
  go_upto_region 2 with fail
  refine one_block _ _ _ (fun W => Code.wp _ _ _ _ W) (fun W2 h3 hs3 hb3 => ?_)
  have hz3 : W.heap.size + 1 ≤ W2.heap.size := by omega
  clear hs3 g0 g1 g2 g3
  have hbl2 := hbW.trans (hb3.mono hbW.size)
  have hk12 := hk1.kept hb3
  have hk22 := hk2.kept hb3
  have hB := hb.mono RDig.mono (vle_below hbl2)
  have hP := hp.mono RDig.mono (vle_below hbl2)
  have hV := hv.mono (vle_below hbl2)
  have hV0 := hv
  clear hk1 hk2 hb hp hv hV
  refine wp_region_p2 (fun w' => Below W2.heap.size W2 w') (fun w' => Below W2.heap.size W2 w') [6, 7, 8, 9] (.q 0 (.q 1 (.q 3 (.q 4 (.l 2 (.qc 6 (.l 5 (.l 7 (.qc 8 (.l 9 .nil)))))))))) (by kernel_rfl) (by kernel_rfl) (fun _ _ d _ _ h => by cases d <;> exact h) rfl (by kernel_rfl) ?_ ?_
  · exact ⟨below_drew _, below_drew _⟩
  intro W3 _ hS3
  repeat (first
    | (refine pl_q (by assumption) rfl rfl ?_; apply Exists.intro; refine ⟨fun w' hS => ?_, ?_⟩; (· (have hq := h3.kept hS; have h0 := hq.cell 0; have h1 := hq.cell 1; have h2 := hq.cell 2; have h3 := hq.cell 3; simp at h0 h1 h2 h3; go_simp; exact rfl)); simp only [List.getElem_toArray, List.getElem_cons_zero, List.getElem_cons_succ, Act.put, List.setIfInBounds_toArray, List.set_cons_zero, List.set_cons_succ])
    | (refine pl_qc rfl rfl ?_; apply Exists.intro; refine ⟨fun w' _ => ?_, ?_⟩; (· (go_simp; exact rfl)); simp only [List.getElem_toArray, List.getElem_cons_zero, List.getElem_cons_succ, Act.put, List.setIfInBounds_toArray, List.set_cons_zero, List.set_cons_succ])
    | (refine pl_skip (by assumption) rfl rfl ?_; simp only [List.getElem_toArray, List.getElem_cons_zero, List.getElem_cons_succ, Act.put, List.setIfInBounds_toArray, List.set_cons_zero, List.set_cons_succ])
    | (refine pl_skipl (by assumption) rfl rfl ?_; simp only [List.getElem_toArray, List.getElem_cons_zero, List.getElem_cons_succ, Act.put, List.setIfInBounds_toArray, List.set_cons_zero, List.set_cons_succ]))
  first
    | refine pl_do rfl rfl (fun K hK => ?_)
    | refine op_do rfl rfl (fun K hK => ?_)
  try simp only [List.getElem_toArray, List.getElem_cons_zero, List.getElem_cons_succ]
  go_simp
  refine (dagDigests_any _ b _ (hB.mono RDig.mono (vle_below hS3))).mono ?_
  rintro e w4 ⟨v4, rfl, hb4, o4⟩
  have hS4 := hS3.trans (hb4.mono hS3.size)
  have r4 := o4.reads_from RDig.mono hlb
  obtain ⟨A4, c4, rfl⟩ := o4.form
  clear o4
  refine hK.out _ _ (hS4) (fun hS => ?_)
  clear hK K
  try simp only [List.getElem_toArray, List.getElem_cons_zero, List.getElem_cons_succ, Act.put, List.setIfInBounds_toArray, List.set_cons_zero, List.set_cons_succ]
  repeat (first
    | (refine pl_q (by assumption) rfl rfl ?_; apply Exists.intro; refine ⟨fun w' hS => ?_, ?_⟩; (· (skip; go_simp; exact rfl)); simp only [List.getElem_toArray, List.getElem_cons_zero, List.getElem_cons_succ, Act.put, List.setIfInBounds_toArray, List.set_cons_zero, List.set_cons_succ])
    | (refine pl_qc rfl rfl ?_; apply Exists.intro; refine ⟨fun w' _ => ?_, ?_⟩; (· (go_simp; exact rfl)); simp only [List.getElem_toArray, List.getElem_cons_zero, List.getElem_cons_succ, Act.put, List.setIfInBounds_toArray, List.set_cons_zero, List.set_cons_succ])
    | (refine pl_skip (by assumption) rfl rfl ?_; simp only [List.getElem_toArray, List.getElem_cons_zero, List.getElem_cons_succ, Act.put, List.setIfInBounds_toArray, List.set_cons_zero, List.set_cons_succ])
    | (refine pl_skipl (by assumption) rfl rfl ?_; simp only [List.getElem_toArray, List.getElem_cons_zero, List.getElem_cons_succ, Act.put, List.setIfInBounds_toArray, List.set_cons_zero, List.set_cons_succ]))
  first
    | refine pl_do rfl rfl (fun K hK => ?_)
    | refine op_do rfl rfl (fun K hK => ?_)
  try simp only [List.getElem_toArray, List.getElem_cons_zero, List.getElem_cons_succ]
  go_simp
  refine (dagDigests_any _ p _ (hP.mono RDig.mono (vle_below hS4))).mono ?_
  rintro e w5 ⟨v5, rfl, hb5, o5⟩
  have hS5 := hS4.trans (hb5.mono hS4.size)
  have r5 := o5.reads_from RDig.mono hlp
  obtain ⟨A5, c5, rfl⟩ := o5.form
  have h35 := h3.kept hS5
  have r45 := r4.mono RDig.mono (vle_from _ (vle_below hb5))
  clear o5 r4
  refine hK.out _ _ (hS5) (fun hS => ?_)
  clear hK K
  try simp only [List.getElem_toArray, List.getElem_cons_zero, List.getElem_cons_succ, Act.put, List.setIfInBounds_toArray, List.set_cons_zero, List.set_cons_succ]
  repeat (first
    | (refine pl_q (by assumption) rfl rfl ?_; apply Exists.intro; refine ⟨fun w' hS => ?_, ?_⟩; (· (skip; go_simp; exact rfl)); simp only [List.getElem_toArray, List.getElem_cons_zero, List.getElem_cons_succ, Act.put, List.setIfInBounds_toArray, List.set_cons_zero, List.set_cons_succ])
    | (refine pl_qc rfl rfl ?_; apply Exists.intro; refine ⟨fun w' _ => ?_, ?_⟩; (· (go_simp; exact rfl)); simp only [List.getElem_toArray, List.getElem_cons_zero, List.getElem_cons_succ, Act.put, List.setIfInBounds_toArray, List.set_cons_zero, List.set_cons_succ])
    | (refine pl_skip (by assumption) rfl rfl ?_; simp only [List.getElem_toArray, List.getElem_cons_zero, List.getElem_cons_succ, Act.put, List.setIfInBounds_toArray, List.set_cons_zero, List.set_cons_succ])
    | (refine pl_skipl (by assumption) rfl rfl ?_; simp only [List.getElem_toArray, List.getElem_cons_zero, List.getElem_cons_succ, Act.put, List.setIfInBounds_toArray, List.set_cons_zero, List.set_cons_succ]))
  first
    | refine pl_close rfl rfl rfl (fun K hK => ?_)
    | refine op_close rfl rfl rfl (fun K hK => ?_)
  try simp only [List.getElem_toArray, List.getElem_cons_zero, List.getElem_cons_succ]
  refine wp_store_blk (n := 1) rfl rfl rfl (by kernel_rfl) rfl h35 (by simp) rfl ?_
  intro w6 h36 hg6
  have h36 : Blk w6 W.heap.size 65 #[.int .i64 a, .int .i64 r, .slice A4 b.length c4, .slice pA p.length pc] := h36
  refine hK.out _ _ ?_
  clear hK K
  try simp only [List.getElem_toArray, List.getElem_cons_zero, List.getElem_cons_succ, Act.put, List.setIfInBounds_toArray, List.set_cons_zero, List.set_cons_succ]
  repeat (first
    | (refine pl_q (by assumption) rfl rfl ?_; apply Exists.intro; refine ⟨fun w' hS => ?_, ?_⟩; (· (skip; go_simp; exact rfl)); simp only [List.getElem_toArray, List.getElem_cons_zero, List.getElem_cons_succ, Act.put, List.setIfInBounds_toArray, List.set_cons_zero, List.set_cons_succ])
    | (refine pl_qc rfl rfl ?_; apply Exists.intro; refine ⟨fun w' _ => ?_, ?_⟩; (· (go_simp; exact rfl)); simp only [List.getElem_toArray, List.getElem_cons_zero, List.getElem_cons_succ, Act.put, List.setIfInBounds_toArray, List.set_cons_zero, List.set_cons_succ])
    | (refine pl_skip (by assumption) rfl rfl ?_; simp only [List.getElem_toArray, List.getElem_cons_zero, List.getElem_cons_succ, Act.put, List.setIfInBounds_toArray, List.set_cons_zero, List.set_cons_succ])
    | (refine pl_skipl (by assumption) rfl rfl ?_; simp only [List.getElem_toArray, List.getElem_cons_zero, List.getElem_cons_succ, Act.put, List.setIfInBounds_toArray, List.set_cons_zero, List.set_cons_succ]))
  first
    | refine pl_close rfl rfl rfl (fun K hK => ?_)
    | refine op_close rfl rfl rfl (fun K hK => ?_)
  try simp only [List.getElem_toArray, List.getElem_cons_zero, List.getElem_cons_succ]
  refine wp_store_blk (n := 1) rfl rfl rfl (by kernel_rfl) rfl h36 (by simp) rfl ?_
  intro w7 h37 hg7
  have h37 : Blk w7 W.heap.size 65 #[.int .i64 a, .int .i64 r, .slice A4 b.length c4, .slice A5 p.length c5] := h37
  have hg57 := grownBy_trans hg6 hg7
  have hk17 := (hk12.kept hS5).grown hg57 (by simp; omega)
  have hk27 := (hk22.kept hS5).grown hg57 (by simp; omega)
  have hz35 := hS3.size
  have hz45 := hS4.size
  have r47 : RDigs (View.from w7.cell? (W.heap.size + 1)) (.slice A4 b.length c4) b := r45.mono RDig.mono (from_le_from (by omega) (VLe.refl _) hg57 (by omega))
  have r57 : RDigs (View.from w7.cell? (W.heap.size + 1)) (.slice A5 p.length c5) p := r5.mono RDig.mono (from_le_from (by omega) (VLe.refl _) hg57 (by omega))
  have hbl7 : Below W.heap.size W w7 := below_grownBy (hb3.trans (hS5.mono (by omega))) (by have := hS5.size; omega) hg57 (by intro k e; injection e; omega)
  have hV7 : RIs w7.cell? (.slice vA vs.length vc) vs := by
    refine RVec.mono (h := w.cell?) ?_ (vle_below (hbW.trans (hbl7.mono hbW.size)))
    exact hV0
  refine hK.out _ _ ?_
  clear hK K
  try simp only [List.getElem_toArray, List.getElem_cons_zero, List.getElem_cons_succ, Act.put, List.setIfInBounds_toArray, List.set_cons_zero, List.set_cons_succ]
  repeat (first
    | (refine pl_q (by assumption) rfl rfl ?_; apply Exists.intro; refine ⟨fun w' hS => ?_, ?_⟩; (· (skip; go_simp; exact rfl)); simp only [List.getElem_toArray, List.getElem_cons_zero, List.getElem_cons_succ, Act.put, List.setIfInBounds_toArray, List.set_cons_zero, List.set_cons_succ])
    | (refine pl_qc rfl rfl ?_; apply Exists.intro; refine ⟨fun w' _ => ?_, ?_⟩; (· (go_simp; exact rfl)); simp only [List.getElem_toArray, List.getElem_cons_zero, List.getElem_cons_succ, Act.put, List.setIfInBounds_toArray, List.set_cons_zero, List.set_cons_succ])
    | (refine pl_skip (by assumption) rfl rfl ?_; simp only [List.getElem_toArray, List.getElem_cons_zero, List.getElem_cons_succ, Act.put, List.setIfInBounds_toArray, List.set_cons_zero, List.set_cons_succ])
    | (refine pl_skipl (by assumption) rfl rfl ?_; simp only [List.getElem_toArray, List.getElem_cons_zero, List.getElem_cons_succ, Act.put, List.setIfInBounds_toArray, List.set_cons_zero, List.set_cons_succ]))
  refine pl_nil ?_
  have hz77 : W.heap.size + 1 ≤ w7.heap.size := by have := hg57.size; have := hS5.size; omega
  clear hk12 hk22 hS3 hS4 hS5 hg6 hg7 r45 r5 h35 h36 hB hP
  have hz7 := hbl7.size
  go_wp2_with fail
  refine wp_region_pl (fun w' => Below w7.heap.size w7 w') [5] (.q 0 (.q 1 (.q 2 (.l 3 (.q 4 (.l 5 .nil)))))) (by kernel_rfl) (by kernel_rfl) (fun _ _ d _ _ h => by cases d <;> exact h) rfl (by kernel_rfl) ?_ ?_
  · exact below_drew _
  intro W8 hS8
  repeat (first
    | (refine pl_q (by assumption) rfl rfl ?_; apply Exists.intro; refine ⟨fun w' hS => ?_, ?_⟩; (· (have hq := h37.kept hS; have h0 := hq.cell 0; have h1 := hq.cell 1; have h2 := hq.cell 2; have h3 := hq.cell 3; have hp := hk17.kept hS; have p4 := hp.cell 4; simp at h0 h1 h2 h3 p4; go_simp; exact rfl)); simp only [List.getElem_toArray, List.getElem_cons_zero, List.getElem_cons_succ, Act.put, List.setIfInBounds_toArray, List.set_cons_zero, List.set_cons_succ])
    | (refine pl_qc rfl rfl ?_; apply Exists.intro; refine ⟨fun w' _ => ?_, ?_⟩; (· (go_simp; exact rfl)); simp only [List.getElem_toArray, List.getElem_cons_zero, List.getElem_cons_succ, Act.put, List.setIfInBounds_toArray, List.set_cons_zero, List.set_cons_succ])
    | (refine pl_skip (by assumption) rfl rfl ?_; simp only [List.getElem_toArray, List.getElem_cons_zero, List.getElem_cons_succ, Act.put, List.setIfInBounds_toArray, List.set_cons_zero, List.set_cons_succ])
    | (refine pl_skipl (by assumption) rfl rfl ?_; simp only [List.getElem_toArray, List.getElem_cons_zero, List.getElem_cons_succ, Act.put, List.setIfInBounds_toArray, List.set_cons_zero, List.set_cons_succ]))
  first
    | refine pl_do rfl rfl (fun K hK => ?_)
    | refine op_do rfl rfl (fun K hK => ?_)
  try simp only [List.getElem_toArray, List.getElem_cons_zero, List.getElem_cons_succ]
  go_simp
  refine (cloneI_any _ vs _ (hV7.mono (vle_below hS8))).mono ?_
  rintro e w9 ⟨v9, rfl, hb9, o9⟩
  have hS9 := hS8.trans (hb9.mono hS8.size)
  obtain ⟨A9, c9, rfl⟩ := o9.form
  have hk29 := hk27.kept hS9
  have hz8 := hS8.size
  refine hK.out _ _ (hS9) (fun hS => ?_)
  clear hK K
  try simp only [List.getElem_toArray, List.getElem_cons_zero, List.getElem_cons_succ, Act.put, List.setIfInBounds_toArray, List.set_cons_zero, List.set_cons_succ]
  repeat (first
    | (refine pl_q (by assumption) rfl rfl ?_; apply Exists.intro; refine ⟨fun w' hS => ?_, ?_⟩; (· (skip; go_simp; exact rfl)); simp only [List.getElem_toArray, List.getElem_cons_zero, List.getElem_cons_succ, Act.put, List.setIfInBounds_toArray, List.set_cons_zero, List.set_cons_succ])
    | (refine pl_qc rfl rfl ?_; apply Exists.intro; refine ⟨fun w' _ => ?_, ?_⟩; (· (go_simp; exact rfl)); simp only [List.getElem_toArray, List.getElem_cons_zero, List.getElem_cons_succ, Act.put, List.setIfInBounds_toArray, List.set_cons_zero, List.set_cons_succ])
    | (refine pl_skip (by assumption) rfl rfl ?_; simp only [List.getElem_toArray, List.getElem_cons_zero, List.getElem_cons_succ, Act.put, List.setIfInBounds_toArray, List.set_cons_zero, List.set_cons_succ])
    | (refine pl_skipl (by assumption) rfl rfl ?_; simp only [List.getElem_toArray, List.getElem_cons_zero, List.getElem_cons_succ, Act.put, List.setIfInBounds_toArray, List.set_cons_zero, List.set_cons_succ]))
  first
    | refine pl_close rfl rfl rfl (fun K hK => ?_)
    | refine op_close rfl rfl rfl (fun K hK => ?_)
  try simp only [List.getElem_toArray, List.getElem_cons_zero, List.getElem_cons_succ]
  refine wp_store_whole (n := 5) rfl rfl rfl (by kernel_rfl) rfl hk29 rfl rfl ?_
  intro w10 hB10 hg10
  refine hK.out _ _ ?_
  clear hK K
  try simp only [List.getElem_toArray, List.getElem_cons_zero, List.getElem_cons_succ, Act.put, List.setIfInBounds_toArray, List.set_cons_zero, List.set_cons_succ]
  repeat (first
    | (refine pl_q (by assumption) rfl rfl ?_; apply Exists.intro; refine ⟨fun w' hS => ?_, ?_⟩; (· (skip; go_simp; exact rfl)); simp only [List.getElem_toArray, List.getElem_cons_zero, List.getElem_cons_succ, Act.put, List.setIfInBounds_toArray, List.set_cons_zero, List.set_cons_succ])
    | (refine pl_qc rfl rfl ?_; apply Exists.intro; refine ⟨fun w' _ => ?_, ?_⟩; (· (go_simp; exact rfl)); simp only [List.getElem_toArray, List.getElem_cons_zero, List.getElem_cons_succ, Act.put, List.setIfInBounds_toArray, List.set_cons_zero, List.set_cons_succ])
    | (refine pl_skip (by assumption) rfl rfl ?_; simp only [List.getElem_toArray, List.getElem_cons_zero, List.getElem_cons_succ, Act.put, List.setIfInBounds_toArray, List.set_cons_zero, List.set_cons_succ])
    | (refine pl_skipl (by assumption) rfl rfl ?_; simp only [List.getElem_toArray, List.getElem_cons_zero, List.getElem_cons_succ, Act.put, List.setIfInBounds_toArray, List.set_cons_zero, List.set_cons_succ]))
  refine pl_nil ?_
  go_wp2
  refine bodyPost_ret (results_blk rfl rfl (by kernel_rfl) (by kernel_rfl) hB10 rfl) rfl ?_
  have hbl10 : Below w.heap.size w w10 := below_grownBy ((hbW.trans (hbl7.mono hbW.size)).trans (hS9.mono (by omega))) (by have := hS9.size; omega) hg10 (by intro k e; injection e; omega)
  have hzz : w.heap.size + 1 < W.heap.size + 1 := by omega
  refine ⟨_, _, _, rfl, hbl10, ?_, ?_, ?_⟩
  · exact r47.mono RDig.mono (from_le_from (by omega) (vle_from _ (vle_below hS9)) hg10 hzz)
  · exact r57.mono RDig.mono (from_le_from (by omega) (vle_from _ (vle_below hS9)) hg10 hzz)
  · exact (o9.from_ (bs := 8) hlv (b0 := W.heap.size + 1) (by omega)).mono (from_le_from (by omega) (VLe.refl _) hg10 hzz)
end Go.Proofs.YtbcoecmeoemmeaaGreatDoor

namespace Go.Proofs.YtbcoecmeoemmeaaGreatDoor
open Go.ChangeShapes Go.WideShapes Go.ChangeAt Go.RowKit
set_option linter.unusedVariables false
set_option linter.unusedSimpArgs false
theorem dag_lone {l : List Crt} (h : dagF hD cF l = 0) : Lone l ∧ Auth l ∧ l.length ≤ 400 ∧ (∀ c ∈ l, hF c.hdr = 0) := by
  obtain ⟨h1, h2, h3⟩ := dagF_zero h
  refine ⟨badC_lone h3, fun c hc => ?_, h1, (dag_valid h).2⟩
  have hh := (dag_valid h).2 c hc
  unfold hF headF at hh
  split at hh
  · rename_i h1
    simp [inB] at h1
    omega
  · cases hh
def RAt (w0 : World) : View → List Value → Crt → Prop := fun _ cs x => RCrt w0.cell? cs x
theorem RAt.mono (w0 : World) : Mono (RAt w0) := fun _ _ _ _ h _ => h
theorem inRound_take (l : List Crt) (r : Int) {k : Nat} (hk : k < l.length) : inRound (l.take (k + 1)) r = inRound (l.take k) r ++ (if l[k].hdr.round == r then [l[k]] else []) := by
  unfold inRound
  rw [List.take_succ_eq_append_getElem hk, List.filter_append]
  congr 1
  by_cases h : l[k].hdr.round == r <;> simp [List.filter, h]
set_option maxHeartbeats 4000000 in
set_option maxRecDepth 100000 in
theorem dagOf_any (v : Value) (l : List Crt) (r : Int) (w : World) (hl : RCrts w.cell? v l) (hL : Lone l) (hA : Auth l) (h4 : l.length ≤ 400) :
    Calls Tryz.prog 120 #[v, .int .i64 r] w fun e w' => ∃ v', e = .returned v' ∧ Below w.heap.size w w' ∧ RCrts w'.cell? v' (atRound l r) := by
  obtain ⟨A, c, rfl, hform⟩ := id hl
  clear hform
  obtain ⟨_, hn1, hn2, hel⟩ := RCrts.at hl
  have Hel := Lib.hid hel
  have H4 := Lib.hid h4
  have HLA := Lib.hid (And.intro hL hA)
  clear hel hl h4 hL hA
  go_enter Tryz.func120, Tryz.ntmps120
  go_wp2_with fail
  go_loopw [5, 7, 10] (fun v _ i wr => ∃ k : Nat, k ≤ l.length ∧ i = .int .i64 k ∧ OwnSl 5 (RAt w) 68 wr w.heap.size v (inRound (l.take k) r) ∧ Below w.heap.size w wr) (fun _ _ i _ => l.length - (intOf i).toNat)
  case atStart => exact ⟨0, Nat.zero_le _, rfl, OwnSl.nil _ _ _ _ _, Below.refl _ _⟩
  case round =>
    obtain ⟨k, hk, rfl, hown, hbl⟩ := hrel
    have hbs := hbl.size
    by_cases hlt : k < l.length
    · obtain ⟨b0, o0, ub, up, uv, rfl, q0, q1, q2, q3, q4, rb, rp, rv⟩ := Hel.out k hlt
      have c0 := vle_below hbl _ _ q0; have c1 := vle_below hbl _ _ q1; have c2 := vle_below hbl _ _ q2; have c3 := vle_below hbl _ _ q3; have c4 := vle_below hbl _ _ q4
      have Hn := Lib.hid (inRound_take l r hlt)
      have Hlk := Lib.hid (show (inRound (l.take k) r).length ≤ k by unfold inRound; have := List.length_filter_le (fun c : Crt => c.hdr.round == r) (l.take k); simp at this ⊢; omega)
      obtain ⟨E1A, E1c, rfl, hg1⟩ := id rb
      obtain ⟨E2A, E2c, rfl, hg2⟩ := id rp
      obtain ⟨E3A, E3c, rfl, hg3⟩ := id rv
      have hR : RAt w (View.but w.cell? none) [.int .i64 l[k].hdr.author, .int .i64 l[k].hdr.round, .slice E1A l[k].hdr.batches.length E1c, .slice E2A l[k].hdr.parents.length E2c, .slice E3A l[k].voters.length E3c] l[k] := ⟨_, _, _, rfl, rb, rp, rv⟩
      clear q0 q1 q2 q3 q4 rb rp rv hg1 hg2 hg3
      generalize inRound (l.take k) r = L at hown Hn Hlk
      generalize l[k] = y at *
      go_upto_region 5 with fail
      refine one_block _ _ _ (fun W => Code.wp _ _ _ _ W) (fun W2 hX hsX hbX => ?_)
      have hbX2 := hbl.trans (hbX.mono hbs)
      have hown2 := hown.kept (RAt.mono w) hbX
      have x0 := hX.cell 0; have x1 := hX.cell 1; have x2 := hX.cell 2; have x3 := hX.cell 3; have x4 := hX.cell 4
      simp at x0 x1 x2 x3 x4
      clear hsX hown c0 c1 c2 c3 c4
      by_cases hr : y.hdr.round = r
      · have Hn2 : Hid (inRound (l.take (k + 1)) r = L ++ [y]) := by show _ = _; rw [Hn.out]; simp [hr]
        have HL := Lib.hid (show L.length ≤ 400 by have := Hlk.out; have := H4.out; omega)
        clear Hn
        subst hr
        obtain ⟨nA, nc, rfl⟩ := hown2.form
        go_wp2_with (at_builtin; go_loud (refine wpList_append_sl1 (n := 140737488355328) (xs := L) (R := RAt w) (RAt.mono w) y [.int .i64 y.hdr.author, .int .i64 y.hdr.round, .slice E1A y.hdr.batches.length E1c, .slice E2A y.hdr.parents.length E2c, .slice E3A y.voters.length E3c] elemCrt _ _ rfl rfl rfl hown2 hbX2 hbX2.size rfl rfl rfl rfl hR (Nat.le_refl _) (by have := HL.out; omega) (by have := HL.out; omega) ?_))
        intro v' w2 ho hbl2 _
        rw [← Hn2.out] at ho
        clear hown2 x0 x1 x2 x3 x4
        go_wp2
        go_roundw
        case rel => exact ⟨k + 1, by omega, by go_num, ho, hbl2⟩
        case measure => simp [intOf]; omega
      · have Hn2 : Hid (inRound (l.take (k + 1)) r = L) := by show _ = _; rw [Hn.out]; simp [hr]
        clear Hn
        rw [← Hn2.out] at hown2
        go_wp2
        go_roundw
        case rel => exact ⟨k + 1, by omega, by go_num, hown2, hbX2⟩
        case measure => simp [intOf]; omega
    · have hkl : k = l.length := by omega
      rw [hkl, List.take_length] at hown
      have HA : Auth (inRound l r) := fun c hc => HLA.out.2 c (List.mem_filter.1 hc).1
      have Hl : (inRound l r).length ≤ 400 := by have := List.length_filter_le (fun c : Crt => c.hdr.round == r) l; have := H4.out; unfold inRound; omega
      clear Hel hkl
      obtain ⟨LR, hLR⟩ : ∃ q, Hid (inRound l r = q) := ⟨_, rfl⟩
      rw [hLR.out] at hown HA Hl
      obtain ⟨nA, nc, rfl⟩ := hown.form
      go_wp2_with fail
      refine (sortCrts_any _ LR _ w.heap.size hown HA Hl hbl (Nat.le_refl _)).mono ?_
      rintro e w2 ⟨rfl, hb2, ys, hp, hs, hr⟩
      have hys : ys = atRound l r := round_sorted HLA.out.1 HLA.out.2 (by rw [hLR.out]; exact hp) hs
      rw [hys] at hr
      go_wp2
      go_ret
      exact ⟨_, rfl, hb2, hr⟩
end Go.Proofs.YtbcoecmeoemmeaaGreatDoor

namespace Go.Proofs.YtbcoecmeoemmeaaGreatDoor
open Go.ChangeShapes Go.WideShapes Go.ChangeAt Go.RowKit
set_option linter.unusedVariables false
def rndV (l : List Crt) : Int := if dagF hD cF l = 0 then nextR l else 0
def digV (l : List Crt) (r : Int) : List (List UInt8) := if dagF hD cF l = 0 then dsOf hD (atRound l r) else []
end Go.Proofs.YtbcoecmeoemmeaaGreatDoor

namespace Go.Proofs.YtbcoecmeoemmeaaGreatDoor
open Go.ChangeShapes Go.WideShapes Go.ChangeAt Go.RowKit
set_option linter.unusedVariables false
set_option linter.unusedSimpArgs false
def atN (l : List Crt) (r : Int) (n : Nat) : List Crt := (List.range n).filterMap fun a : Nat => l.find? (isCert a r)
theorem atN_four (l : List Crt) (r : Int) : atN l r 4 = atRound l r := rfl
theorem atN_succ (l : List Crt) (r : Int) (n : Nat) : atN l r (n + 1) = atN l r n ++ (l.find? (isCert n r)).toList := by
  unfold atN
  rw [List.range_succ, List.filterMap_append]
  congr 1
theorem find_cases (l : List Crt) (a r : Int) : (certI l a r = -1 ∧ l.find? (isCert a r) = none) ∨ ∃ k : Nat, ∃ hk : k < l.length, certI l a r = k ∧ l.find? (isCert a r) = some l[k] := by
  rcases idxI_cases (isCert a r) l with ⟨h1, h2⟩ | ⟨k, hk, h1, h2, h3⟩
  · refine .inl ⟨h1, ?_⟩
    rw [List.find?_eq_none]
    intro x hx
    rw [List.any_eq_false] at h2
    exact h2 x hx
  · refine .inr ⟨k, hk, h1, ?_⟩
    rw [List.find?_eq_some_iff_getElem]
    exact ⟨h2, k, hk, rfl, fun j hj => by rw [h3 j (by omega) hj]; rfl⟩
theorem atN_len (l : List Crt) (r : Int) (n : Nat) : (atN l r n).length ≤ n := by
  unfold atN
  have := List.length_filterMap_le (fun a : Nat => l.find? (isCert a r)) (List.range n)
  simpa using this
theorem rounds_lt {l : List Crt} (hL : Lone l) (hA : Auth l) {k : Nat} (h : ∀ j : Nat, j < k → 3 ≤ (atRound l (1 + j)).length) : k ≤ l.length :=
  rounds_len k 1 fun j hj => by have := h j hj; rw [atRound_len _ hL hA] at this; omega
set_option maxHeartbeats 2000000 in
set_option maxRecDepth 100000 in
theorem dagRound_any (vl : Value) (l : List Crt) (w : World) (hl : RCrts w.cell? vl l) (hT : Tabs w.cell?) :
    Calls Tryz.prog 75 #[.agg #[vl]] w fun e w' => e = .returned (.tuple #[.int .i64 (rndV l), .int .i64 (dagF hD cF l)]) ∧ Below w.heap.size w w' := by
  obtain ⟨A, c, rfl, hform⟩ := id hl
  clear hform
  obtain ⟨E, hE⟩ : ∃ q, Hid (dagF hD cF l = q) := ⟨_, rfl⟩
  obtain ⟨V, hV⟩ : ∃ q, Hid (rndV l = q) := ⟨_, rfl⟩
  have HV : Hid (V = if E = 0 then nextR l else 0) := by show _ = _; rw [← hV.out]; unfold rndV; rw [hE.out]
  have Hlone : Hid (E = 0 → Lone l ∧ Auth l ∧ l.length ≤ 400 ∧ (∀ c ∈ l, hF c.hdr = 0)) := fun h => dag_lone (hE.out.trans h)
  rw [hV.out, hE.out]
  clear hV
  go_enter Tryz.func75, Tryz.ntmps75
  go_upto_region 1 with fail
  refine one_block _ _ _ (fun W => Code.wp _ _ _ _ W) (fun W hk hsz hbW => ?_)
  clear hsz
  have hzW := hbW.size
  have g0 := hk.cell 0
  simp at g0
  go_wp2_with fail
  refine (dagCheck_any _ l _ (hl.mono RCrt.mono (vle_below hbW)) (hT.mono (vle_below hbW))).mono ?_
  rintro e w1 ⟨rfl, hb1⟩
  rw [hE.out]
  have hbl1 := hbW.trans (hb1.mono hzW)
  have hz1 := hbl1.size
  have hk1 := hk.kept hb1
  clear g0 hE
  by_cases h0 : E = 0
  rotate_left
  · have HQ : Hid (V = 0) := by show _ = _; rw [HV.out, if_neg h0]
    clear HV Hlone
    go_wp2
    go_ret2
    exact ⟨by rw [HQ.out]; rfl, hbl1⟩
  have HQ : Hid (V = nextR l) := by show _ = _; rw [HV.out, if_pos h0]
  have HL := Lib.hid (Hlone.out h0)
  clear HV Hlone
  subst h0
  go_wp2_with fail
  go_loopw [5] (fun i wr => ∃ (k : Nat) (z : Int), i = .int .i64 z ∧ Hid (z = 1 + (k : Int)) ∧ 1 ≤ z ∧ z ≤ 401 ∧ Hid (k ≤ l.length ∧ ∀ j : Nat, j < k → 3 ≤ (atRound l (1 + j)).length) ∧ Below w1.heap.size w1 wr) (fun i _ => 500 - (intOf i).toNat)
  case atStart => exact ⟨0, 1, rfl, rfl, by omega, by omega, ⟨Nat.zero_le _, fun j hj => by omega⟩, Below.refl _ _⟩
  case round =>
    obtain ⟨k, z, rfl, hz, hz0, hz401, hok, hbl⟩ := hrel
    have hk2 := hk1.kept hbl
    have g0 := hk2.cell 0
    simp at g0
    have hblw := hbl1.trans (hbl.mono hz1)
    go_wp2_with fail
    refine (dagOf_any _ l z _ (hl.mono RCrt.mono (vle_below hblw)) HL.out.1 HL.out.2.1 HL.out.2.2.1).mono ?_
    rintro e w2 ⟨v2, rfl, hb2, r2⟩
    have hbl2 := hbl.trans (hb2.mono hbl.size)
    obtain ⟨N, hN⟩ : ∃ N, Hid ((atRound l z).length = N) := ⟨_, rfl⟩
    obtain ⟨A2, c2, hv2, _⟩ := r2
    rw [hN.out] at hv2
    subst hv2
    have HN : Hid (N = (atRound l (1 + (k : Int))).length) := by show _ = _; rw [← hN.out, hz.out]
    clear hN g0
    by_cases h3 : (3 : Int) ≤ (N : Int)
    · have hok2 : Hid (∀ j : Nat, j < k + 1 → 3 ≤ (atRound l (1 + j)).length) := fun j hj => by
        by_cases e : j = k
        · subst e; have := HN.out; omega
        · exact hok.out.2 j (by omega)
      have hk1' := rounds_lt HL.out.1 HL.out.2.1 hok2.out
      have hz400 : z + 1 ≤ 401 := by have := hz.out; have := HL.out.2.2.1; omega
      have hzz : Hid (z + 1 = 1 + ((k + 1 : Nat) : Int)) := by show _ = _; have := hz.out; omega
      obtain ⟨z2, hz2⟩ : ∃ z2, z + 1 = z2 := ⟨_, rfl⟩
      have hz2' := Lib.hid hz2
      have hwz : IntKind.i64.wrap (z + 1) = z2 := by rw [IntKind.wrap_i64]; omega
      clear hz2
      go_wp2
      go_roundw
      case rel => exact ⟨k + 1, _, rfl, by first | exact hzz | (show _ = _; rw [← hz2'.out]; exact hzz.out), by have := hz2'.out; omega, by have := hz2'.out; omega, ⟨hk1', hok2.out⟩, hbl2⟩
      case measure => have := hz2'.out; simp [intOf]; omega
    · have hV2 : Hid (V = z) := by
        show _ = _
        rw [HQ.out, nextR_is HL.out.1 HL.out.2.1 hok.out.2 (by have := HN.out; omega)]
        exact hz.out.symm
      go_wp2
      go_ret2
      exact ⟨by rw [hV2.out]; rfl, hbl1.trans (hbl2.mono hz1)⟩
end Go.Proofs.YtbcoecmeoemmeaaGreatDoor

namespace Go.Proofs.YtbcoecmeoemmeaaGreatDoor
open Go.ChangeShapes Go.WideShapes Go.ChangeAt Go.RowKit
set_option linter.unusedVariables false
set_option linter.unusedSimpArgs false
set_option maxHeartbeats 1000000 in
set_option maxRecDepth 100000 in
theorem hisFn_any (d x : Value) (y ds : List UInt8) (g : Nat) (w : World) (hc : w.cell? ⟨g, 0, none⟩ = some x) (hd : RBytes w.cell? d y) (hx : RBytes w.cell? x ds) :
    Calls Tryz.prog 54 (#[d] ++ #[.pointer (some ⟨g, 0, none⟩)]) w fun e w' => e = .returned (.bool (y == ds)) ∧ Below w.heap.size w w' := by
  show Calls Tryz.prog 54 #[d, .pointer (some ⟨g, 0, none⟩)] w _
  go_enter Tryz.func54, Tryz.ntmps54
  go_wp2_with fail
  refine (bytesEqual_any _ _ ds y _ hx hd).mono ?_
  rintro e w' ⟨rfl, rfl⟩
  go_wp2
  go_ret
  exact ⟨by show Ending.returned (Value.bool (ds == y)) = _; rw [show (ds == y) = (y == ds) from BEq.comm], Below.refl _ _⟩
set_option maxHeartbeats 2000000 in
set_option maxRecDepth 100000 in
theorem orderAll_any (vl : Value) (l : List Crt) (w : World) (hl : RCrts w.cell? vl l) (hv : ∀ c ∈ l, hF c.hdr = 0) (hT : Tabs w.cell?) :
    Calls Tryz.prog 27 #[.agg #[vl]] w fun e w' => ∃ v', e = .returned v' ∧ Below w.heap.size w w' ∧ OwnSl 1 (RFrom w.heap.size RDig) 41 w' w.heap.size v' (dsOf hD l) := by
  obtain ⟨A, c, rfl, hform⟩ := id hl
  clear hform
  obtain ⟨_, hcap, hlen, hel⟩ := hl.at
  have Hel := Lib.hid hel
  have Hv := Lib.hid hv
  clear hel hl hv
  go_enter Tryz.func27, Tryz.ntmps27
  go_upto_region 1 with fail
  refine one_block _ _ _ (fun W => Code.wp _ _ _ _ W) (fun W hk hsz hbW => ?_)
  have hzW := hbW.size
  have g0 := hk.cell 0
  simp at g0
  clear hsz
  go_wp2
  go_loopw [3, 5, 6, 7, 11] (fun v _ _ _ i wr => ∃ k : Nat, k ≤ l.length ∧ i = .int .i64 k ∧ OwnSl 1 (RFrom W.heap.size RDig) 41 wr W.heap.size v (dsOf hD (l.take k)) ∧ Below W.heap.size W wr) (fun _ _ _ _ i _ => l.length - (intOf i).toNat)
  case atStart => exact ⟨0, Nat.zero_le _, rfl, OwnSl.nil _ _ _ _ _, Below.refl _ _⟩
  case round =>
    obtain ⟨k, hk', rfl, hown, hbl⟩ := hrel
    have hbs := hbl.size
    by_cases hlt : k < l.length
    · obtain ⟨b0, o0, vb, vp, vv, rfl, q0, q1, q2, q3, q4, hb, hp, hvv⟩ := Hel.out k hlt
      obtain ⟨bA, bc, rfl, hf1⟩ := id hb
      obtain ⟨pA, pc, rfl, hf2⟩ := id hp
      obtain ⟨vA, vc, rfl, hf3⟩ := id hvv
      clear hf1 hf2 hf3 hvv
      have hblw := hbW.trans (hbl.mono hzW)
      have q := vle_below hblw
      have c0 := q _ _ q0
      have c1 := q _ _ q1
      have c2 := q _ _ q2
      have c3 := q _ _ q3
      have c4 := q _ _ q4
      have hb' := hb.mono RDig.mono q
      have hp' := hp.mono RDig.mono q
      have hval := Lib.hid (Hv.out l[k] (List.getElem_mem hlt))
      have Hn := Lib.hid (show dsOf hD (l.take (k + 1)) = dsOf hD (l.take k) ++ [hD l[k].hdr] by unfold dsOf; rw [List.take_succ_eq_append_getElem hlt, List.map_append, List.map_singleton])
      have Hlk := Lib.hid (show (dsOf hD (l.take k)).length = k by unfold dsOf; simp; omega)
      clear q0 q1 q2 q3 q4 hb hp
      generalize dsOf hD (l.take k) = L at hown Hn Hlk
      generalize l[k] = x at c0 c1 c2 c3 c4 hb' hp' hval Hn
      go_upto_region 5 with fail
      refine one_block _ _ _ (fun W => Code.wp _ _ _ _ W) (fun W2 hX hsX hbX => ?_)
      have hbX2 := hbl.trans (hbX.mono hbs)
      have hlto := hown.lt
      have x0 := hX.cell 0; have x1 := hX.cell 1; have x2 := hX.cell 2; have x3 := hX.cell 3
      simp at x0 x1 x2 x3
      have qX := vle_below hbX
      have hzX := hbX.size
      clear hsX c0 c1 c2 c3 c4
      go_wp2_with fail
      refine (headerDigestW_any _ _ _ _ x.hdr.batches x.hdr.parents _ (hb'.mono RDig.mono qX) (hp'.mono RDig.mono qX) (hT.mono (vle_below (hbW.trans (hbX2.mono hzW))))).mono ?_
      rintro e w1 ⟨d, rfl, hb1, hr⟩
      rw [hdrDR_valid hval.out] at hr
      rw [show headF x.hdr.author x.hdr.round x.hdr.batches x.hdr.parents = 0 from hval.out]
      have hown1 := (hown.kept (RFrom.mono RDig.mono) hbX).kept (RFrom.mono RDig.mono) hb1
      have hbl1 := hbX2.trans (hb1.mono hbX2.size)
      have hR : RFrom W.heap.size RDig (View.but w1.cell? u3.ownBlock) [d] (hD x.hdr) :=
        ⟨d, rfl, hr.mono (from_from_but (by have := hbX2.size; omega) (fun g hg => by have := (hlto g hg).2; omega))⟩
      obtain ⟨A', c', rfl, hform⟩ := id hr
      clear hform x0 x1 x2 x3 hb' hp' hr hown
      go_wp2_with (at_builtin; go_loud (refine wpList_append_sl1 (n := 140737488355328) (RFrom.mono RDig.mono) (hD x.hdr) [.slice A' (hD x.hdr).length c'] elemDig _ _ rfl rfl rfl hown1 hbl1 hbl1.size rfl rfl rfl rfl hR (Nat.le_refl _) (by have := Hlk.out; omega) (by have := Hlk.out; omega) ?_))
      intro v' w2 ho hbl2 _
      clear hown1 hR
      go_wp2
      go_roundw
      case rel => exact ⟨k + 1, by omega, by go_num, by rw [Hn.out]; exact ho, hbl2⟩
      case measure => simp [intOf]; omega
    · have hkl : k = l.length := by omega
      subst hkl
      have ho2 : OwnSl 1 (RFrom W.heap.size RDig) 41 wr W.heap.size u3 (dsOf hD l) := by simpa using hown
      have ho3 := OwnSl.baseR RDig.mono ho2 hzW
      clear hown ho2
      go_wp2
      go_ret
      exact ⟨_, rfl, hbW.trans (hbl.mono hzW), ho3⟩
end Go.Proofs.YtbcoecmeoemmeaaGreatDoor

namespace Go.Proofs.YtbcoecmeoemmeaaGreatDoor
open Go.ChangeShapes Go.WideShapes Go.ChangeAt Go.RowKit
set_option linter.unusedVariables false
set_option linter.unusedSimpArgs false
/-- draws, and blocks laid behind -/
def Grw (w w' : World) : Prop := ∃ q os', w' = Sort.grow (w.drewN q) os'
theorem Grw.refl (w : World) : Grw w w := ⟨0, #[], by rw [Sort.grow_empty]; rfl⟩
theorem Grw.drew {w w' : World} (h : Grw w w') : Grw w w'.drew := by
  obtain ⟨q, os, rfl⟩ := h
  exact ⟨q + 1, os, rfl⟩
theorem Grw.alloc {w w' : World} (h : Grw w w') (o : Obj) : Grw w (w'.alloc o) := by
  obtain ⟨q, os, rfl⟩ := h
  exact ⟨q, os ++ #[o], by rw [Sort.alloc_eq_grow, Sort.grow_grow]⟩
theorem Grw.size {w w' : World} (h : Grw w w') : w.heap.size ≤ w'.heap.size := by
  obtain ⟨q, os, rfl⟩ := h
  rw [Sort.size_grow]
  exact Nat.le_add_right _ _
theorem Grw.below {w w' : World} (h : Grw w w') : Below w.heap.size w w' := by
  obtain ⟨q, os, rfl⟩ := h
  refine ⟨rfl, rfl, rfl, by rw [Sort.size_grow]; exact Nat.le_add_right _ _, fun k hk => ?_⟩
  exact Sort.heap_grow_old _ _ hk
theorem Grw.setRow {w w' : World} (h : Grw w w') {g : Nat} (hg : w.heap.size ≤ g) (cs : Array Value) : Grw w (w'.setRow g cs) := by
  obtain ⟨q, os, rfl⟩ := h
  refine ⟨q, ?_, ?_⟩
  rotate_left
  · unfold World.setRow Sort.grow
    simp only [Sort.modify_append_right _ _ _ _ (show (w.drewN q).heap.size ≤ g from hg)]
    rfl
theorem wp_store_setw {P : Program} {o : Oper} {a : Act} {w : World} {K : Act → World → Prop} {Q : Exit → Act → World → Prop} {t te : TypeId} {x y : Operand} {g n : Nat} {cs new : Array Value}
    (ho : o.op = .store t x y) (hx : a.eval x = .pointer (some ⟨g, 0, none⟩)) (hy : a.eval y = .agg new) (hi : (P.info? t).map (·.size) = some n) (hn : new.size = n) (hb : Blk w g te cs) (hcs : cs.size = n) (h1 : (new.toList.all fun u => u.oneCell') = true)
    (h : Blk (w.setRow g new) g te new → K (a.put o.dst undef) (w.setRow g new)) : o.wp P a w K Q := by
  have hr := run_store_blk (P := P) (v := .agg new) hi hn hb (o := 0) (by omega) (fun u hu => List.all_eq_true.1 h1 u hu)
  have e : (cs.toList.take 0 ++ (Value.agg new).cells.toList ++ cs.toList.drop (0 + n)).toArray = new := by
    rw [List.drop_of_length_le (by simp [hcs])]
    simp [Value.cells]
  rw [e] at hr
  unfold Oper.wp execOp
  simp [ho, hx, hy, hr, Result.andThen, Oper.upon]
  exact h (blk_set hb new).1
set_option maxHeartbeats 1000000 in
set_option maxRecDepth 100000 in
theorem cmpOr_any (x y : Int) (g : Nat) (w : World) (h0 : w.cell? ⟨g, 0, none⟩ = some (.int .i64 x)) (h1 : w.cell? ⟨g, 1, none⟩ = some (.int .i64 y)) :
    Calls Tryz.prog 58 #[.slice (some ⟨g, 0, none⟩) 2 2] w fun e w' => e = .returned (.int .i64 (if x ≠ 0 then x else y)) ∧ w = w' := by
  obtain ⟨R, hR⟩ : ∃ R, Hid ((if x ≠ 0 then x else y) = R) := ⟨_, rfl⟩
  rw [hR.out]
  go_enter Tryz.func58, Tryz.ntmps58
  go_wp2_with fail
  go_loopw [5, 8] (fun _ i wr => ∃ k : Nat, k ≤ 2 ∧ i = .int .i64 k ∧ wr = w ∧ (0 < k → x = 0) ∧ (1 < k → y = 0)) (fun _ i _ => 2 - (intOf i).toNat)
  case atStart => exact ⟨0, by omega, rfl, rfl, fun h => by omega, fun h => by omega⟩
  case round =>
    obtain ⟨k, hk, rfl, rfl, hx, hy⟩ := hrel
    rcases (show k = 0 ∨ k = 1 ∨ k = 2 by omega) with rfl | rfl | rfl
    · by_cases h : x = 0
      · clear hx hy
        go_wp2
        go_roundw
        case rel => exact ⟨1, by simp [h]⟩
        case measure => simp [intOf]
      · clear hx hy
        go_wp2
        go_ret
        exact ⟨by rw [show R = x by rw [← hR.out, if_pos h]]; rfl, rfl⟩
    · have hx0 := hx (by omega)
      subst hx0
      by_cases h : y = 0
      · clear hx hy
        go_wp2
        go_roundw
        case rel => exact ⟨2, by simp [h]⟩
        case measure => simp [intOf]
      · clear hx hy
        go_wp2
        go_ret
        exact ⟨by rw [show R = y by rw [← hR.out]; rfl]; rfl, rfl⟩
    · have hx0 := hx (by omega)
      have hy0 := hy (by omega)
      subst hx0 hy0
      clear hx hy
      go_wp2
      go_ret
      exact ⟨by rw [show R = 0 by rw [← hR.out]; rfl]; rfl, rfl⟩
/-- how two places stand -/
def cfH (x y : Hdr) : Int := if x.round - y.round ≠ 0 then x.round - y.round else x.author - y.author
theorem hF_say {h : Hdr} (hv : hF h = 0) : 0 ≤ h.author ∧ h.author ≤ 3 ∧ 1 ≤ h.round ∧ h.round ≤ 1048576 := by
  unfold hF headF at hv
  split at hv
  · rename_i h
    simp [inB] at h
    omega
  · omega
set_option maxHeartbeats 4000000 in
set_option maxRecDepth 100000 in
theorem hisCmp_any {w0 : World} (gd : Nat) (vl : Value) (l : List Crt) (hc : w0.cell? ⟨gd, 0, none⟩ = some vl) (hl : RCrts w0.cell? vl l) (i j : Nat) (hi : i < l.length) (hj : j < l.length) (hvi : hF l[i].hdr = 0) (hvj : hF l[j].hdr = 0) (W : World) (hb : Below w0.heap.size w0 W) :
    Calls Tryz.prog 57 #[.int .i64 i, .int .i64 j, .pointer (some ⟨gd, 0, none⟩)] W fun e w' => e = .returned (.int .i64 (cfH l[i].hdr l[j].hdr)) ∧ Grw W w' := by
  obtain ⟨A, c, rfl, hform⟩ := id hl
  clear hform
  obtain ⟨_, hcap, hlen, hel⟩ := hl.at
  obtain ⟨b0, o0, vb0, vp0, vv0, rfl, p0, p1, p2, p3, p4, rb0, rp0, _⟩ := hel i hi
  obtain ⟨b1, o1, vb1, vp1, vv1, eA, q0, q1, q2, q3, q4, rb1, rp1, _⟩ := hel j hj
  obtain ⟨bA0, bc0, rfl, f1⟩ := id rb0
  obtain ⟨pA0, pc0, rfl, f2⟩ := id rp0
  obtain ⟨bA1, bc1, rfl, f3⟩ := id rb1
  obtain ⟨pA1, pc1, rfl, f4⟩ := id rp1
  clear f1 f2 f3 f4 rb0 rp0 rb1 rp1
  obtain ⟨n1, hn1⟩ : ∃ n, l[i].hdr.batches.length = n := ⟨_, rfl⟩
  obtain ⟨n2, hn2⟩ : ∃ n, l[i].hdr.parents.length = n := ⟨_, rfl⟩
  obtain ⟨n3, hn3⟩ : ∃ n, l[j].hdr.batches.length = n := ⟨_, rfl⟩
  obtain ⟨n4, hn4⟩ : ∃ n, l[j].hdr.parents.length = n := ⟨_, rfl⟩
  rw [hn1] at p2
  rw [hn2] at p3
  rw [hn3] at q2
  rw [hn4] at q3
  clear hn1 hn2 hn3 hn4
  injection eA with eA
  injection eA with eb eo _
  subst eb eo
  have s1 := hF_say hvi
  have s2 := hF_say hvj
  have q := vle_below hb
  have hcw := q _ _ hc
  have c00 := q _ _ p0; have c01 := q _ _ p1; have c02 := q _ _ p2; have c03 := q _ _ p3
  have c10 := q _ _ q0; have c11 := q _ _ q1; have c12 := q _ _ q2; have c13 := q _ _ q3
  have hi' : (i : Int) < l.length := by omega
  have hj' : (j : Int) < l.length := by omega
  unfold cfH
  generalize l[i].hdr.author = a1 at *
  generalize l[i].hdr.round = r1 at *
  generalize l[j].hdr.author = a2 at *
  generalize l[j].hdr.round = r2 at *
  clear p0 p1 p2 p3 p4 q0 q1 q2 q3 q4 hel hvi hvj hc hl hb
  obtain ⟨R, hR⟩ : ∃ R, Hid ((if r1 - r2 ≠ 0 then r1 - r2 else a1 - a2) = R) := ⟨_, rfl⟩
  rw [hR.out]
  go_enter Tryz.func57, Tryz.ntmps57
  go_upto_region 1 with fail
  go_cut [6, 7] (fun p q w' => ∃ g1 g2, p = .pointer (some ⟨g1, 0, none⟩) ∧ q = .pointer (some ⟨g2, 0, none⟩) ∧ Blk w' g1 65 #[.int .i64 a1, .int .i64 r1, .slice bA0 n1 bc0, .slice pA0 n2 pc0] ∧ Blk w' g2 65 #[.int .i64 a2, .int .i64 r2, .slice bA1 n3 bc1, .slice pA1 n4 pc1] ∧ Grw W w')
  case first =>
    refine wp_region_pl (fun w' => Grw W w') [15] (.q 0 (.q 1 (.q 2 (.q 3 (.q 4 (.q 5 (.q 6 (.q 7 (.q 8 (.q 9 (.q 10 (.q 11 (.alt 12 (.l 13 (.l 14 (.l 15 .nil))) 13 (.l 12 (.l 14 (.l 15 .nil)))))))))))))))) (by kernel_rfl) (by kernel_rfl) (fun _ _ d _ _ h => by cases d <;> exact h) rfl (by kernel_rfl) ?_ ?_
    · exact (Grw.refl _).drew
    intro W1 hS
    have hz0 := hS.size
    repeat (first
      | (refine pl_q (by assumption) rfl rfl ?_; apply Exists.intro; refine ⟨fun w' hS => ?_, ?_⟩; (· (have hq := vle_below hS.below; have h0 := hq _ _ hcw; have h1 := hq _ _ c00; have h2 := hq _ _ c01; have h3 := hq _ _ c02; have h4 := hq _ _ c03; have k1 := hq _ _ c10; have k2 := hq _ _ c11; have k3 := hq _ _ c12; have k4 := hq _ _ c13; go_simp; exact rfl)); simp only [List.getElem_toArray, List.getElem_cons_zero, List.getElem_cons_succ, Act.put, List.setIfInBounds_toArray, List.set_cons_zero, List.set_cons_succ])
      | (refine pl_qc rfl rfl ?_; apply Exists.intro; refine ⟨fun w' _ => ?_, ?_⟩; (· (go_simp; exact rfl)); simp only [List.getElem_toArray, List.getElem_cons_zero, List.getElem_cons_succ, Act.put, List.setIfInBounds_toArray, List.set_cons_zero, List.set_cons_succ])
      | (refine pl_skip (by assumption) rfl rfl ?_; simp only [List.getElem_toArray, List.getElem_cons_zero, List.getElem_cons_succ, Act.put, List.setIfInBounds_toArray, List.set_cons_zero, List.set_cons_succ])
      | (refine pl_skipl (by assumption) rfl rfl ?_; simp only [List.getElem_toArray, List.getElem_cons_zero, List.getElem_cons_succ, Act.put, List.setIfInBounds_toArray, List.set_cons_zero, List.set_cons_succ]))
    refine pl_alt ?_ ?_
    · first
        | refine pl_do rfl rfl (fun K hK => ?_)
        | refine op_do rfl rfl (fun K hK => ?_)
      try simp only [List.getElem_toArray, List.getElem_cons_zero, List.getElem_cons_succ]
      go_simp
      have hn1 := Blk.new W1 65 #[.int .i64 0, .int .i64 0, .slice none 0 0, .slice none 0 0]
      have hS1 := hS.alloc (.cells #[.int .i64 0, .int .i64 0, .slice none 0 0, .slice none 0 0] 65)
      refine hK.out _ _ (hS1) (fun hS => ?_)
      clear hK K
      try simp only [List.getElem_toArray, List.getElem_cons_zero, List.getElem_cons_succ, Act.put, List.setIfInBounds_toArray, List.set_cons_zero, List.set_cons_succ]
      first
        | refine pl_do rfl rfl (fun K hK => ?_)
        | refine op_do rfl rfl (fun K hK => ?_)
      try simp only [List.getElem_toArray, List.getElem_cons_zero, List.getElem_cons_succ]
      go_simp
      have hn2 := Blk.new (W1.alloc (.cells #[.int .i64 0, .int .i64 0, .slice none 0 0, .slice none 0 0] 65)) 65 #[.int .i64 0, .int .i64 0, .slice none 0 0, .slice none 0 0]
      have hn2 : Blk ((W1.alloc (.cells #[.int .i64 0, .int .i64 0, .slice none 0 0, .slice none 0 0] 65)).alloc (.cells #[.int .i64 0, .int .i64 0, .slice none 0 0, .slice none 0 0] 65)) (W1.heap.size + 1) 65 #[.int .i64 0, .int .i64 0, .slice none 0 0, .slice none 0 0] := by simpa using hn2
      have hn1 := hn1.alloc (.cells #[.int .i64 0, .int .i64 0, .slice none 0 0, .slice none 0 0] 65)
      have hS2 := hS1.alloc (.cells #[.int .i64 0, .int .i64 0, .slice none 0 0, .slice none 0 0] 65)
      have hz1 := hS.size
      refine hK.out _ _ (hS2) (fun hS => ?_)
      clear hK K
      try simp only [List.getElem_toArray, List.getElem_cons_zero, List.getElem_cons_succ, Act.put, List.setIfInBounds_toArray, List.set_cons_zero, List.set_cons_succ]
      first
        | refine pl_do rfl rfl (fun K hK => ?_)
        | refine op_do rfl rfl (fun K hK => ?_)
      try simp only [List.getElem_toArray, List.getElem_cons_zero, List.getElem_cons_succ]
      refine wp_store_setw (n := 4) rfl rfl rfl (by kernel_rfl) rfl hn1 rfl rfl ?_
      intro hB1
      have HBX := hn2.grown (blk_set hn1 #[.int .i64 a1, .int .i64 r1, .slice bA0 n1 bc0, .slice pA0 n2 pc0]).2 (by simp)
      have hS3 := hS2.setRow (g := W1.heap.size) (by omega) #[.int .i64 a1, .int .i64 r1, .slice bA0 n1 bc0, .slice pA0 n2 pc0]
      refine hK.out _ _ (hS3) (fun hS => ?_)
      clear hK K
      try simp only [List.getElem_toArray, List.getElem_cons_zero, List.getElem_cons_succ, Act.put, List.setIfInBounds_toArray, List.set_cons_zero, List.set_cons_succ]
      first
        | refine pl_close rfl rfl rfl (fun K hK => ?_)
        | refine op_close rfl rfl rfl (fun K hK => ?_)
      try simp only [List.getElem_toArray, List.getElem_cons_zero, List.getElem_cons_succ]
      refine wp_store_setw (n := 4) rfl rfl rfl (by kernel_rfl) rfl HBX rfl rfl ?_
      intro hB2
      have hS4 := hS3.setRow (g := W1.heap.size + 1) (by omega) #[.int .i64 a2, .int .i64 r2, .slice bA1 n3 bc1, .slice pA1 n4 pc1]
      have hB1 := hB1.grown (blk_set HBX #[.int .i64 a2, .int .i64 r2, .slice bA1 n3 bc1, .slice pA1 n4 pc1]).2 (by intro e; injection e; omega)
      refine hK.out _ _ ?_
      clear hK K
      try simp only [List.getElem_toArray, List.getElem_cons_zero, List.getElem_cons_succ, Act.put, List.setIfInBounds_toArray, List.set_cons_zero, List.set_cons_succ]
      repeat (first
        | (refine pl_q (by assumption) rfl rfl ?_; apply Exists.intro; refine ⟨fun w' hS => ?_, ?_⟩; (· (skip; go_simp; exact rfl)); simp only [List.getElem_toArray, List.getElem_cons_zero, List.getElem_cons_succ, Act.put, List.setIfInBounds_toArray, List.set_cons_zero, List.set_cons_succ])
        | (refine pl_qc rfl rfl ?_; apply Exists.intro; refine ⟨fun w' _ => ?_, ?_⟩; (· (go_simp; exact rfl)); simp only [List.getElem_toArray, List.getElem_cons_zero, List.getElem_cons_succ, Act.put, List.setIfInBounds_toArray, List.set_cons_zero, List.set_cons_succ])
        | (refine pl_skip (by assumption) rfl rfl ?_; simp only [List.getElem_toArray, List.getElem_cons_zero, List.getElem_cons_succ, Act.put, List.setIfInBounds_toArray, List.set_cons_zero, List.set_cons_succ])
        | (refine pl_skipl (by assumption) rfl rfl ?_; simp only [List.getElem_toArray, List.getElem_cons_zero, List.getElem_cons_succ, Act.put, List.setIfInBounds_toArray, List.set_cons_zero, List.set_cons_succ]))
      refine pl_nil ?_
      go_wp2_with fail
      go_meet
      exact ⟨_, _, rfl, rfl, hB1, hB2, hS4⟩
    · first
        | refine pl_do rfl rfl (fun K hK => ?_)
        | refine op_do rfl rfl (fun K hK => ?_)
      try simp only [List.getElem_toArray, List.getElem_cons_zero, List.getElem_cons_succ]
      go_simp
      have hn1 := Blk.new W1 65 #[.int .i64 0, .int .i64 0, .slice none 0 0, .slice none 0 0]
      have hS1 := hS.alloc (.cells #[.int .i64 0, .int .i64 0, .slice none 0 0, .slice none 0 0] 65)
      refine hK.out _ _ (hS1) (fun hS => ?_)
      clear hK K
      try simp only [List.getElem_toArray, List.getElem_cons_zero, List.getElem_cons_succ, Act.put, List.setIfInBounds_toArray, List.set_cons_zero, List.set_cons_succ]
      first
        | refine pl_do rfl rfl (fun K hK => ?_)
        | refine op_do rfl rfl (fun K hK => ?_)
      try simp only [List.getElem_toArray, List.getElem_cons_zero, List.getElem_cons_succ]
      go_simp
      have hn2 := Blk.new (W1.alloc (.cells #[.int .i64 0, .int .i64 0, .slice none 0 0, .slice none 0 0] 65)) 65 #[.int .i64 0, .int .i64 0, .slice none 0 0, .slice none 0 0]
      have hn2 : Blk ((W1.alloc (.cells #[.int .i64 0, .int .i64 0, .slice none 0 0, .slice none 0 0] 65)).alloc (.cells #[.int .i64 0, .int .i64 0, .slice none 0 0, .slice none 0 0] 65)) (W1.heap.size + 1) 65 #[.int .i64 0, .int .i64 0, .slice none 0 0, .slice none 0 0] := by simpa using hn2
      have hn1 := hn1.alloc (.cells #[.int .i64 0, .int .i64 0, .slice none 0 0, .slice none 0 0] 65)
      have hS2 := hS1.alloc (.cells #[.int .i64 0, .int .i64 0, .slice none 0 0, .slice none 0 0] 65)
      have hz1 := hS.size
      refine hK.out _ _ (hS2) (fun hS => ?_)
      clear hK K
      try simp only [List.getElem_toArray, List.getElem_cons_zero, List.getElem_cons_succ, Act.put, List.setIfInBounds_toArray, List.set_cons_zero, List.set_cons_succ]
      first
        | refine pl_do rfl rfl (fun K hK => ?_)
        | refine op_do rfl rfl (fun K hK => ?_)
      try simp only [List.getElem_toArray, List.getElem_cons_zero, List.getElem_cons_succ]
      refine wp_store_setw (n := 4) rfl rfl rfl (by kernel_rfl) rfl hn2 rfl rfl ?_
      intro hB1
      have HBX := hn1.grown (blk_set hn2 #[.int .i64 a1, .int .i64 r1, .slice bA0 n1 bc0, .slice pA0 n2 pc0]).2 (by simp)
      have hS3 := hS2.setRow (g := W1.heap.size + 1) (by omega) #[.int .i64 a1, .int .i64 r1, .slice bA0 n1 bc0, .slice pA0 n2 pc0]
      refine hK.out _ _ (hS3) (fun hS => ?_)
      clear hK K
      try simp only [List.getElem_toArray, List.getElem_cons_zero, List.getElem_cons_succ, Act.put, List.setIfInBounds_toArray, List.set_cons_zero, List.set_cons_succ]
      first
        | refine pl_close rfl rfl rfl (fun K hK => ?_)
        | refine op_close rfl rfl rfl (fun K hK => ?_)
      try simp only [List.getElem_toArray, List.getElem_cons_zero, List.getElem_cons_succ]
      refine wp_store_setw (n := 4) rfl rfl rfl (by kernel_rfl) rfl HBX rfl rfl ?_
      intro hB2
      have hS4 := hS3.setRow (g := W1.heap.size) (by omega) #[.int .i64 a2, .int .i64 r2, .slice bA1 n3 bc1, .slice pA1 n4 pc1]
      have hB1 := hB1.grown (blk_set HBX #[.int .i64 a2, .int .i64 r2, .slice bA1 n3 bc1, .slice pA1 n4 pc1]).2 (by intro e; injection e; omega)
      refine hK.out _ _ ?_
      clear hK K
      try simp only [List.getElem_toArray, List.getElem_cons_zero, List.getElem_cons_succ, Act.put, List.setIfInBounds_toArray, List.set_cons_zero, List.set_cons_succ]
      repeat (first
        | (refine pl_q (by assumption) rfl rfl ?_; apply Exists.intro; refine ⟨fun w' hS => ?_, ?_⟩; (· (skip; go_simp; exact rfl)); simp only [List.getElem_toArray, List.getElem_cons_zero, List.getElem_cons_succ, Act.put, List.setIfInBounds_toArray, List.set_cons_zero, List.set_cons_succ])
        | (refine pl_qc rfl rfl ?_; apply Exists.intro; refine ⟨fun w' _ => ?_, ?_⟩; (· (go_simp; exact rfl)); simp only [List.getElem_toArray, List.getElem_cons_zero, List.getElem_cons_succ, Act.put, List.setIfInBounds_toArray, List.set_cons_zero, List.set_cons_succ])
        | (refine pl_skip (by assumption) rfl rfl ?_; simp only [List.getElem_toArray, List.getElem_cons_zero, List.getElem_cons_succ, Act.put, List.setIfInBounds_toArray, List.set_cons_zero, List.set_cons_succ])
        | (refine pl_skipl (by assumption) rfl rfl ?_; simp only [List.getElem_toArray, List.getElem_cons_zero, List.getElem_cons_succ, Act.put, List.setIfInBounds_toArray, List.set_cons_zero, List.set_cons_succ]))
      refine pl_nil ?_
      go_wp2_with fail
      go_meet
      exact ⟨_, _, rfl, rfl, hB1, hB2, hS4⟩
  case rest =>
    obtain ⟨g1, g2, rfl, rfl, hB1, hB2, hS⟩ := hcut
    have x0 := hB1.cell 0; have x1 := hB1.cell 1
    have y0 := hB2.cell 0; have y1 := hB2.cell 1
    simp at x0 x1 y0 y1
    have hw1 : IntKind.i64.wrap (r1 - r2) = r1 - r2 := by rw [IntKind.wrap_i64]; omega
    have hw2 : IntKind.i64.wrap (a1 - a2) = a1 - a2 := by rw [IntKind.wrap_i64]; omega
    go_wp2_with fail
    have hS5 := hS.alloc (.cells #[.int .i64 (r1 - r2), .int .i64 (a1 - a2)] 3)
    have hn := Blk.new wc 3 #[.int .i64 (r1 - r2), .int .i64 (a1 - a2)]
    refine (cmpOr_any (r1 - r2) (a1 - a2) _ _ (hn.cell 0) (hn.cell 1)).mono ?_
    rintro e w' ⟨rfl, rfl⟩
    rw [hR.out]
    go_wp2
    go_ret
    exact ⟨rfl, hS5⟩
end Go.Proofs.YtbcoecmeoemmeaaGreatDoor

namespace Go.Proofs.YtbcoecmeoemmeaaGreatDoor
open Go.ChangeShapes Go.WideShapes Go.ChangeAt Go.RowKit
set_option linter.unusedVariables false
set_option linter.unusedSimpArgs false
theorem cf_lt (x y : Hdr) : cfH x y < 0 ↔ (x.round < y.round ∨ x.round = y.round ∧ x.author < y.author) := by
  unfold cfH
  split <;> omega
theorem ltH {l : List Crt} (a b : Fin l.length) : ltOf (fun x y : Fin l.length => cfH l[x].hdr l[y].hdr) a b = decide (l[a].hdr.round < l[b].hdr.round ∨ l[a].hdr.round = l[b].hdr.round ∧ l[a].hdr.author < l[b].hdr.author) := by
  show decide (cfH l[a].hdr l[b].hdr < 0) = _
  exact decide_eq_decide.2 (cf_lt _ _)
theorem swoH (l : List Crt) : Sort.SWO (ltOf (fun x y : Fin l.length => cfH l[x].hdr l[y].hdr)) where
  irrefl x := by rw [ltH]; simp
  trans x y z h1 h2 := by
    rw [ltH] at *
    simp only [decide_eq_true_eq] at *
    omega
  ntrans x y z h1 h2 := by
    rw [ltH] at *
    simp only [decide_eq_false_iff_not] at *
    omega
theorem sortWorld1_grown {α : Type} [Inhabited α] (enc : α → Value) (w : World) (blk off n : Nat) (d : Array α) (os : Array Obj) : w.grownBy (sortWorld enc w blk off n d os) (some blk) := by
  have hs : (Sort.putRow enc (Sort.ahead w n) blk off d).heap.size = w.heap.size := by rw [Sort.size_putRow]; rfl
  refine ⟨rfl, rfl, rfl, ?_, fun i hi hne => ?_⟩
  · unfold sortWorld
    rw [Sort.size_grow, hs]
    exact Nat.le_add_right _ _
  · unfold sortWorld
    rw [Sort.heap_grow_old _ _ (by rw [hs]; exact hi)]
    show ((Sort.ahead w n).heap.modify blk _)[i]? = _
    rw [Array.getElem?_modify, if_neg (fun e => hne (by rw [e]))]
    rfl
set_option maxHeartbeats 2000000 in
set_option maxRecDepth 100000 in
theorem sortIdx_any {w0 : World} (gd : Nat) (vl : Value) (l : List Crt) (hc : w0.cell? ⟨gd, 0, none⟩ = some vl) (hl : RCrts w0.cell? vl l) (hv : ∀ c ∈ l, hF c.hdr = 0) (v : Value) (xs : List Nat) (W : World) (b : Nat)
    (hown : OwnI W b v (xs.map fun n : Nat => (n : Int))) (hx : ∀ i ∈ xs, i < l.length) (hp : 0 < xs.length) (hl4 : xs.length ≤ 400) (hb0 : Below w0.heap.size w0 W) (hbb : w0.heap.size ≤ b) :
    Calls Tryz.prog 56 #[v, .func (.func 57) #[] #[.pointer (some ⟨gd, 0, none⟩)]] W fun e w' => e = .returned (.tuple #[]) ∧ Below w0.heap.size w0 w' ∧ ∃ ys : List Nat, ys.Perm xs ∧ (ys.Pairwise fun i j => ¬ aheadH l j i) ∧ RIs w'.cell? v (ys.map fun n : Nat => (n : Int)) := by
  have hr := hown.reads (bs := 8) (by simp; omega)
  have h1 := hown.own
  rw [List.length_map] at h1
  rcases h1.2 with ⟨rfl, hn⟩ | ⟨g, cap, cur, rfl, hbg, hcur, hncap, hcap, hcs, _⟩
  · omega
  · obtain ⟨A', c', e, _, _, hbd, _, hel⟩ := hr
    injection e with e1 e2 e3
    subst e1 e3
    simp only [List.length_map] at e2 hel hbd
    haveI : Inhabited (Fin l.length) := ⟨⟨xs[0], hx _ (List.getElem_mem hp)⟩⟩
    obtain ⟨d, hd⟩ : ∃ d : Array (Fin l.length), d.toList.map (·.val) = xs := ⟨(xs.attach.map fun i => (⟨i.1, hx i.1 i.2⟩ : Fin l.length)).toArray, by simp⟩
    have hds : d.size = xs.length := by rw [← hd]; simp
    let enc : Fin l.length → Value := fun i => .int .i64 i.val
    have hH : Sort.Holds enc W g 0 d := fun j hj => by
      obtain ⟨b', o', ea, hcc⟩ := hel (by omega)
      injection ea with ea
      injection ea with eb eo _
      subst eb eo
      have hjx : j < xs.length := by omega
      refine ⟨?_, Blk.frozen (show Blk W g 3 cur from hcur) _⟩
      rw [hcc j (by simpa using hjx), getElem!_pos d j hj]
      have : xs[j] = (d[j]).val := by
        subst hd
        simp
      simp [this]
      rfl
    have hlt : g < W.heap.size := (Array.getElem?_eq_some_iff.1 hcur).1
    have eg : ∀ args w, (callFunc 57 args).run Tryz.prog w = .ok (.enter 57 args) w := enters_of_func Tryz.func57 (by kernel_rfl) rfl
    have hcmp : CmpLays1 Tryz.prog 57 #[.pointer (some ⟨gd, 0, none⟩)] enc (fun x y : Fin l.length => cfH l[x].hdr l[y].hdr) g 0 d.size W := fun m os dk _ x y => by
      have hg := sortWorld1_grown enc W g 0 m dk os
      have hbl : Below w0.heap.size w0 (sortWorld enc W g 0 m dk os) := below_grownBy hb0 hb0.size hg (by intro k e; injection e with e; omega)
      exact hisCmp_any gd vl l hc hl x.val y.val x.isLt y.isLt (hv _ (List.getElem_mem _)) (hv _ (List.getElem_mem _)) _ hbl
    have hcon := Any.slices_SortFunc sortInt enc (fun _ => rfl) (fun x y : Fin l.length => cfH l[x].hdr l[y].hdr) (swoH l) 57 #[.pointer (some ⟨gd, 0, none⟩)] g 0 cap d W eg hcmp hH hlt (by omega)
    rw [hds] at hcon
    refine hcon.mono ?_
    rintro e w' ⟨rfl, d', n, os, hpm, hs, rfl⟩
    have hg := sortWorld1_grown enc W g 0 n d' os
    have hbl : Below w0.heap.size w0 (sortWorld enc W g 0 n d' os) := below_grownBy hb0 hb0.size hg (by intro k e; injection e with e; omega)
    have hds' : d'.size = xs.length := hpm.1.trans hds
    have hperm : d'.toList.Perm d.toList := by
      have h2 := hpm.2.2
      rw [← hds] at h2
      simp at h2
      rw [List.take_of_length_le (by simp [hpm.1])] at h2
      exact h2
    have hW' : SW enc W g 0 d' (sortWorld enc W g 0 n d' os) := ⟨n, os, rfl⟩
    have hH' := hW'.holds hlt hH hpm.1
    refine ⟨rfl, hbl, d'.toList.map (·.val), by rw [← hd]; exact hperm.map _, ?_, ?_⟩
    · rw [List.pairwise_map, List.pairwise_iff_getElem]
      intro i j hi hj hij
      simp at hi hj
      have := hs i j (Nat.zero_le _) hij (by omega)
      rw [ltH, getElem!_pos d' i (by omega), getElem!_pos d' j (by omega)] at this
      simp only [decide_eq_false_iff_not] at this
      rintro ⟨x, y, hx', hy', h3⟩
      simp only [Array.getElem_toList] at hx' hy'
      obtain ⟨q1, rfl⟩ := List.getElem?_eq_some_iff.1 hx'
      obtain ⟨q2, rfl⟩ := List.getElem?_eq_some_iff.1 hy'
      exact this h3
    · have hlen : (d'.toList.map (·.val)).length = xs.length := by simp [hds']
      refine ⟨some ⟨g, 0, none⟩, cap, by rw [List.length_map, hlen], by rw [List.length_map, hlen]; exact hncap, hcap, by rw [List.length_map, hlen]; omega, (fun h => by cases h), fun h0 => ⟨g, 0, rfl, fun i hi => ?_⟩⟩
      rw [List.length_map, hlen] at hi
      have := (hH' i (by omega)).1
      rw [this, getElem!_pos d' i (by omega)]
      simp
      rfl
end Go.Proofs.YtbcoecmeoemmeaaGreatDoor

namespace Go.Proofs.YtbcoecmeoemmeaaGreatDoor
open Go.ChangeShapes Go.WideShapes Go.ChangeAt Go.RowKit
set_option linter.unusedVariables false
structure Bat where
  author : Int
  number : Int
  txs : List ByteArray
set_option maxRecDepth 100000 in
theorem opens_bat : OpensTo Tryz.prog 71 (fun h cs (x : Bat) => ∃ v, cs = [.int .i64 x.author, .int .i64 x.number, v] ∧ RTexts h v x.txs ∧ ∀ s ∈ x.txs, s.size ≤ reachBytes) := by
  intro H enc w fuel cs x h hw
  obtain ⟨hl, hf⟩ := opens_fields Tryz.underlying71 h hw
  obtain ⟨a, ha, _⟩ := hf 0 3 0 1 rfl (by kernel_rfl) opens_i
  obtain ⟨r, hr, _⟩ := hf 1 3 1 1 rfl (by kernel_rfl) opens_i
  obtain ⟨b, vb, hvb, hb, hs⟩ := hf 2 43 2 1 rfl (by kernel_rfl) opens_texts
  have hl' : cs.length = 3 := hl.trans (by kernel_rfl)
  match cs, hl' with
  | [c0, c1, c2], _ =>
    simp at ha hr hvb
    subst ha hr hvb
    exact ⟨⟨a, r, b⟩, _, rfl, hb, hs⟩
set_option maxRecDepth 100000 in
theorem open_bat {H : Type} {enc : TypeId × Value → H} {W : World} {base : Nat} {v : Value} {d : DataW H} {p : List MemPlace} (hval : Value.okWide Tryz.prog W .any base 71 v) (h : DataW.Trod enc Tryz.prog W 0 (fun _ => true) true 71 v d p)
    (hw : ∀ n ∈ DataW.weights Tryz.prog 71 d, n ≤ reachBytes) : ∃ (x : Bat) (vl : Value), v = .agg #[.int .i64 x.author, .int .i64 x.number, vl] ∧ RTexts W.cell? vl x.txs ∧ ∀ s ∈ x.txs, s.size ≤ 140737488355328 := by
  obtain ⟨fuel, h⟩ := h
  obtain ⟨x, vl, e, r, hs⟩ := opens_bat H enc W fuel _ _ h hw
  exact ⟨x, vl, agg_of Tryz.underlying71 hval e, r, fun s hs' => reach_le (hs s hs')⟩
end Go.Proofs.YtbcoecmeoemmeaaGreatDoor

namespace Go.Proofs.YtbcoecmeoemmeaaGreatDoor
open Go.ChangeShapes Go.WideShapes Go.ChangeAt Go.RowKit
set_option linter.unusedVariables false
set_option linter.unusedSimpArgs false
/-- a batch of texts that are no longer than a machine's -/
def RBat (h : View) (cs : List Value) (x : Bat) : Prop := ∃ v, cs = [.int .i64 x.author, .int .i64 x.number, v] ∧ RTexts h v x.txs ∧ ∀ s ∈ x.txs, s.size ≤ 140737488355328
theorem RBat.mono : Mono RBat := fun h h' cs x ⟨v, e, h1, h2⟩ hle => ⟨v, e, h1.mono hle, h2⟩
abbrev RBats := RSl 3 RBat 40
theorem elemBat : Elem Tryz.prog 40 71 3 40 := elemN (z := .agg #[.int .i64 0, .int .i64 0, .slice none 0 0]) Tryz.underlying40 (by kernel_rfl) rfl (by decide)
theorem RBats.at {h : View} {A : Option Addr} {n c : Nat} {xs : List Bat} (hr : RBats h (.slice A n c) xs) : n = xs.length ∧ n ≤ c ∧ n * 40 ≤ 140737488355328 ∧ ∀ k (hk : k < xs.length), ∃ b o v, A = some ⟨b, o, none⟩ ∧ h ⟨b, o + k * 3, none⟩ = some (.int .i64 xs[k].author) ∧ h ⟨b, o + k * 3 + 1, none⟩ = some (.int .i64 xs[k].number) ∧ h ⟨b, o + k * 3 + 2, none⟩ = some v ∧ RTexts h v xs[k].txs ∧ ∀ s ∈ xs[k].txs, s.size ≤ 140737488355328 := by
  obtain ⟨A', c', e, h1, _, h2, _, h3⟩ := hr
  injection e with e1 e2 e3
  subst e1 e2 e3
  refine ⟨rfl, h1, h2, fun k hk => ?_⟩
  obtain ⟨b, o, ea, hc⟩ := h3 (by omega)
  obtain ⟨cs, hl, hcs, v, rfl, hb, hs⟩ := hc k hk
  have c0 := hcs 0 (by omega)
  have c1 := hcs 1 (by omega)
  have c2 := hcs 2 (by omega)
  simp at c0 c1 c2
  exact ⟨b, o, v, ea, c0, c1, c2, hb, hs⟩
theorem RBats.form {h : View} {v : Value} {xs : List Bat} (hr : RBats h v xs) : ∃ A c, v = .slice A xs.length c := by
  obtain ⟨A, c, e, _⟩ := hr
  exact ⟨A, c, e⟩
theorem RBats.len {h : View} {v : Value} {xs : List Bat} (hr : RBats h v xs) : xs.length * 40 ≤ 140737488355328 := by
  obtain ⟨_, _, _, _, _, h, _⟩ := hr
  exact h
theorem opens_bats : OpensTo Tryz.prog 40 (fun h cs (xs : List Bat) => ∃ v, cs = [v] ∧ RBats h v xs) :=
  opens_sl Tryz.underlying40 (by kernel_rfl) (by decide) (by kernel_rfl) (R := RBat) (by
    intro H enc w fuel cs x h hw
    obtain ⟨x, v, e, r, hs⟩ := opens_bat H enc w fuel cs x h hw
    exact ⟨x, v, e, r, fun s hs' => reach_le (hs s hs')⟩)
set_option maxHeartbeats 2000000 in
set_option maxRecDepth 100000 in
theorem batches_any (v : Value) (l : List Bat) (w : World) (hv : RBats w.cell? v l) :
    Calls Tryz.prog 11 #[v] w fun e w' => ∃ v', e = .returned v' ∧ Below w.heap.size w w' ∧ OwnSl 3 (RFrom w.heap.size RBat) 71 w' w.heap.size v' l := by
  obtain ⟨A, c, rfl, _⟩ := id hv
  obtain ⟨_, hcap, hlen, hel⟩ := RBats.at hv
  have Hel := Lib.hid hel
  clear hel hv
  go_enter Tryz.func11, Tryz.ntmps11
  go_wp2
  go_loopw [3, 4, 5] (fun v i _ wr => ∃ k : Nat, k ≤ l.length ∧ i = .int .i64 k ∧ OwnSl 3 (RFrom w.heap.size RBat) 71 wr w.heap.size v (l.take k) ∧ Below w.heap.size w wr) (fun _ i _ _ => l.length - (intOf i).toNat)
  case atStart => exact ⟨0, Nat.zero_le _, rfl, OwnSl.nil _ _ _ _ _, Below.refl _ _⟩
  case round =>
    obtain ⟨k, hk, rfl, hown, hbl⟩ := hrel
    have hbs := hbl.size
    by_cases hlt : k < l.length
    · obtain ⟨b0, o0, d, rfl, e0, e1, e2, hd, hs⟩ := Hel.out k hlt
      have c0 := vle_below hbl _ _ e0
      have c1 := vle_below hbl _ _ e1
      have c2 := vle_below hbl _ _ e2
      have hd' := hd.mono (vle_below hbl)
      have Hn := Lib.hid (List.take_succ_eq_append_getElem hlt)
      have Hlk := Lib.hid (show (l.take k).length = k by simp; omega)
      have Hs := Lib.hid hs
      have hdl := Lib.hid (show l[k].txs.length * 16 ≤ 140737488355328 by obtain ⟨_, _, _, _, _, h, _⟩ := hd; exact h)
      clear e0 e1 e2 hd hs
      generalize l.take k = L at hown Hn Hlk
      generalize l[k] = y at *
      go_wp2_with fail
      refine (batch_any _ _ _ _ _ hd').mono ?_
      rintro e w1 ⟨d', rfl, hb1, o1⟩
      have hown1 := hown.kept (RFrom.mono RBat.mono) hb1
      have hbl1 : Below w.heap.size w w1 := hbl.trans (hb1.mono hbs)
      have hR : RFrom w.heap.size RBat (View.but w1.cell? u3.ownBlock) [.int .i64 y.author, .int .i64 y.number, d'] y :=
        ⟨d', rfl, o1.reads_from hdl.out hbs (fun g hg => (hown.lt g hg).2), Hs.out⟩
      have hlto := hown.lt
      have hs1 := hb1.size
      obtain ⟨A', c', rfl⟩ := o1.form
      clear c0 c1 c2 hd' o1
      go_upto_region 6 with fail
      refine one_block _ _ _ (fun W => Code.wp _ _ _ _ W) (fun W2 hX hsX hbX => ?_)
      have hbX2 := hbl1.trans (hbX.mono hbl1.size)
      have hown2 := hown1.kept (RFrom.mono RBat.mono) hbX
      have hR2 := RFrom.mono RBat.mono _ _ _ _ hR (but_below hbX u3.ownBlock)
      have x0 := hX.cell 0; have x1 := hX.cell 1; have x2 := hX.cell 2
      simp at x0 x1 x2
      clear hsX hown hown1 hR
      go_wp2_with (at_builtin; go_loud (refine wpList_append_sl1 (n := 140737488355328) (RFrom.mono RBat.mono) y [.int .i64 y.author, .int .i64 y.number, .slice A' y.txs.length c'] elemBat _ _ rfl rfl rfl hown2 hbX2 hbX2.size rfl rfl rfl rfl hR2 (Nat.le_refl _) (by rw [Hlk.out]; omega) (by rw [Hlk.out]; omega) ?_))
      intro v' w2 ho hbl2 _
      rw [← Hn.out] at ho
      clear hown2 hR2 x0 x1 x2
      go_wp2
      go_roundw
      case rel => exact ⟨k + 1, by omega, by go_num, ho, hbl2⟩
      case measure => simp [intOf]; omega
    · have : k = l.length := by omega
      subst this
      go_wp2
      go_ret
      exact ⟨_, rfl, hbl, by simpa using hown⟩
end Go.Proofs.YtbcoecmeoemmeaaGreatDoor

namespace Go.Proofs.YtbcoecmeoemmeaaGreatDoor
open Go.ChangeShapes Go.WideShapes Go.ChangeAt Go.RowKit
set_option linter.unusedVariables false
open Go.Maps
set_option linter.unusedSimpArgs false
def bF (x : Bat) : Int := batchF x.author x.number x.txs
def bD (x : Bat) : List UInt8 := batD x.author x.number x.txs
def badB (l : List Bat) (i : Nat) : Bool := match l[i]? with | some x => bF x != 0 || ((l.take i).map bD).any (· == bD x) | none => false
def batsF (l : List Bat) : Int := if 800 < l.length then 12 else if (List.range l.length).any (badB l) then 12 else 0
theorem badB_at {l : List Bat} {k : Nat} (hk : k < l.length) : badB l k = (bF l[k] != 0 || ((l.take k).map bD).any (· == bD l[k])) := by
  unfold badB; simp [hk]
theorem strKey : Keyed Tryz.prog 9 := string_keyed Tryz.underlying9
theorem zeroU (w : World) : (zeroValue 83).run Tryz.prog w = .ok (.agg #[]) w := by kernel_rfl
def keysOf (ds : List (List UInt8)) : List Lit := ds.map Lit.string
theorem has_keys (ds : List (List UInt8)) (d : List UInt8) : Maps.has (setOf (H := Unit) (.agg []) (keysOf ds)) (.string d) = ds.any (· == d) := by
  rw [has_setOf _ _ _ (by
    intro x hx
    unfold keysOf at hx
    obtain ⟨y, _, rfl⟩ := List.mem_map.1 hx
    trivial)]
  unfold keysOf
  rw [List.any_map]
  rfl
theorem key_str {d : List UInt8} (h : d.length ≤ 140737488355328) : keyOf Tryz.prog 9 (.string (bstr d)) = some (.string d) :=
  WideMaps.keyOf_string_mk Tryz.underlying9 (s := bstr d) (by rw [bstr_size]; exact le_maxLen h)
theorem ownsMap_below {P : Program} {k : TypeId} {R : Value → Option (DataW Unit × List MemPlace)} {w w' : World} {b n : Nat} {D : DataW Unit} (h : w.ownsMap P k R b n D) (hb : Below w.heap.size w w') : w'.ownsMap P k R b n D :=
  h.kept (grownBy_below none hb) (by simp)
set_option maxHeartbeats 4000000 in
set_option maxRecDepth 100000 in
theorem checkBatches_any (v : Value) (l : List Bat) (w : World) (hv : RBats w.cell? v l) (hT : Tabs w.cell?) :
    Calls Tryz.prog 24 #[v] w fun e w' => e = .returned (.int .i64 (batsF l)) ∧ Below w.heap.size w w' := by
  obtain ⟨A, c, rfl, hf⟩ := id hv
  clear hf
  obtain ⟨_, hn1, hn2, hel⟩ := RBats.at hv
  have Hel := Lib.hid hel
  clear hel hv
  obtain ⟨Q, hQ⟩ : ∃ q, Hid (batsF l = q) := ⟨_, rfl⟩
  have hQ0 : Hid (Q = if 800 < l.length then 12 else if (List.range l.length).any (badB l) then 12 else 0) := hQ.out.symm
  rw [hQ.out]
  clear hQ
  have hmm := @run_makeMap Tryz.prog
  go_enter Tryz.func24, Tryz.ntmps24
  by_cases hbig : (800 : Int) < l.length
  · have HQ : Hid (Q = 12) := by show _ = _; rw [hQ0.out, if_pos (by omega)]
    go_wp2
    go_ret
    exact ⟨ret_int HQ.out.symm, Below.refl _ _⟩
  have hQ1 : Hid (Q = if (List.range l.length).any (badB l) then 12 else 0) := by show _ = _; rw [hQ0.out, if_neg (by omega)]
  have hl8 := Lib.hid (show l.length ≤ 800 by omega)
  clear hQ0
  go_wp2_with fail
  go_loopw [5, 6, 7, 8, 9, 16] (fun _ _ _ _ _ i wr => ∃ k : Nat, k ≤ l.length ∧ i = .int .i64 k ∧ (∀ j, j < k → badB l j = false) ∧ wr.ownsMap Tryz.prog 9 (unitElem (H := Unit)) w.heap.size k (setOf (.agg []) (keysOf ((l.take k).map bD))) ∧ Below w.heap.size w wr ∧ w.heap.size + 1 ≤ wr.heap.size) (fun _ _ _ _ _ i _ => l.length - (intOf i).toNat)
  case atStart => exact ⟨0, Nat.zero_le _, rfl, fun j hj => by omega, World.ownsMap_made _ _ _ _, (Below.refl _ _).alloc (Nat.le_refl _) _, by simp⟩
  case round =>
    obtain ⟨k, hk, rfl, hok', hown, hbl, hz⟩ := hrel
    have hok := Lib.hid hok'
    clear hok'
    by_cases hlt : k < l.length
    · obtain ⟨b0, o0, d, rfl, e0, e1, e2, hd, hs⟩ := Hel.out k hlt
      have c0 := vle_below hbl _ _ e0
      have c1 := vle_below hbl _ _ e1
      have c2 := vle_below hbl _ _ e2
      have hd' := hd.mono (vle_below hbl)
      have Hs := Lib.hid hs
      have Hb := Lib.hid (badB_at hlt)
      have Hn := Lib.hid (show (l.take (k + 1)).map bD = (l.take k).map bD ++ [bD l[k]] by rw [List.take_succ_eq_append_getElem hlt, List.map_append]; rfl)
      have hnext : Hid (badB l k = false → ∀ j, j < k + 1 → badB l j = false) := fun hq j hj => by
        by_cases e : j = k
        · subst e; exact hq
        · exact hok.out j (by omega)
      have hbadQ : Hid (badB l k = true → Q = 12) := fun h => by rw [hQ1.out, if_pos (any_range_true hlt h)]
      obtain ⟨txA, txc, rfl, hg⟩ := id hd
      clear e0 e1 e2 hd hs hg
      have hHas : Hid (∀ d, Maps.has (setOf (H := Unit) (.agg []) (keysOf ((l.take k).map bD))) (.string d) = ((l.take k).map bD).any (· == d)) := fun d => has_keys _ d
      generalize (l.take k).map bD = Ds at hown Hb Hn hHas
      generalize badB l k = BK at Hb hnext hbadQ
      have HD : Hid (batD l[k].author l[k].number l[k].txs = bD l[k] ∧ batchF l[k].author l[k].number l[k].txs = bF l[k]) := ⟨rfl, rfl⟩
      generalize l[k] = y at *
      go_upto_region 7 with fail
      refine one_block _ _ _ (fun W => Code.wp _ _ _ _ W) (fun W2 hX hsX hbX => ?_)
      have hbl2 := hbl.trans (hbX.mono hbl.size)
      have hown2 := ownsMap_below hown hbX
      have hz2 := hbX.size
      have hd2 := hd'.mono (vle_below hbX)
      have x0 := hX.cell 0; have x1 := hX.cell 1; have x2 := hX.cell 2
      simp at x0 x1 x2
      clear hsX hown hd' c0 c1 c2
      go_wp2_with fail
      refine (batchDigestW_any _ _ _ y.txs _ hd2 Hs.out (hT.mono (vle_below hbl2))).mono ?_
      rintro e w3 ⟨d3, rfl, hb3, r3⟩
      rw [HD.out.2]
      have hbl3 := hbl2.trans (hb3.mono hbl2.size)
      have hown3 := ownsMap_below hown2 hb3
      have hz3 := hb3.size
      clear x0 x1 x2 hX hd2 hown2
      by_cases h0 : bF y = 0
      rotate_left
      · have HQ := Lib.hid (hbadQ.out (by rw [Hb.out]; simp [h0]))
        generalize bF y = E at *
        clear hnext hbadQ Hb r3
        go_wp2
        go_ret
        exact ⟨ret_int HQ.out.symm, hbl3⟩
      have HR : batDR y.author y.number y.txs = bD y := if_pos (HD.out.2.trans h0)
      rw [HR] at r3
      have hb1 : Hid (BK = Ds.any (· == bD y)) := by show _ = _; rw [Hb.out, h0]; rfl
      rw [h0]
      clear HR HD Hb h0
      have r3 := r3.mono (View.from_le _ _)
      have hstr := run_toStr r3
      have hdl : (bD y).length * 1 ≤ 140737488355328 := r3.len
      generalize bD y = D at *
      have hkey := key_str (d := D) (by omega)
      obtain ⟨HB, hHB⟩ : ∃ z, Ds.any (· == D) = z := ⟨_, rfl⟩
      have hhas := hHas.out D
      rw [hHB] at hhas
      have hb2 : Hid (BK = HB) := by show _ = _; rw [hb1.out, hHB]
      obtain ⟨dA, dc, rfl, hfd⟩ := id r3
      clear hfd hHB hb1 hHas
      have hz33 : w.heap.size + 1 ≤ w3.heap.size := by omega
      go_upto_region 11 with (at_lookup; refine wpList_lookup_own_unit _ rfl _ _ 79 rfl 9 83 strKey Tryz.underlying79 (zeroU _) w.heap.size k _ rfl hown3 _ _ rfl hkey ?_)
      refine one_block _ _ _ (fun W => Code.wp _ _ _ _ W) (fun W4 hU hsU hbU => ?_)
      have hbl4 := hbl3.trans (hbU.mono hbl3.size)
      have hown4 := ownsMap_below hown3 hbU
      have hstr4 := run_toStr (r3.mono (vle_below hbU))
      have hz4 := hbU.size
      clear hsU hU hown3 r3 hstr
      cases HB
      · have hq := Lib.hid (hnext.out hb2.out)
        clear hnext hbadQ hb2
        go_wp2_with (at_mapUpdate; refine wpList_mapUpdate_own _ rfl _ _ _ 79 rfl 9 83 strKey Tryz.underlying79 (unitElem (H := Unit)) w.heap.size k _ rfl hown4 (by have := hl8.out; unfold maxLen; omega) _ _ _ rfl rfl hkey _ [] unitElem_mk ?_; intro w5 hown5 hg5)
        go_roundw
        case rel =>
          refine ⟨k + 1, by omega, by go_num, hq.out, ?_, below_grownBy hbl4 hbl4.size hg5 (by intro q e; injection e; omega), by have := hg5.size; omega⟩
          rw [Hn.out]
          unfold keysOf at hown5 ⊢
          rw [List.map_append, List.map_cons, List.map_nil, setOf_snoc]
          exact hown5
        case measure => simp [intOf]; omega
      · have HQ := Lib.hid (hbadQ.out hb2.out)
        clear hnext hbadQ hb2
        go_wp2
        go_ret
        exact ⟨ret_int HQ.out.symm, hbl4⟩
    · have HQ : Hid (Q = 0) := by
        show _ = _
        rw [hQ1.out, if_neg]
        rw [Bool.not_eq_true]
        exact any_range_false fun j hj => hok.out j (by omega)
      go_wp2
      go_ret
      exact ⟨ret_int HQ.out.symm, hbl⟩
set_option maxHeartbeats 4000000 in
set_option maxRecDepth 100000 in
theorem batchesFault_any (v : Value) (l : List Bat) (w : World) (hv : RBats w.cell? v l) :
    Calls Tryz.prog 30 #[v] w fun e w' => e = .returned (.int .i64 (batsF l)) ∧ Below w.heap.size w w' := by
  obtain ⟨A, c, rfl, hf⟩ := id hv
  clear hf
  obtain ⟨_, hn1, hn2, hel⟩ := RBats.at hv
  have Hel := Lib.hid hel
  clear hel hv
  obtain ⟨Q, hQ⟩ : ∃ q, Hid (batsF l = q) := ⟨_, rfl⟩
  have hQ0 : Hid (Q = if 800 < l.length then 12 else if (List.range l.length).any (badB l) then 12 else 0) := hQ.out.symm
  rw [hQ.out]
  clear hQ
  go_enter Tryz.func30, Tryz.ntmps30
  by_cases hbig : (800 : Int) < l.length
  · have HQ : Hid (Q = 12) := by show _ = _; rw [hQ0.out, if_pos (by omega)]
    go_wp2
    go_ret
    exact ⟨ret_int HQ.out.symm, Below.refl _ _⟩
  have hQ1 : Hid (Q = if (List.range l.length).any (badB l) then 12 else 0) := by show _ = _; rw [hQ0.out, if_neg (by omega)]
  have hl8 := Lib.hid (show l.length ≤ 800 by omega)
  clear hQ0
  go_wp2_with fail
  go_loopw [3, 4, 5] (fun v i _ wr => ∃ k : Nat, k ≤ l.length ∧ i = .int .i64 k ∧ (∀ j, j < k → badB l j = false) ∧ OwnSl 1 (RFrom w.heap.size RDig) 41 wr w.heap.size v ((l.take k).map bD) ∧ Below w.heap.size w wr) (fun _ i _ _ => l.length - (intOf i).toNat)
  case atStart => exact ⟨0, Nat.zero_le _, rfl, fun j hj => by omega, OwnSl.nil _ _ _ _ _, Below.refl _ _⟩
  case round =>
    obtain ⟨k, hk, rfl, hok', hown, hbl⟩ := hrel
    have hok := Lib.hid hok'
    clear hok'
    have hbs := hbl.size
    by_cases hlt : k < l.length
    · obtain ⟨b0, o0, d, rfl, e0, e1, e2, hd, hs⟩ := Hel.out k hlt
      have c0 := vle_below hbl _ _ e0
      have c1 := vle_below hbl _ _ e1
      have c2 := vle_below hbl _ _ e2
      have hd' := hd.mono (vle_below hbl)
      have Hs := Lib.hid hs
      have Hb := Lib.hid (badB_at hlt)
      have Hn := Lib.hid (show (l.take (k + 1)).map bD = (l.take k).map bD ++ [bD l[k]] by rw [List.take_succ_eq_append_getElem hlt, List.map_append]; rfl)
      have Hlk := Lib.hid (show ((l.take k).map bD).length = k by simp; omega)
      have hnext : Hid (badB l k = false → ∀ j, j < k + 1 → badB l j = false) := fun hq j hj => by
        by_cases e : j = k
        · subst e; exact hq
        · exact hok.out j (by omega)
      have hbadQ : Hid (badB l k = true → Q = 12) := fun h => by rw [hQ1.out, if_pos (any_range_true hlt h)]
      obtain ⟨txA, txc, rfl, hg⟩ := id hd
      clear e0 e1 e2 hd hs hg
      generalize (l.take k).map bD = Ds at hown Hb Hn Hlk
      generalize badB l k = BK at Hb hnext hbadQ
      have HD : Hid (batD l[k].author l[k].number l[k].txs = bD l[k] ∧ batchF l[k].author l[k].number l[k].txs = bF l[k]) := ⟨rfl, rfl⟩
      generalize l[k] = y at *
      go_wp2_with fail
      refine (batchFault_any _ _ _ y.txs _ hd' Hs.out).mono ?_
      rintro e w3 ⟨rfl, hb3⟩
      rw [HD.out.2]
      have hbl3 := hbl.trans (hb3.mono hbs)
      have hown3 := hown.kept (RFrom.mono RDig.mono) hb3
      have hz3 := hb3.size
      have q3 := vle_below hb3
      have c0' := q3 _ _ c0; have c1' := q3 _ _ c1; have c2' := q3 _ _ c2
      clear c0 c1 c2 hown
      by_cases h0 : bF y = 0
      rotate_left
      · have HQ := Lib.hid (hbadQ.out (by rw [Hb.out]; simp [h0]))
        generalize bF y = E at *
        clear hnext hbadQ Hb
        go_wp2
        go_ret
        exact ⟨ret_int HQ.out.symm, hbl3⟩
      have H3 := Lib.hid (batchF_zero (HD.out.2.trans h0))
      have hb1 : Hid (BK = Ds.any (· == bD y)) := by show _ = _; rw [Hb.out, h0]; rfl
      rw [h0]
      clear Hb h0
      go_wp2_with fail
      refine (batchDigestR_any _ _ _ y.txs _ (by have := H3.out; omega) (by have := H3.out; omega) (hd'.mono q3) (by have := H3.out; omega)).mono ?_
      rintro e w4 ⟨d4, rfl, hb4, r4⟩
      rw [HD.out.1] at r4
      have hbl4 := hbl3.trans (hb4.mono hbl3.size)
      have hlto := hown3.lt
      have hown4 := hown3.kept (RFrom.mono RDig.mono) hb4
      have hz4 := hb4.size
      have rDs := hown4.reads (bs := 24) (RFrom.mono RDig.mono) (by rw [Hlk.out]; have := hl8.out; omega)
      have rDs := RSl.weak (R' := RDig) (fun h cs x hr => RDig.mono _ _ _ _ hr (View.from_le _ _)) rDs
      generalize bD y = D at *
      have r4' := r4.mono (View.from_le _ _)
      obtain ⟨dA, dc, rfl, hfd⟩ := id r4'
      clear hfd hown3 hd' q3 c0' c1' c2' H3 HD
      obtain ⟨nA, nc, rfl⟩ := hown4.form
      go_wp2_with fail
      refine (placeOf_any _ Ds _ D _ rDs r4').mono ?_
      rintro e w5 ⟨rfl, hb5⟩
      have hbl5 := hbl4.trans (hb5.mono hbl4.size)
      have hown5 := hown4.kept (RFrom.mono RDig.mono) hb5
      have hz5 := hb5.size
      have hR : RFrom w.heap.size RDig (View.but w5.cell? (Value.slice nA Ds.length nc).ownBlock) [.slice dA D.length dc] D :=
        ⟨_, rfl, (r4.mono (from_from_but (b' := w.heap.size) (by omega) (fun g hg => (hlto g hg).2))).mono (vle_from _ (but_below hb5 _))⟩
      clear rDs r4 r4' hown4
      rcases idxI_cases (· == D) Ds with ⟨p1, p2⟩ | ⟨j, hj, p1, p2, p3⟩
      · rw [show placeI Ds D = -1 from p1]
        have hq := Lib.hid (hnext.out (by rw [hb1.out]; exact p2))
        clear p1 p2 hnext hbadQ hb1
        go_wp2_with (at_builtin; go_loud (refine wpList_append_sl1 (n := 140737488355328) (RFrom.mono RDig.mono) D [.slice dA D.length dc] elemDig _ _ rfl rfl rfl hown5 hbl5 hbl5.size rfl rfl rfl rfl hR (Nat.le_refl _) (by rw [Hlk.out]; have := hl8.out; omega) (by rw [Hlk.out]; have := hl8.out; omega) ?_))
        intro v' w6 ho hbl6 _
        rw [← Hn.out] at ho
        clear hown5 hR
        go_wp2
        go_roundw
        case rel => exact ⟨k + 1, by omega, by go_num, hq.out, ho, hbl6⟩
        case measure => simp [intOf]; omega
      · rw [show placeI Ds D = j from p1]
        have HQ := Lib.hid (hbadQ.out (by rw [hb1.out]; exact any_true_get hj p2))
        clear p1 p2 p3 hnext hbadQ hb1
        go_wp2
        go_ret
        exact ⟨ret_int HQ.out.symm, hbl5⟩
    · have HQ : Hid (Q = 0) := by
        show _ = _
        rw [hQ1.out, if_neg]
        rw [Bool.not_eq_true]
        exact any_range_false fun j hj => hok.out j (by omega)
      go_wp2
      go_ret
      exact ⟨ret_int HQ.out.symm, hbl⟩
end Go.Proofs.YtbcoecmeoemmeaaGreatDoor

namespace Go.Proofs.YtbcoecmeoemmeaaGreatDoor
open Go.ChangeShapes Go.WideShapes Go.ChangeAt Go.RowKit
set_option linter.unusedVariables false
open Go.Maps
set_option linter.unusedSimpArgs false
theorem exists_least {p : Nat → Prop} : ∀ n, p n → ∃ m, p m ∧ ∀ k, p k → m ≤ k := by
  intro n
  induction n using Nat.strongRecOn with
  | _ n ih =>
    intro hn
    by_cases h : ∃ k, p k ∧ k < n
    · obtain ⟨k, hk, hlt⟩ := h
      exact ih k hlt hk
    · exact ⟨n, hn, fun k hk => Nat.le_of_not_lt fun hlt => h ⟨k, hk, hlt⟩⟩
open Classical in
noncomputable def least (p : Nat → Prop) : Nat := if h : ∃ m, p m ∧ ∀ k, p k → m ≤ k then h.choose else 0
theorem least_spec {p : Nat → Prop} {n : Nat} (h : p n) : p (least p) ∧ ∀ k, p k → least p ≤ k := by
  have h2 := exists_least n h
  unfold least
  rw [dif_pos h2]
  exact h2.choose_spec
/-- a digest in a row -/
structure DV where
  A : Option Addr
  c : Nat
  x : List UInt8
def encV (d : DV) : Value := .slice d.A d.x.length d.c
theorem encV_one (d : DV) : (encV d).oneCell' = true := rfl
abbrev OwnDV := OwnVec encV 41
theorem elemDV : Elem1 Tryz.prog 63 41 24 := elem1 (z := .slice none 0 0) Tryz.underlying63 (by kernel_rfl) rfl
theorem RDigs.rows {h : View} {v : Value} {xs : List (List UInt8)} (hr : RDigs h v xs) : ∃ vs : List DV, vs.map (·.x) = xs ∧ RVec encV 24 h v vs ∧ ∀ d ∈ vs, RBytes h (encV d) d.x := by
  obtain ⟨A, c, rfl, h1, h2, h3, h4, h5⟩ := hr
  have hex : ∀ i : Fin xs.length, ∃ d : DV, d.x = xs[i] ∧ RBytes h (encV d) d.x ∧ ∀ b o, A = some ⟨b, o, none⟩ → h ⟨b, o + i.val, none⟩ = some (encV d) := fun i => by
    obtain ⟨b, o, ea, hc⟩ := h5 (by have := i.isLt; omega)
    obtain ⟨cs, hl, hcell, d, rfl, hd⟩ := hc i.val i.isLt
    obtain ⟨A', c', rfl, hf⟩ := id hd
    refine ⟨⟨A', c', xs[i]⟩, rfl, hd, fun b' o' e => ?_⟩
    rw [ea] at e
    injection e with e
    injection e with e1 e2 _
    subst e1 e2
    have := hcell 0 (by omega)
    rw [Nat.mul_one, Nat.add_zero] at this
    exact this
  refine ⟨List.ofFn fun i => Classical.choose (hex i), ?_, ?_, ?_⟩
  · apply List.ext_getElem
    · simp
    · intro i q1 q2
      simp only [List.getElem_map, List.getElem_ofFn]
      exact (Classical.choose_spec (hex ⟨i, q2⟩)).1
  · refine ⟨A, c, by simp, by simpa using h1, h2, by simpa using h3, h4, fun hp => ?_⟩
    simp at hp
    obtain ⟨b, o, ea, _⟩ := h5 hp
    refine ⟨b, o, ea, fun i hi => ?_⟩
    simp at hi
    simp only [List.getElem_ofFn]
    exact (Classical.choose_spec (hex ⟨i, hi⟩)).2.2 b o ea
  · intro d hd
    obtain ⟨i, rfl⟩ := List.mem_ofFn.1 hd
    exact (Classical.choose_spec (hex i)).2.1
theorem OwnVec.pop {α : Type} {enc : α → Value} {e : TypeId} {w : World} {b : Nat} {A : Option Addr} {n c : Nat} {xs : List α} {x : α} (h : OwnVec enc e w b (.slice A (n + 1) c) (xs ++ [x])) (hn : n = xs.length) : OwnVec enc e w b (.slice A n c) xs := by
  obtain ⟨h⟩ := h
  rcases h.2 with ⟨h1, h2⟩ | ⟨g, cap, cur, h1, h2, h3, h4, h5, h6, h7⟩
  · simp at h2
  · injection h1 with e1 e2 e3
    subst e1 e3
    refine ⟨by simp, .inr ⟨g, c, cur, by rw [hn], h2, h3, by simp at h4; omega, h5, h6, ?_⟩⟩
    have h8 := congrArg (List.take (xs.length * 1)) h7
    rw [List.take_take] at h8
    simp at h8
    simpa using h8
theorem intKey : Keyed Tryz.prog 3 := int_keyed Tryz.underlying3
def keysI (m : List Nat) : List Lit := m.map fun n : Nat => Lit.int .i64 n
theorem has_keysI (m : List Nat) (j : Nat) : Maps.has (setOf (H := Unit) (.agg []) (keysI m)) (.int .i64 j) = decide (j ∈ m) := by
  rw [has_setOf _ _ _ (by
    intro x hx
    unfold keysI at hx
    obtain ⟨y, _, rfl⟩ := List.mem_map.1 hx
    trivial)]
  unfold keysI
  rw [List.any_map]
  rw [Bool.eq_iff_iff]
  simp only [List.any_eq_true, decide_eq_true_eq, Function.comp]
  constructor
  · rintro ⟨y, hy, he⟩
    have : y = j := by
      have h2 : (y : Int) = j := by simpa [Lit.sameKey] using he
      omega
    rw [← this]; exact hy
  · intro hj
    exact ⟨j, hj, by simp [Lit.sameKey]⟩
theorem key_int {j : Nat} (h : j ≤ 140737488355328) : keyOf Tryz.prog 3 (.int .i64 j) = some (.int .i64 j) :=
  keyOf_int_mk Tryz.underlying3 (by
    have e1 : IntKind.i64.min = -9223372036854775808 := by decide
    have e2 : IntKind.i64.max = 9223372036854775807 := by decide
    show (decide (IntKind.i64.min ≤ (j : Int)) && decide ((j : Int) ≤ IntKind.i64.max)) = true
    rw [e1, e2]
    simp
    omega)
end Go.Proofs.YtbcoecmeoemmeaaGreatDoor

namespace Go.Proofs.YtbcoecmeoemmeaaGreatDoor
open Go.ChangeShapes Go.WideShapes Go.ChangeAt Go.RowKit
set_option linter.unusedVariables false
open Go.Maps
set_option linter.unusedSimpArgs false
theorem ownsMap_below2 {w w' : World} {b n : Nat} {D : DataW Unit} {P : Program} {k : TypeId} {R : Value → Option (DataW Unit × List MemPlace)} (h : w.ownsMap P k R b n D) (hb : Below w.heap.size w w') : w'.ownsMap P k R b n D := h.kept (grownBy_below none hb) (by simp)
/-- the walk in its midst: n is what is left at most -/
structure HisRel (w0 : World) (B mb : Nat) (l : List Crt) (ds : List (List UInt8)) (k : Nat) (n : Nat) (v : Value) (wr : World) : Prop where
  rel : ∃ (met : List Nat) (todo : List DV), OwnDV wr B v todo ∧ wr.ownsMap Tryz.prog 3 (unitElem (H := Unit)) mb met.length (setOf (.agg []) (keysI met)) ∧ Dfs l ds k met (todo.map (·.x)) ∧ (∀ d ∈ todo, RBytes w0.cell? (encV d) d.x) ∧ n = 5 * (l.length - met.length) + todo.length ∧ todo.length ≤ 1 + 4 * met.length
  below : Below w0.heap.size w0 wr
  lt : mb < wr.heap.size
theorem OwnVec.ne_map {α : Type} {enc : α → Value} {e : TypeId} {w : World} {b mb n : Nat} {v : Value} {xs : List α} {D : DataW Unit} (h : OwnVec enc e w b v xs) (hm : w.ownsMap Tryz.prog 3 (unitElem (H := Unit)) mb n D) : v.ownBlock ≠ some mb := by
  obtain ⟨es, clock, h1, _⟩ := hm
  rcases h.own.2 with ⟨rfl, _⟩ | ⟨g, cap, cur, rfl, _, h3, _⟩
  · intro e; cases e
  · intro e
    have e : g = mb := by injection e
    subst e
    rw [h1] at h3
    cases h3
theorem OwnVec.keptMap {α : Type} {enc : α → Value} {e : TypeId} {w w' : World} {b mb : Nat} {v : Value} {xs : List α} (h : OwnVec enc e w b v xs) (hg : w.grownBy w' (some mb)) (hne : v.ownBlock ≠ some mb) : OwnVec enc e w' b v xs :=
  ⟨h.own.kept hg (.inr hne)⟩
set_option maxHeartbeats 4000000 in
set_option maxRecDepth 100000 in
theorem history_any (vl vds vk : Value) (l : List Crt) (k : List UInt8) (w : World) (hl : RCrts w.cell? vl l) (hds : RDigs w.cell? vds (dsOf hD l)) (hk : RBytes w.cell? vk k) (hg : GoodD l (dsOf hD l)) (hv : ∀ c ∈ l, hF c.hdr = 0) (h4 : l.length ≤ 400) (hk0 : 0 ≤ placeI (dsOf hD l) k) (hkl : plc (dsOf hD l) k < l.length) :
    Calls Tryz.prog 26 #[.agg #[vl], vds, vk] w fun e w' => ∃ v, e = .returned v ∧ Below w.heap.size w w' ∧ ∃ (met ys : List Nat), RIs w'.cell? v (ys.map fun n : Nat => (n : Int)) ∧ Dfs l (dsOf hD l) (plc (dsOf hD l) k) met [] ∧ ys.Perm ((List.range l.length).filter fun i => decide (i ∈ met)) ∧ ys.Pairwise fun i j => ¬ aheadH l j i := by
  obtain ⟨A, c, rfl, hform⟩ := id hl
  obtain ⟨dA, dc, rfl, hform2⟩ := id hds
  obtain ⟨kA, kc, rfl, hform3⟩ := id hk
  clear hform hform2 hform3
  obtain ⟨_, hcap, hlen, hel⟩ := hl.at
  have Hel := Lib.hid hel
  have Hg := Lib.hid hg
  have Hv := Lib.hid hv
  clear hel hg hv
  have hmm := @run_makeMap Tryz.prog
  obtain ⟨K, hK⟩ : ∃ K, Hid (plc (dsOf hD l) k = K) := ⟨_, rfl⟩
  have hstart := Lib.hid (Dfs.start hk0 hK.out (by rw [← hK.out]; exact hkl))
  rw [hK.out] at hkl ⊢
  have Hk0 := Lib.hid hk0
  have hdl : Hid ((dsOf hD l).length = l.length) := dsOf_len l
  clear hk0
  generalize dsOf hD l = Ds at *
  go_enter Tryz.func26, Tryz.ntmps26
  go_upto_region 1 with fail
  refine one_block _ _ _ (fun W => Code.wp _ _ _ _ W) (fun W hkd hsz hbW => ?_)
  have hzW := hbW.size
  clear hsz
  go_upto_block 0 with fail
  refine one_block (W.alloc _) _ _ (fun W1 => Code.wp _ _ _ _ W1) (fun W1 hS hszS hbS => ?_)
  have hmade : (W.alloc (.map #[] 0)).ownsMap Tryz.prog 3 (unitElem (H := Unit)) W.heap.size 0 (setOf (.agg []) (keysI [])) := World.ownsMap_made _ _ _ _
  have hown1 := ownsMap_below2 hmade hbS
  have hbW1 : Below W.heap.size W W1 := (below_one W _).trans (hbS.mono (by simp))
  have hS' : Blk W1 (W.heap.size + 1) 41 #[.slice kA k.length kc] := by simpa using hS
  have hz1 : W.heap.size + 2 ≤ W1.heap.size := by simp at hszS; omega
  have hkW : RBytes W.cell? (.slice kA k.length kc) k := hk.mono (vle_below hbW)
  have hstk : OwnDV W1 W.heap.size (.slice (some ⟨W.heap.size + 1, 0, none⟩) 1 1) [⟨kA, kc, k⟩] := OwnVec.lit (enc := encV) (xs := [⟨kA, kc, k⟩]) hS' (by omega) rfl (by decide)
  have hdsW := hds.mono RDig.mono (vle_below hbW)
  clear hS hS' hszS hmade hbS
  go_cut [8, 9, 10, 11, 12] (fun _ _ _ _ _ w' => ∃ met : List Nat, w'.ownsMap Tryz.prog 3 (unitElem (H := Unit)) W.heap.size met.length (setOf (.agg []) (keysI met)) ∧ Dfs l Ds K met [] ∧ Below W.heap.size W w' ∧ W.heap.size + 1 ≤ w'.heap.size)
  case first =>
    go_wp2_with fail
    go_loopw [8, 9, 10, 11, 12] (fun v _ _ _ _ wr => ∃ n, HisRel W W.heap.size W.heap.size l Ds K n v wr) (fun v _ _ _ _ wr => least (fun n => HisRel W W.heap.size W.heap.size l Ds K n v wr))
    case atStart => exact ⟨_, ⟨[], [⟨kA, kc, k⟩], hstk, hown1, hstart.out, (fun d hd => by obtain rfl := List.mem_singleton.1 hd; exact hkW), rfl, by simp⟩, hbW1, by omega⟩
    case round =>
      obtain ⟨n, hn⟩ := hrel
      have h0 := (least_spec (p := fun n => HisRel W W.heap.size W.heap.size l Ds K n u8 wr) hn).1
      obtain ⟨N0, hN0⟩ : ∃ N0, Hid (least (fun n => HisRel W W.heap.size W.heap.size l Ds K n u8 wr) = N0) := ⟨_, rfl⟩
      rw [hN0.out] at h0
      obtain ⟨⟨met, todo, hown, hmap, hdfs, hrd, hN, htl⟩, hbl, hmb⟩ := h0
      clear hn
      have hzr := hbl.size
      have hml := hdfs.len
      rcases List.eq_nil_or_concat todo with rfl | ⟨t, x, rfl⟩
      · obtain ⟨tA, tc, rfl⟩ := hown.form
        go_wp2
        go_meet
        exact ⟨met, hmap, hdfs, hbl, by omega⟩
      · rw [List.concat_eq_append] at hown hdfs hrd hN htl
        obtain ⟨tn, htn⟩ : ∃ tn, Hid (t.length = tn) := ⟨_, rfl⟩
        have hlen1 : (t ++ [x]).length = tn + 1 := by rw [← htn.out]; simp
        obtain ⟨tA, tc, rfl⟩ := hown.form
        rw [hlen1] at hown hN htl hN0 ⊢
        have htd := hdfs.td x.x (by simp)
        obtain ⟨P, hP⟩ : ∃ P, Hid (plc Ds x.x = P) := ⟨_, rfl⟩
        have hPI : placeI Ds x.x = (P : Int) := by rw [← hP.out]; unfold plc; omega
        have hPl : P < l.length := by rw [← hP.out]; exact htd.2.1
        have hrx := hrd x (by simp)
        have hpop := hown.pop (x := x) htn.out.symm
        obtain ⟨tg, rfl, htg⟩ : ∃ g, tA = some ⟨g, 0, none⟩ ∧ wr.cell? ⟨g, tn, none⟩ = some (encV x) := by
          rcases hown.own.2 with ⟨e, _⟩ | ⟨g, cap, cur, e, _⟩
          · cases e
          · injection e with e1 _ _
            subst e1
            have h1 := hown.at tn (by rw [hlen1]; omega)
            refine ⟨g, rfl, ?_⟩
            simpa [← htn.out] using h1
        have htc : tn + 1 ≤ tc := by
          rcases hown.own.2 with ⟨e, _⟩ | ⟨g, cap, cur, e, _, _, h4, _⟩
          · cases e
          · injection e with _ _ e3
            subst e3
            rw [hlen1] at h4
            exact h4
        have hne := hpop.ne_map hmap
        obtain ⟨n1, hn1⟩ : ∃ n1, Hid (tn + 1 = n1) := ⟨_, rfl⟩
        have hn1' := hn1.out
        have hz1' : (0 : Int) < (n1 : Int) := by omega
        have hz2 : IntKind.i64.wrap ((n1 : Int) - 1) = tn := by rw [IntKind.wrap_i64]; omega
        have hz3 : (n1 : Int) - 1 = tn := by omega
        have hz4 : (tn : Int) < (n1 : Int) := by omega
        have hz5 : (tn : Int) ≤ (tc : Int) := by omega
        have hz6 : tn ≤ tc := by omega
        rw [hn1.out] at hown hN htl hN0 ⊢
        unfold encV at htg
        clear hn1'
        go_upto_region 5 with fail
        refine one_block _ _ _ (fun W => Code.wp _ _ _ _ W) (fun W2 hX hsX hbX => ?_)
        have hX0 := hX.cell 0
        simp at hX0
        have hbl2 := hbl.trans (hbX.mono hzr)
        have hmap2 := ownsMap_below2 hmap hbX
        have hpop2 := hpop.kept hbX
        have hz22 := hbX.size
        clear hX hsX hown hmap hpop htg
        go_wp2_with fail
        refine (idxDigs_any 54 #[.pointer (some ⟨wr.heap.size, 0, none⟩)] (· == x.x) (enters_of_func Tryz.func54 (by kernel_rfl) rfl) _ Ds _ (hdsW.mono RDig.mono (vle_below hbl2)) (fun W3 y z hW hz => hisFn_any y _ z x.x _ W3 (vle_below hW _ _ hX0) hz (hrx.mono (vle_below (hbl2.trans (hW.mono hbl2.size)))))).mono ?_
        rintro e w3 ⟨rfl, hb3⟩
        rw [show idxI (· == x.x) Ds = (P : Int) from hPI]
        have hbl3 := hbl2.trans (hb3.mono hbl2.size)
        have hmap3 := ownsMap_below2 hmap2 hb3
        have hpop3 := hpop2.kept hb3
        have hz33 := hb3.size
        have hhas := has_keysI met P
        have hkey := key_int (j := P) (by omega)
        obtain ⟨HB, hHB⟩ : ∃ z, decide (P ∈ met) = z := ⟨_, rfl⟩
        rw [hHB] at hhas
        have hHB := Lib.hid hHB
        clear hX0 hmap2 hpop2 hPI
        go_upto_region 8 with (at_lookup; refine wpList_lookup_own_unit _ rfl _ _ 125 rfl 3 83 intKey Tryz.underlying125 (zeroU _) W.heap.size met.length _ rfl hmap3 _ _ rfl hkey ?_)
        refine one_block _ _ _ (fun W => Code.wp _ _ _ _ W) (fun W4 hU hsU hbU => ?_)
        have hbl4 := hbl3.trans (hbU.mono hbl3.size)
        have hmap4 := ownsMap_below2 hmap3 hbU
        have hpop4 := hpop3.kept hbU
        have hz44 := hbU.size
        clear hU hsU hmap3 hpop3
        cases HB
        · have hmem : P ∉ met := by simpa using hHB.out
          go_upto_region 10 with (at_mapUpdate; refine wpList_mapUpdate_own _ rfl _ _ _ 125 rfl 3 83 intKey Tryz.underlying125 (unitElem (H := Unit)) W.heap.size met.length _ rfl hmap4 (by unfold maxLen; omega) _ _ _ rfl rfl hkey _ [] unitElem_mk ?_; intro w5 hmap5 hg5)
          have hbl5 : Below W.heap.size W w5 := below_grownBy hbl4 hbl4.size hg5 (by intro q e; injection e; omega)
          have hpop5 := hpop4.keptMap hg5 hne
          have hz55 := hg5.size
          have hmap5' : w5.ownsMap Tryz.prog 3 (unitElem (H := Unit)) W.heap.size (met ++ [P]).length (setOf (.agg []) (keysI (met ++ [P]))) := by
            unfold keysI at hmap5 ⊢
            rw [List.map_append, List.map_cons, List.map_nil, setOf_snoc, List.length_append]
            exact hmap5
          obtain ⟨b0, o0, vb, vp, vv, rfl, q0, q1, q2, q3, q4, rb, rp, rvv⟩ := Hel.out P hPl
          have hc5 := vle_below (hbW.trans (hbl5.mono hzW))
          have c3 := hc5 _ _ q3
          have g0 := (hkd.kept (hbl5.mono (Nat.le_refl _))).cell 0
          simp at g0
          obtain ⟨vs, hvs, rvs, hvr⟩ := RDigs.rows (rp.mono RDig.mono (vle_below hbW))
          have rvs5 := rvs.mono (vle_below hbl5)
          have hfew : l[P].hdr.parents.length ≤ 4 := Hg.out.few _ (List.getElem_mem hPl)
          have hvl : vs.length ≤ 4 := by rw [← hvs] at hfew; simpa using hfew
          have hgd : Dfs l Ds K (met ++ [P]) ((t ++ vs).map (·.x)) := by
            have h1 : Dfs l Ds K met (t.map (·.x) ++ [x.x]) := by simpa using hdfs
            have h2 := h1.new Hg.out (c := l[P]) (by rw [hP.out]; exact hmem) (by rw [hP.out]; simp [hPl])
            rw [hP.out, ← hvs] at h2
            rw [List.map_append]
            exact h2
          obtain ⟨pA, pc, rfl, hpf⟩ := id rp
          have hpl : l[P].hdr.parents.length = vs.length := by rw [← hvs]; simp
          rw [hpl] at c3 rvs5
          have hvl2 := Lib.hid hvl
          have htlH : Hid (t.length ≤ 1601) := by show _ ≤ _; have := htn.out; have := hn1.out; omega
          have hP' : (P : Int) < (l.length : Int) := by omega
          have hmlt := hgd.len
          clear hpf q0 q1 q2 q3 q4 rb rp rvv hvs hfew hdfs hmap4 hpop4 hmap5 rvs hpl hvl hhas
          go_wp2_with (at_builtin; refine wpList_append_vec (n := 140737488355328) elemDV encV_one _ _ rfl rfl rfl hpop5 hbl5 hbl5.size rfl rvs5 (Nat.le_refl _) (by have := hvl2.out; have := htlH.out; omega) (by have := hvl2.out; have := htlH.out; omega) ?_)
          intro v6 w6 ho6 hbl6 hg6
          have hmap6 : w6.ownsMap Tryz.prog 3 (unitElem (H := Unit)) W.heap.size (met ++ [P]).length (setOf (.agg []) (keysI (met ++ [P]))) := hmap5'.kept hg6 (fun e => hne e.symm)
          have hrel2 : HisRel W W.heap.size W.heap.size l Ds K (5 * (l.length - (met ++ [P]).length) + (t ++ vs).length) v6 w6 := ⟨⟨met ++ [P], t ++ vs, ho6, hmap6, hgd, (fun d hd => by
            rcases List.mem_append.1 hd with h1 | h1
            · exact hrd d (by simp [h1])
            · exact hvr d h1), rfl, by have := htn.out; have := hvl2.out; simp; omega⟩, hbl6, by have := hg6.size; omega⟩
          clear hpop5 rvs5 c3 g0 hgd hrd hvr
          go_wp2
          go_roundw
          case rel => exact ⟨_, hrel2⟩
          case measure =>
            have h3 := (least_spec (p := fun n => HisRel W W.heap.size W.heap.size l Ds K n v6 w6) hrel2).2 _ hrel2
            rw [hN0.out]
            have h5 : (met ++ [P]).length = met.length + 1 := by simp
            have h6 : (t ++ vs).length = t.length + vs.length := by simp
            have := htn.out
            have := hn1.out
            have := hvl2.out
            omega
        · have hmem : P ∈ met := by simpa using hHB.out
          have hd2 : Dfs l Ds K met (t.map (·.x)) := by
            have h1 : Dfs l Ds K met (t.map (·.x) ++ [x.x]) := by simpa using hdfs
            exact h1.skip (by rw [hP.out]; exact hmem)
          have hrel2 : HisRel W W.heap.size W.heap.size l Ds K (5 * (l.length - met.length) + t.length) (.slice (some ⟨tg, 0, none⟩) tn tc) W4 := ⟨⟨met, t, hpop4, hmap4, hd2, fun d hd => hrd d (by simp [hd]), rfl, by have := htn.out; omega⟩, hbl4, by omega⟩
          clear hdfs hd2 hrd hmap4 hpop4
          go_wp2
          go_roundw
          case rel => exact ⟨_, hrel2⟩
          case measure =>
            have h3 := (least_spec (p := fun n => HisRel W W.heap.size W.heap.size l Ds K n (.slice (some ⟨tg, 0, none⟩) tn tc) W4) hrel2).2 _ hrel2
            rw [hN0.out]
            have := htn.out
            have := hn1.out
            omega
  case rest =>
    obtain ⟨met, hmap, hdfs, hbl, hmb⟩ := hcut
    have hzc := hbl.size
    have g0 := (hkd.kept (hbl.mono (Nat.le_refl _))).cell 0
    simp at g0
    have hKm : K ∈ met := hdfs.done.2 .base
    have Hd := Lib.hid hdfs
    have hcd := hkd.cell 0
    simp at hcd
    have hlW := hl.mono RCrt.mono (vle_below hbW)
    have hmk := met.length
    clear hdfs hstart
    go_wp2_with fail
    go_loopw [13, 14, 15, 16, 59] (fun v _ _ _ i wr => ∃ j : Nat, j ≤ l.length ∧ i = .int .i64 j ∧ OwnI wr wc.heap.size v (((List.range j).filter fun i => decide (i ∈ met)).map fun n : Nat => (n : Int)) ∧ Below wc.heap.size wc wr) (fun _ _ _ _ i _ => l.length - (intOf i).toNat)
    case atStart => exact ⟨0, Nat.zero_le _, rfl, OwnVec.nil _ _ _ _, Below.refl _ _⟩
    case round =>
      obtain ⟨j, hj, rfl, hown, hblr⟩ := hrel
      have hzr := hblr.size
      have hfl : ((List.range j).filter fun i => decide (i ∈ met)).length ≤ j := by
        have := List.length_filter_le (fun i => decide (i ∈ met)) (List.range j)
        simpa using this
      by_cases hlt : j < l.length
      · have hlt' : (j : Int) < l.length := by omega
        have hmapr := ownsMap_below2 hmap hblr
        have hhas := has_keysI met j
        have hkey := key_int (j := j) (by omega)
        obtain ⟨HB, hHB⟩ : ∃ z, decide (j ∈ met) = z := ⟨_, rfl⟩
        rw [hHB] at hhas
        have hnext : Hid (((List.range (j + 1)).filter fun i => decide (i ∈ met)).map (fun n : Nat => (n : Int)) = ((List.range j).filter fun i => decide (i ∈ met)).map (fun n : Nat => (n : Int)) ++ (if HB then [(j : Int)] else [])) := by
          show _ = _
          rw [List.range_succ, List.filter_append, List.map_append]
          congr 1
          rw [List.filter_cons, hHB]
          cases HB <;> rfl
        have hflH : Hid ((((List.range j).filter fun i => decide (i ∈ met)).map (fun n : Nat => (n : Int))).length ≤ 400) := by show _ ≤ _; rw [List.length_map]; omega
        clear hHB hfl
        generalize ((List.range j).filter fun i => decide (i ∈ met)).map (fun n : Nat => (n : Int)) = L at hown hnext hflH
        go_upto_region 16 with (at_lookup; refine wpList_lookup_own_unit _ rfl _ _ 125 rfl 3 83 intKey Tryz.underlying125 (zeroU _) W.heap.size met.length _ rfl hmapr _ _ rfl hkey ?_)
        refine one_block _ _ _ (fun W => Code.wp _ _ _ _ W) (fun W4 hU hsU hbU => ?_)
        have hbl4 := hblr.trans (hbU.mono hzr)
        have hown4 := hown.kept hbU
        have hz44 := hbU.size
        clear hU hsU hmapr hown hhas hkey
        cases HB
        · have ho : OwnI W4 wc.heap.size u13 (((List.range (j + 1)).filter fun i => decide (i ∈ met)).map fun n : Nat => (n : Int)) := by
            rw [hnext.out]
            simpa using hown4
          clear hnext hown4
          go_wp2
          go_roundw
          case rel => exact ⟨j + 1, by omega, by go_num, ho, hbl4⟩
          case measure => simp [intOf]; omega
        · obtain ⟨vA, vc, rfl⟩ := hown4.form
          have hwc4 : Hid (wc.heap.size ≤ W4.heap.size) := by show _ ≤ _; omega
          go_wp2_with (at_builtin; refine wpList_append_vec1 (n := 140737488355328) (j : Int) elemI encI_one _ _ rfl rfl rfl hown4 hbl4 hwc4.out rfl (Nat.le_refl _) (by have := hflH.out; omega) (by have := hflH.out; omega) ?_)
          intro v' w5 ho hbl5 _
          have ho' : OwnI w5 wc.heap.size v' (((List.range (j + 1)).filter fun i => decide (i ∈ met)).map fun n : Nat => (n : Int)) := by
            rw [hnext.out]
            exact ho
          clear hown4 ho hnext
          go_wp2
          go_roundw
          case rel => exact ⟨j + 1, by omega, by go_num, ho', hbl5⟩
          case measure => simp [intOf]; omega
      · have hjl : j = l.length := by omega
        subst hjl
        have hlt' : ¬ (l.length : Int) < l.length := by omega
        have hmem : ∀ i ∈ (List.range l.length).filter (fun i => decide (i ∈ met)), i < l.length := fun i hi => List.mem_range.1 (List.mem_filter.1 hi).1
        have hpos : 0 < ((List.range l.length).filter fun i => decide (i ∈ met)).length := List.length_pos_of_mem (List.mem_filter.2 ⟨List.mem_range.2 hkl, by simpa using hKm⟩)
        have hblW : Below W.heap.size W wr := hbl.trans (hblr.mono hzc)
        obtain ⟨vA, vc, hvf⟩ := hown.form
        have hsort := sortIdx_any (w0 := W) w.heap.size _ l hcd hlW Hv.out u13 _ wr wc.heap.size hown hmem hpos (by omega) hblW hzc
        obtain ⟨ln, hln⟩ : ∃ ln, Hid ((((List.range l.length).filter fun i => decide (i ∈ met)).map fun n : Nat => (n : Int)).length = ln) := ⟨_, rfl⟩
        rw [hln.out] at hvf
        rw [hvf] at hsort ⊢
        clear hown hvf hln hmem hpos hfl
        go_wp2_with fail
        refine hsort.mono ?_
        rintro e w5 ⟨rfl, hb5, ys, hperm, hpw, hri⟩
        clear hsort
        go_wp2
        go_ret
        exact ⟨_, rfl, hbW.trans (hb5.mono hzW), met, ys, hri, Hd.out, hperm, hpw⟩
end Go.Proofs.YtbcoecmeoemmeaaGreatDoor

namespace Go.Proofs.YtbcoecmeoemmeaaGreatDoor
open Go.ChangeShapes Go.WideShapes Go.ChangeAt Go.RowKit
set_option linter.unusedVariables false
set_option linter.unusedSimpArgs false
def zeroC : Crt := ⟨⟨0, 0, [], []⟩, []⟩
def foundE (l : List Crt) (k : List UInt8) : Int := if dagF hD cF l ≠ 0 then dagF hD cF l else if placeI (dsOf hD l) k < 0 then 8 else 0
def foundC (l : List Crt) (k : List UInt8) : Crt := if foundE l k = 0 then (match l[(placeI (dsOf hD l) k).toNat]? with | some c => c | none => zeroC) else zeroC
theorem RCrt.zero (h : View) : RCrt h [.int .i64 0, .int .i64 0, .slice none 0 0, .slice none 0 0, .slice none 0 0] zeroC := ⟨_, _, _, rfl, RDigs.nil _, RDigs.nil _, RVec.nil _ _ _⟩
theorem vle_from_low {w w' : World} {g b : Nat} (hg : w.grownBy w' (some g)) (hb : g < b) : VLe (View.from w.cell? b) w'.cell? := fun a u hu => by
  unfold View.from at hu
  split at hu
  · cases hu
  · exact hg.cell hu (by intro e; injection e; omega)
set_option maxHeartbeats 4000000 in
set_option maxRecDepth 100000 in
theorem dagFind_any (vl vk : Value) (l : List Crt) (k : List UInt8) (w : World) (hl : RCrts w.cell? vl l) (hk : RBytes w.cell? vk k) (hT : Tabs w.cell?) :
    Calls Tryz.prog 23 #[.agg #[vl], vk] w fun e w' => ∃ cs, e = .returned (.tuple #[.agg cs.toArray, .int .i64 (foundE l k)]) ∧ Below w.heap.size w w' ∧ RCrt w'.cell? cs (foundC l k) := by
  obtain ⟨A, c, rfl, hf0⟩ := id hl
  obtain ⟨kA, kc, rfl, hf1⟩ := id hk
  clear hf0 hf1
  obtain ⟨_, hn1, hn2, hel⟩ := hl.at
  have Hel := Lib.hid hel
  clear hel
  obtain ⟨QE, hQE⟩ : ∃ q, Hid (foundE l k = q) := ⟨_, rfl⟩
  obtain ⟨QC, hQC⟩ : ∃ q, Hid (foundC l k = q) := ⟨_, rfl⟩
  have hE0 : Hid (QE = if dagF hD cF l ≠ 0 then dagF hD cF l else if placeI (dsOf hD l) k < 0 then 8 else 0) := hQE.out.symm
  have hC0 : Hid (QC = if QE = 0 then (match l[(placeI (dsOf hD l) k).toNat]? with | some c => c | none => zeroC) else zeroC) := by show _ = _; rw [← hQC.out]; unfold foundC; rw [hQE.out]
  have hvalid : Hid (dagF hD cF l = 0 → l.length ≤ 400 ∧ (∀ c ∈ l, hF c.hdr = 0)) := dag_valid
  rw [hQE.out, hQC.out]
  clear hQE hQC
  obtain ⟨E1, hE1⟩ : ∃ q, Hid (dagF hD cF l = q) := ⟨_, rfl⟩
  rw [hE1.out] at hE0 hvalid
  go_enter Tryz.func23, Tryz.ntmps23
  go_upto_region 1 with fail
  refine two_blocks _ _ _ _ _ (fun W => Code.wp _ _ _ _ W) (fun W hk1 hk2 hsz hbW => ?_)
  have hszI : w.heap.size + 2 ≤ W.heap.size := by omega
  clear hsz
  have g0 := hk1.cell 0
  simp at g0
  go_wp2_with fail
  refine (dagCheck_any _ l _ (hl.mono RCrt.mono (vle_below hbW)) (hT.mono (vle_below hbW))).mono ?_
  rintro e w1 ⟨rfl, hb1⟩
  rw [hE1.out]
  have hbl1 := hbW.trans (hb1.mono hbW.size)
  have hk11 := hk1.kept hb1
  have hk21 := hk2.kept hb1
  have hz1 := hbl1.size
  clear g0
  by_cases h1 : E1 = 0
  · have hv := Lib.hid (hvalid.out h1)
    have hE0 : Hid (QE = if placeI (dsOf hD l) k < 0 then 8 else 0) := by show _ = _; rw [hE0.out]; simp [h1]
    clear hvalid hE1
    subst h1
    have hl1 := hl.mono RCrt.mono (vle_below hbl1)
    have g0 := hk11.cell 0
    simp at g0
    go_wp2_with fail
    refine (all_any _ l _ hl1 hv.out.2 (hT.mono (vle_below hbl1))).mono ?_
    rintro e w2 ⟨vd, rfl, hb2, od⟩
    have hbl2 := hbl1.trans (hb2.mono hz1)
    have hk12 := hk11.kept hb2
    have hk22 := hk21.kept hb2
    have hz2 := hbl2.size
    have rD := RDigs.of_own od (by rw [dsOf_len]; have := hv.out.1; omega)
    have hlen : (dsOf hD l).length = l.length := dsOf_len l
    have hcs := placeI_cases (dsOf hD l) k
    clear od g0
    generalize dsOf hD l = Ds at rD hlen hE0 hC0 hcs
    obtain ⟨dA, dc, rfl, hfd⟩ := id rD
    have Hlen := Lib.hid hlen
    clear hfd hlen
    go_wp2_with fail
    refine (at_any _ Ds _ k _ rD (hk.mono (vle_below hbl2))).mono ?_
    rintro e w3 ⟨rfl, hb3⟩
    have hbl3 := hbl2.trans (hb3.mono hz2)
    have hk13 := hk12.kept hb3
    have hk23 := hk22.kept hb3
    have hz3 := hbl3.size
    clear rD
    rcases hcs with hneg | ⟨j, hj, hpos⟩
    · have HE : Hid (QE = 8) := by show _ = _; rw [hE0.out, hneg]; rfl
      have HC : Hid (QC = zeroC) := by show _ = _; rw [hC0.out, if_neg (by rw [HE.out]; decide)]
      rw [hneg]
      clear hE0 hC0 hneg
      go_wp2_with (refine wpList_store_whole (n := 5) rfl rfl rfl rfl (by kernel_rfl) rfl hk23 rfl rfl ?_)
      intro w4 hB4 hg4
      go_wp2
      refine bodyPost_ret (results_blk_tmp rfl rfl (by kernel_rfl) (by kernel_rfl) hB4 rfl) rfl ?_
      exact ⟨_, by rw [HE.out]; rfl, below_grownBy hbl3 hz3 hg4 (by intro k e; injection e; omega), by rw [HC.out]; exact RCrt.zero _⟩
    · have hjl : j < l.length := by have := Hlen.out; omega
      have HE : Hid (QE = 0) := by show _ = _; rw [hE0.out, hpos]; exact if_neg (by omega)
      have HC : Hid (QC = l[j]) := by show _ = _; rw [hC0.out, if_pos HE.out, hpos]; simp [List.getElem?_eq_getElem hjl]
      rw [hpos]
      clear hE0 hC0 hpos
      obtain ⟨b0, o0, vb, vp, vv, rfl, q0, q1, q2, q3, q4, rb, rp, rv⟩ := Hel.out j hjl
      have c0 := vle_below hbl3 _ _ q0; have c1 := vle_below hbl3 _ _ q1; have c2 := vle_below hbl3 _ _ q2; have c3 := vle_below hbl3 _ _ q3; have c4 := vle_below hbl3 _ _ q4
      have rb3 := rb.mono RDig.mono (vle_below hbl3)
      have rp3 := rp.mono RDig.mono (vle_below hbl3)
      have rv3 := rv.mono (vle_below hbl3)
      clear q0 q1 q2 q3 q4 rb rp rv
      have hjl' : (j : Int) < (l.length : Int) := by omega
      generalize l[j] = x at *
      have g0 := hk13.cell 0
      simp at g0
      go_wp2_with fail
      refine (dagOwn_any _ _ _ _ _ x.hdr.batches x.hdr.parents x.voters _ rb3 rp3 rv3).mono ?_
      rintro e w4 ⟨ub, up, uv, rfl, hb4, s1, s2, s3⟩
      have hbl4 := hbl3.trans (hb4.mono hz3)
      have hk24 := hk23.kept hb4
      have hz4 := hbl4.size
      obtain ⟨A1, c1', rfl, hf1⟩ := id s1
      obtain ⟨A2, c2', rfl, hf2⟩ := id s2
      obtain ⟨A3, c3', rfl, hf3⟩ := id s3
      have hzz := Nat.lt_of_lt_of_le (show w.heap.size + 1 < w.heap.size + 2 by omega) (Nat.le_trans hszI (Nat.le_trans hb1.size (Nat.le_trans hb2.size hb3.size)))
      clear hf1 hf2 hf3 g0 c0 c1 c2 c3 c4 rb3 rp3 rv3
      go_wp2_with (refine wpList_store_whole (n := 5) rfl rfl rfl rfl (by kernel_rfl) rfl hk24 rfl rfl ?_)
      intro w5 hB5 hg5
      have q := vle_from_low hg5 hzz
      go_wp2
      refine bodyPost_ret (results_blk_tmp rfl rfl (by kernel_rfl) (by kernel_rfl) hB5 rfl) rfl ?_
      exact ⟨[.int .i64 x.hdr.author, .int .i64 x.hdr.round, .slice A1 x.hdr.batches.length c1', .slice A2 x.hdr.parents.length c2', .slice A3 x.voters.length c3'], by rw [HE.out]; rfl, below_grownBy hbl4 hz4 hg5 (by intro k e; injection e; omega), by rw [HC.out]; exact ⟨_, _, _, rfl, s1.mono RDig.mono q, s2.mono RDig.mono q, s3.mono q⟩⟩
  · have HE : Hid (QE = E1) := by show _ = _; rw [hE0.out]; simp [h1]
    have HC : Hid (QC = zeroC) := by show _ = _; rw [hC0.out, HE.out, if_neg h1]
    clear hE0 hC0 hvalid
    go_wp2_with (refine wpList_store_whole (n := 5) rfl rfl rfl rfl (by kernel_rfl) rfl hk21 rfl rfl ?_)
    intro w4 hB4 hg4
    go_wp2
    refine bodyPost_ret (results_blk_tmp rfl rfl (by kernel_rfl) (by kernel_rfl) hB4 rfl) rfl ?_
    exact ⟨_, by rw [HE.out]; rfl, below_grownBy hbl1 hz1 hg4 (by intro k e; injection e; omega), by rw [HC.out]; exact RCrt.zero _⟩
set_option maxHeartbeats 4000000 in
set_option maxRecDepth 100000 in
theorem foundIn_any (vl vk : Value) (l : List Crt) (k : List UInt8) (w : World) (hl : RCrts w.cell? vl l) (hk : RBytes w.cell? vk k) :
    Calls Tryz.prog 29 #[.agg #[vl], vk] w fun e w' => ∃ cs, e = .returned (.tuple #[.agg cs.toArray, .int .i64 (foundE l k)]) ∧ Below w.heap.size w w' ∧ RCrt w'.cell? cs (foundC l k) := by
  obtain ⟨A, c, rfl, hf0⟩ := id hl
  obtain ⟨kA, kc, rfl, hf1⟩ := id hk
  clear hf0 hf1
  obtain ⟨_, hn1, hn2, hel⟩ := hl.at
  have Hel := Lib.hid hel
  clear hel
  obtain ⟨QE, hQE⟩ : ∃ q, Hid (foundE l k = q) := ⟨_, rfl⟩
  obtain ⟨QC, hQC⟩ : ∃ q, Hid (foundC l k = q) := ⟨_, rfl⟩
  have hE0 : Hid (QE = if dagF hD cF l ≠ 0 then dagF hD cF l else if placeI (dsOf hD l) k < 0 then 8 else 0) := hQE.out.symm
  have hC0 : Hid (QC = if QE = 0 then (match l[(placeI (dsOf hD l) k).toNat]? with | some c => c | none => zeroC) else zeroC) := by show _ = _; rw [← hQC.out]; unfold foundC; rw [hQE.out]
  have hvalid : Hid (dagF hD cF l = 0 → l.length ≤ 400 ∧ (∀ c ∈ l, hF c.hdr = 0)) := dag_valid
  rw [hQE.out, hQC.out]
  clear hQE hQC
  obtain ⟨E1, hE1⟩ : ∃ q, Hid (dagF hD cF l = q) := ⟨_, rfl⟩
  rw [hE1.out] at hE0 hvalid
  go_enter Tryz.func29, Tryz.ntmps29
  go_upto_region 1 with fail
  refine two_blocks _ _ _ _ _ (fun W => Code.wp _ _ _ _ W) (fun W hk1 hk2 hsz hbW => ?_)
  have hszI : w.heap.size + 2 ≤ W.heap.size := by omega
  clear hsz
  have g0 := hk1.cell 0
  simp at g0
  go_wp2_with fail
  refine (dagFault_any _ l _ (hl.mono RCrt.mono (vle_below hbW))).mono ?_
  rintro e w1 ⟨rfl, hb1⟩
  rw [hE1.out]
  have hbl1 := hbW.trans (hb1.mono hbW.size)
  have hk11 := hk1.kept hb1
  have hk21 := hk2.kept hb1
  have hz1 := hbl1.size
  clear g0
  by_cases h1 : E1 = 0
  · have hv := Lib.hid (hvalid.out h1)
    have hE0 : Hid (QE = if placeI (dsOf hD l) k < 0 then 8 else 0) := by show _ = _; rw [hE0.out]; simp [h1]
    clear hvalid hE1
    subst h1
    have hl1 := hl.mono RCrt.mono (vle_below hbl1)
    have g0 := hk11.cell 0
    simp at g0
    go_wp2_with fail
    refine (digestsOf_any _ l _ hl1 hv.out.2).mono ?_
    rintro e w2 ⟨vd, rfl, hb2, od⟩
    have hbl2 := hbl1.trans (hb2.mono hz1)
    have hk12 := hk11.kept hb2
    have hk22 := hk21.kept hb2
    have hz2 := hbl2.size
    have rD := RDigs.of_own od (by rw [dsOf_len]; have := hv.out.1; omega)
    have hlen : (dsOf hD l).length = l.length := dsOf_len l
    have hcs := placeI_cases (dsOf hD l) k
    clear od g0
    generalize dsOf hD l = Ds at rD hlen hE0 hC0 hcs
    obtain ⟨dA, dc, rfl, hfd⟩ := id rD
    have Hlen := Lib.hid hlen
    clear hfd hlen
    go_wp2_with fail
    refine (placeOf_any _ Ds _ k _ rD (hk.mono (vle_below hbl2))).mono ?_
    rintro e w3 ⟨rfl, hb3⟩
    have hbl3 := hbl2.trans (hb3.mono hz2)
    have hk13 := hk12.kept hb3
    have hk23 := hk22.kept hb3
    have hz3 := hbl3.size
    clear rD
    rcases hcs with hneg | ⟨j, hj, hpos⟩
    · have HE : Hid (QE = 8) := by show _ = _; rw [hE0.out, hneg]; rfl
      have HC : Hid (QC = zeroC) := by show _ = _; rw [hC0.out, if_neg (by rw [HE.out]; decide)]
      rw [hneg]
      clear hE0 hC0 hneg
      go_wp2_with (refine wpList_store_whole (n := 5) rfl rfl rfl rfl (by kernel_rfl) rfl hk23 rfl rfl ?_)
      intro w4 hB4 hg4
      go_wp2
      refine bodyPost_ret (results_blk_tmp rfl rfl (by kernel_rfl) (by kernel_rfl) hB4 rfl) rfl ?_
      exact ⟨_, by rw [HE.out]; rfl, below_grownBy hbl3 hz3 hg4 (by intro k e; injection e; omega), by rw [HC.out]; exact RCrt.zero _⟩
    · have hjl : j < l.length := by have := Hlen.out; omega
      have HE : Hid (QE = 0) := by show _ = _; rw [hE0.out, hpos]; exact if_neg (by omega)
      have HC : Hid (QC = l[j]) := by show _ = _; rw [hC0.out, if_pos HE.out, hpos]; simp [List.getElem?_eq_getElem hjl]
      rw [hpos]
      clear hE0 hC0 hpos
      obtain ⟨b0, o0, vb, vp, vv, rfl, q0, q1, q2, q3, q4, rb, rp, rv⟩ := Hel.out j hjl
      have c0 := vle_below hbl3 _ _ q0; have c1 := vle_below hbl3 _ _ q1; have c2 := vle_below hbl3 _ _ q2; have c3 := vle_below hbl3 _ _ q3; have c4 := vle_below hbl3 _ _ q4
      have rb3 := rb.mono RDig.mono (vle_below hbl3)
      have rp3 := rp.mono RDig.mono (vle_below hbl3)
      have rv3 := rv.mono (vle_below hbl3)
      clear q0 q1 q2 q3 q4 rb rp rv
      have hjl' : (j : Int) < (l.length : Int) := by omega
      generalize l[j] = x at *
      have g0 := hk13.cell 0
      simp at g0
      go_wp2_with fail
      refine (certCopy_any _ _ _ _ _ x.hdr.batches x.hdr.parents x.voters _ rb3 rp3 rv3).mono ?_
      rintro e w4 ⟨ub, up, uv, rfl, hb4, s1, s2, s3⟩
      have hbl4 := hbl3.trans (hb4.mono hz3)
      have hk24 := hk23.kept hb4
      have hz4 := hbl4.size
      obtain ⟨A1, c1', rfl, hf1⟩ := id s1
      obtain ⟨A2, c2', rfl, hf2⟩ := id s2
      obtain ⟨A3, c3', rfl, hf3⟩ := id s3
      have hzz := Nat.lt_of_lt_of_le (show w.heap.size + 1 < w.heap.size + 2 by omega) (Nat.le_trans hszI (Nat.le_trans hb1.size (Nat.le_trans hb2.size hb3.size)))
      clear hf1 hf2 hf3 g0 c0 c1 c2 c3 c4 rb3 rp3 rv3
      go_wp2_with (refine wpList_store_whole (n := 5) rfl rfl rfl rfl (by kernel_rfl) rfl hk24 rfl rfl ?_)
      intro w5 hB5 hg5
      have q := vle_from_low hg5 hzz
      go_wp2
      refine bodyPost_ret (results_blk_tmp rfl rfl (by kernel_rfl) (by kernel_rfl) hB5 rfl) rfl ?_
      exact ⟨[.int .i64 x.hdr.author, .int .i64 x.hdr.round, .slice A1 x.hdr.batches.length c1', .slice A2 x.hdr.parents.length c2', .slice A3 x.voters.length c3'], by rw [HE.out]; rfl, below_grownBy hbl4 hz4 hg5 (by intro k e; injection e; omega), by rw [HC.out]; exact ⟨_, _, _, rfl, s1.mono RDig.mono q, s2.mono RDig.mono q, s3.mono q⟩⟩
  · have HE : Hid (QE = E1) := by show _ = _; rw [hE0.out]; simp [h1]
    have HC : Hid (QC = zeroC) := by show _ = _; rw [hC0.out, HE.out, if_neg h1]
    clear hE0 hC0 hvalid
    go_wp2_with (refine wpList_store_whole (n := 5) rfl rfl rfl rfl (by kernel_rfl) rfl hk21 rfl rfl ?_)
    intro w4 hB4 hg4
    go_wp2
    refine bodyPost_ret (results_blk_tmp rfl rfl (by kernel_rfl) (by kernel_rfl) hB4 rfl) rfl ?_
    exact ⟨_, by rw [HE.out]; rfl, below_grownBy hbl1 hz1 hg4 (by intro k e; injection e; omega), by rw [HC.out]; exact RCrt.zero _⟩
end Go.Proofs.YtbcoecmeoemmeaaGreatDoor

namespace Go.Proofs.YtbcoecmeoemmeaaGreatDoor
open Go.ChangeShapes Go.WideShapes Go.ChangeAt Go.RowKit
set_option linter.unusedVariables false
set_option linter.unusedSimpArgs false
theorem RDigs.ofRows {h : View} {v : Value} {vs : List DV} (hr : RVec encV 24 h v vs) (hv : ∀ d ∈ vs, RBytes h (encV d) d.x) : RDigs h v (vs.map (·.x)) := by
  obtain ⟨A, c, rfl, h1, h2, h3, h4, h5⟩ := hr
  refine ⟨A, c, by simp, by simpa using h1, h2, by simpa using h3, h4, fun hp => ?_⟩
  obtain ⟨b, o, ea, hc⟩ := h5 (by simpa using hp)
  refine ⟨b, o, ea, fun i hi => ?_⟩
  simp at hi
  refine ⟨[encV vs[i]], rfl, fun j hj => ?_, _, rfl, ?_⟩
  · obtain rfl : j = 0 := by omega
    rw [Nat.mul_one, Nat.add_zero]
    exact hc i hi
  · simp only [List.getElem_map]
    exact hv _ (List.getElem_mem hi)
def dvN : DV := ⟨none, 0, []⟩
/-- what the program's history answers -/
def HisP (l : List Crt) (k : List UInt8) (L : List (List UInt8)) : Prop := ∃ met ys : List Nat, Dfs l (dsOf hD l) (plc (dsOf hD l) k) met [] ∧ ys.Perm ((List.range l.length).filter fun i => decide (i ∈ met)) ∧ (ys.Pairwise fun i j => ¬ aheadH l j i) ∧ L = ys.map fun i => (dsOf hD l).getD i []
structure HisOut (Q : List Crt → List UInt8 → List (List UInt8) → Prop) (l : List Crt) (k : List UInt8) (E : Int) (w w' : World) (d : Value) : Prop where
  below : Below w.heap.size w w'
  row : ∃ L, RDigs w'.cell? d L ∧ (E ≠ 0 → L = []) ∧ (E = 0 → Q l k L)
theorem found_zero {l : List Crt} {k : List UInt8} (h : foundE l k = 0) : dagF hD cF l = 0 ∧ 0 ≤ placeI (dsOf hD l) k := by
  unfold foundE at h
  split at h
  · omega
  · split at h
    · cases h
    · rename_i h1 h2
      exact ⟨by simpa using h1, by omega⟩
theorem place_lt {ds : List (List UInt8)} {k : List UInt8} (h : 0 ≤ placeI ds k) : plc ds k < ds.length := by
  unfold plc
  rcases idxI_cases (· == k) ds with ⟨h1, _⟩ | ⟨i, hi, h1, _⟩
  · unfold placeI at h; rw [h1] at h; omega
  · have : placeI ds k = i := h1
    rw [this]; simpa using hi
theorem head_few {h : Hdr} (hv : hF h = 0) : h.parents.length ≤ 4 := by
  unfold hF headF at hv
  split at hv
  · split at hv
    · cases hv
    · omega
  · cases hv
theorem dag_good {l : List Crt} (h : dagF hD cF l = 0) : GoodD l (dsOf hD l) := by
  obtain ⟨_, hA, _, hv⟩ := dag_lone h
  exact goodD_of h hA (fun c hc => (hF_say (hv c hc)).2.2.1) (fun c hc => head_few (hv c hc))
end Go.Proofs.YtbcoecmeoemmeaaGreatDoor

namespace Go.Proofs.YtbcoecmeoemmeaaGreatDoor
open Go.ChangeShapes Go.WideShapes Go.ChangeAt Go.RowKit
set_option linter.unusedVariables false
open Go.Maps
set_option linter.unusedSimpArgs false
def addT (o : List ByteArray) (t : ByteArray) : List ByteArray := if o.any (fun s => s.data.toList == t.data.toList) then o else o ++ [t]
def addTs (o ts : List ByteArray) : List ByteArray := ts.foldl addT o
def batAt (l : List Bat) (x : List UInt8) : Option Bat := if 0 ≤ placeI (l.map bD) x then l[(placeI (l.map bD) x).toNat]? else none
def addB (l : List Bat) (o : Option (List ByteArray)) (x : List UInt8) : Option (List ByteArray) := match o with
  | some o => (match batAt l x with | some b => some (addTs o b.txs) | none => none)
  | none => none
def blkR (l : List Bat) (xs : List (List UInt8)) : Option (List ByteArray) := xs.foldl (addB l) (some [])
theorem addB_none (l : List Bat) (xs : List (List UInt8)) : xs.foldl (addB l) none = none := by
  induction xs with
  | nil => rfl
  | cons x xs ih => exact ih
theorem blkR_fail {l : List Bat} {xs ys : List (List UInt8)} {x : List UInt8} {o : List ByteArray} (h : blkR l xs = some o) (hx : batAt l x = none) : blkR l (xs ++ x :: ys) = none := by
  unfold blkR at h ⊢
  rw [List.foldl_append, h, List.foldl_cons]
  show List.foldl (addB l) (match batAt l x with | some b => some (addTs o b.txs) | none => none) ys = none
  rw [hx]
  exact addB_none l ys
theorem blkR_next {l : List Bat} {xs : List (List UInt8)} {x : List UInt8} {o : List ByteArray} {b : Bat} (h : blkR l xs = some o) (hx : batAt l x = some b) : blkR l (xs ++ [x]) = some (addTs o b.txs) := by
  unfold blkR at h ⊢
  rw [List.foldl_append, h, List.foldl_cons]
  show List.foldl (addB l) (match batAt l x with | some b => some (addTs o b.txs) | none => none) [] = _
  rw [hx]
  rfl
theorem addTs_succ {o ts : List ByteArray} {k : Nat} (hk : k < ts.length) : addTs o (ts.take (k + 1)) = addT (addTs o (ts.take k)) ts[k] := by
  unfold addTs
  rw [List.take_succ_eq_append_getElem hk, List.foldl_append]
  rfl
theorem addTs_len (o ts : List ByteArray) : (addTs o ts).length ≤ o.length + ts.length := by
  unfold addTs
  induction ts generalizing o with
  | nil => exact Nat.le_refl _
  | cons t ts ih =>
    rw [List.foldl_cons]
    have h1 := ih (addT o t)
    have h2 : (addT o t).length ≤ o.length + 1 := by unfold addT; split <;> simp
    simp only [List.length_cons]
    omega
/-- a slice as an element of a map -/
def sliceE : Value → Option (DataW Unit × List MemPlace)
  | .slice (some ⟨b, o, none⟩) n c => some (.agg [.lit (.int .i64 b), .lit (.int .i64 o), .lit (.int .i64 n), .lit (.int .i64 c)], [])
  | .slice none n c => some (.agg [.lit (.int .i64 n), .lit (.int .i64 c)], [])
  | _ => none
theorem sliceE_inj {v v' : Value} {d : DataW Unit} {ps ps' : List MemPlace} (h : sliceE v = some (d, ps)) (h' : sliceE v' = some (d, ps')) : v = v' := by
  unfold sliceE at h h'
  split at h <;> split at h' <;> simp at h h'
  · obtain ⟨rfl, _⟩ := h
    simp at h'
    obtain ⟨⟨h1, h2, h3, h4⟩, _⟩ := h'
    simp
    omega
  · obtain ⟨rfl, _⟩ := h
    simp at h'
  · obtain ⟨rfl, _⟩ := h
    simp at h'
  · obtain ⟨rfl, _⟩ := h
    simp at h'
    obtain ⟨⟨h1, h2⟩, _⟩ := h'
    simp
    omega
/-- the map behind k batches -/
structure TxMap (w0 : World) (l : List Bat) (k : Nat) (D : DataW Unit) : Prop where
  isMap : IsMap D
  has : ∀ x, Maps.has D (.string x) = ((l.take k).map bD).any (· == x)
  row : ∀ i (hi : i < l.length), i < k → ∃ v, sliceE v = some (D.atKey (.string (bD l[i])) (.agg [.lit (.int .i64 0), .lit (.int .i64 0)]), []) ∧ RTexts w0.cell? v l[i].txs
theorem TxMap.start (w0 : World) (l : List Bat) : TxMap w0 l 0 (.map []) := ⟨isMap_empty, fun x => rfl, fun i _ h => by omega⟩
theorem TxMap.next {w0 : World} {l : List Bat} {k : Nat} {D : DataW Unit} (h : TxMap w0 l k D) (hk : k < l.length) {v : Value} {d : DataW Unit} (hv : sliceE v = some (d, [])) (hr : RTexts w0.cell? v l[k].txs) (hne : ∀ i (hi : i < l.length), i < k → bD l[i] ≠ bD l[k]) : TxMap w0 l (k + 1) (D.put (.string (bD l[k])) d) := by
  have hkey : ∀ x : List UInt8, WideAt.IsKeyLit (.string x) := fun x => by trivial
  refine ⟨h.isMap.put _ _, fun x => ?_, fun i hi hik => ?_⟩
  · rw [List.take_succ_eq_append_getElem hk, List.map_append, List.any_append, List.map_singleton]
    by_cases e : x = bD l[k]
    · subst e
      rw [has_put_same h.isMap (hkey _)]
      simp
    · rw [has_put_other (by simpa using e), h.has]
      simp [Ne.symm e]
  · by_cases e : i = k
    · subst e
      exact ⟨v, by rw [atKey_put_same h.isMap (hkey _)]; exact hv, hr⟩
    · obtain ⟨v', h1, h2⟩ := h.row i hi (by omega)
      exact ⟨v', by rw [atKey_put_other (by simpa using hne i hi (by omega))]; exact h1, h2⟩
end Go.Proofs.YtbcoecmeoemmeaaGreatDoor

namespace Go.Proofs.YtbcoecmeoemmeaaGreatDoor
open Go.ChangeShapes Go.WideShapes Go.ChangeAt Go.RowKit
set_option linter.unusedVariables false
open Go.Maps
set_option linter.unusedSimpArgs false
def HisI (l : List Crt) (k : List UInt8) (ys : List Nat) : Prop := ∃ met : List Nat, Dfs l (dsOf hD l) (plc (dsOf hD l) k) met [] ∧ ys.Perm ((List.range l.length).filter fun i => decide (i ∈ met)) ∧ ys.Pairwise fun i j => ¬ aheadH l j i
def batsAt (l : List Crt) (i : Nat) : List (List UInt8) := match l[i]? with | some c => c.hdr.batches | none => []
def xsOf (l : List Crt) (ys : List Nat) : List (List UInt8) := ys.flatMap (batsAt l)
def blkOut (HI : List Nat → Prop) (l : List Crt) (bs : List Bat) (k : List UInt8) (E : Int) (T : List ByteArray) : Prop :=
  (foundE l k ≠ 0 ∧ E = foundE l k ∧ T = []) ∨ (foundE l k = 0 ∧ batsF bs ≠ 0 ∧ E = batsF bs ∧ T = []) ∨ (foundE l k = 0 ∧ batsF bs = 0 ∧ ∃ ys, HI ys ∧ ((blkR bs (xsOf l ys) = none ∧ E = 8 ∧ T = []) ∨ (blkR bs (xsOf l ys) = some T ∧ E = 0)))
structure BlkO (HI : List Nat → Prop) (l : List Crt) (bs : List Bat) (k : List UInt8) (E : Int) (w w' : World) (v : Value) : Prop where
  below : Below w.heap.size w w'
  row : ∃ T, RTexts w'.cell? v T ∧ blkOut HI l bs k E T
theorem bats_ok {bs : List Bat} (h : batsF bs = 0) : bs.length ≤ 800 ∧ (∀ i (hi : i < bs.length), bF bs[i] = 0) ∧ ∀ i j (hi : i < bs.length) (hj : j < bs.length), i < j → bD bs[i] ≠ bD bs[j] := by
  unfold batsF at h
  split at h
  · cases h
  · split at h
    · cases h
    · rename_i h1 h2
      have hall : ∀ j, j < bs.length → badB bs j = false := fun j hj => by
        rw [Bool.not_eq_true, List.any_eq_false] at h2
        simpa using h2 j (List.mem_range.2 hj)
      refine ⟨by omega, fun i hi => ?_, fun i j hi hj hij e => ?_⟩
      · have := hall i hi
        rw [badB_at hi] at this
        simp at this
        exact this.1
      · have := hall j hj
        rw [badB_at hj, Bool.or_eq_false_iff] at this
        have h3 := this.2
        rw [List.any_eq_false] at h3
        exact h3 (bD bs[i]) (List.mem_map.2 ⟨bs[i], by rw [List.mem_take_iff_getElem]; exact ⟨i, by omega, rfl⟩, rfl⟩) (by simp [e])
theorem bat_txs {a n : Int} {l : List ByteArray} (h : batchF a n l = 0) : 1 ≤ l.length ∧ l.length ≤ 4 := by
  unfold batchF at h
  split at h
  · cases h
  · split at h
    · cases h
    · rename_i h1 h2
      omega
def keysS (o : List ByteArray) : List Lit := o.map fun s => Lit.string s.data.toList
theorem has_keysS (o : List ByteArray) (d : List UInt8) : Maps.has (setOf (H := Unit) (.agg []) (keysS o)) (.string d) = o.any fun s => s.data.toList == d := by
  rw [has_setOf _ _ _ (by
    intro x hx
    unfold keysS at hx
    obtain ⟨y, _, rfl⟩ := List.mem_map.1 hx
    trivial)]
  unfold keysS
  rw [List.any_map]
  rfl
theorem Chg.then_below {G : List Nat} {a b c : World} {B : Nat} (h : Chg G a b) (hb : Below B b c) (hB : a.heap.size ≤ B) : Chg G a c :=
  ⟨hb.os.trans h.os, hb.tape.trans h.tape, hb.output.trans h.output, Nat.le_trans h.size hb.size, fun i hi hn => (hb.block i (by omega)).trans (h.block i hi hn)⟩
theorem ownsMap_chg {P : Program} {k : TypeId} {R : Value → Option (DataW Unit × List MemPlace)} {G : List Nat} {w w' : World} {b n : Nat} {D : DataW Unit} (h : w.ownsMap P k R b n D) (hc : Chg G w w') (hb : b ∉ G) : w'.ownsMap P k R b n D := by
  have hlt := h.lt
  obtain ⟨es, clock, h1, F, hs, hD⟩ := h
  exact ⟨es, clock, (hc.block b hlt hb).trans h1, F, hs, hD⟩
theorem wpList_lookup_own_at {P : Program} {w : World} {ops : Array Oper} {rest : List Oper} {o : Oper} {a : Act} {Q : Exit → Act → World → Prop} (hg : o.guard = none) (m x : Operand) (t : TypeId) (hop : o.op = Op.lookup t m x true)
    (k e : TypeId) (K : Keyed P k) (ht : P.underlying t = some (.map k e)) (R : Value → Option (DataW Unit × List MemPlace)) {z : Value} (hz : (zeroValue e).run P w = .ok z w) (zd : DataW Unit) (zp : List MemPlace) (hzd : R z = some (zd, zp)) (b n : Nat) (D : DataW Unit)
    (hm : a.eval m = .map (some b)) (hown : w.ownsMap P k R b n D) (key : Value) (kl : Lit) (hx : a.eval x = key) (hkey : keyOf P k key = some kl) (v0 : Value) (hb : Bool)
    (hfix : ∀ v ps, R v = some (D.atKey kl zd, ps) → v = v0) (hhas : Maps.has D kl = hb)
    (hK : wpList P ops Q rest (a.put o.dst (.tuple #[v0, .bool hb])) w) :
    wpList P ops Q (o :: rest) a w :=
  wpList_lookup_own_ok w hg m x t hop k e K ht R hz zd zp hzd b n D hm hown key kl hx hkey (fun v ps hv => by
    rw [hfix v ps hv, hhas]
    exact hK)
theorem map_cell {w : World} {mb n o : Nat} {D : DataW Unit} {P : Program} {k : TypeId} {R : Value → Option (DataW Unit × List MemPlace)} (h : w.ownsMap P k R mb n D) : w.cell? ⟨mb, o, none⟩ = none := by
  obtain ⟨es, clock, h1, _⟩ := h
  unfold World.cell?
  rw [h1]
theorem zeroTx (w : World) : (zeroValue 43).run Tryz.prog w = .ok (.slice none 0 0) w := by kernel_rfl
theorem batAt_none {bs : List Bat} {x : List UInt8} (h : (bs.map bD).any (· == x) = false) : batAt bs x = none := by
  unfold batAt
  rcases idxI_cases (· == x) (bs.map bD) with ⟨h1, _⟩ | ⟨i, hi, _, h2, _⟩
  · have : placeI (bs.map bD) x = -1 := h1
    rw [this]
    rfl
  · rw [List.any_eq_false] at h
    exact absurd h2 (h _ (List.getElem_mem hi))
theorem batAt_some {bs : List Bat} {x : List UInt8} (h : (bs.map bD).any (· == x) = true) : ∃ i, ∃ hi : i < bs.length, batAt bs x = some bs[i] ∧ bD bs[i] = x := by
  unfold batAt
  rcases idxI_cases (· == x) (bs.map bD) with ⟨_, h1⟩ | ⟨i, hi, h1, h2, _⟩
  · rw [h] at h1; cases h1
  · have hi' : i < bs.length := by simpa using hi
    have : placeI (bs.map bD) x = i := h1
    refine ⟨i, hi', ?_, by simpa using h2⟩
    rw [this, if_pos (by omega)]
    simp [hi']
theorem head_bats {h : Hdr} (hv : hF h = 0) : h.batches.length ≤ 3 := by
  unfold hF headF at hv
  split at hv
  · split at hv
    · cases hv
    · omega
  · cases hv
theorem RTexts.nil (h : View) : RTexts h (.slice none 0 0) [] := RVec.nil _ _ _
set_option maxHeartbeats 4000000 in
set_option maxRecDepth 100000 in
theorem block_any (vl vb vk : Value) (l : List Crt) (bs : List Bat) (k : List UInt8) (w : World) (hl : RCrts w.cell? vl l) (hb : RBats w.cell? vb bs) (hk : RBytes w.cell? vk k) (hT : Tabs w.cell?) :
    Calls Tryz.prog 12 #[.agg #[vl], vb, vk] w fun e w' => ∃ v E, e = .returned (.tuple #[v, .int .i64 E]) ∧ BlkO (HisI l k) l bs k E w w' v := by
  obtain ⟨A, c, rfl, hform⟩ := id hl
  obtain ⟨B, d, rfl, hform1⟩ := id hb
  obtain ⟨kA, kc, rfl, hform2⟩ := id hk
  clear hform hform1 hform2
  obtain ⟨_, hbn1, hbn2, hbel⟩ := RBats.at hb
  have Hbel := Lib.hid hbel
  clear hbel
  obtain ⟨E, hE⟩ : ∃ E, Hid (foundE l k = E) := ⟨_, rfl⟩
  obtain ⟨F, hF⟩ : ∃ F, Hid (batsF bs = F) := ⟨_, rfl⟩
  have hmm := @run_makeMap Tryz.prog
  go_enter Tryz.func12, Tryz.ntmps12
  go_upto_region 1 with fail
  refine one_block _ _ _ (fun W => Code.wp _ _ _ _ W) (fun W hkd hsz hbW => ?_)
  have hzW := hbW.size
  have g0 := hkd.cell 0
  simp at g0
  clear hsz
  go_wp2_with fail
  refine (dagFind_any _ _ l k _ (hl.mono RCrt.mono (vle_below hbW)) (hk.mono (vle_below hbW)) (hT.mono (vle_below hbW))).mono ?_
  rintro e w1 ⟨cs, rfl, hb1, ub, up, uv, rfl, rb, rp, rv⟩
  rw [hE.out]
  have hbl1 := hbW.trans (hb1.mono hzW)
  have hkd1 := hkd.kept hb1
  have hz1 := hbl1.size
  obtain ⟨bA, bc, rfl, f1⟩ := id rb
  obtain ⟨pA, pc, rfl, f2⟩ := id rp
  obtain ⟨vA, vc, rfl, f3⟩ := id rv
  clear f1 f2 f3 g0 rb rp rv
  generalize foundC l k = fc at *
  generalize fc.hdr.author = n1
  generalize fc.hdr.round = n2
  generalize fc.hdr.batches.length = n3
  generalize fc.hdr.parents.length = n4
  generalize fc.voters.length = n5
  go_upto_region 2 with fail
  refine one_block _ _ _ (fun W => Code.wp _ _ _ _ W) (fun W2 hX hsX hbX => ?_)
  have hbl2 := hbl1.trans (hbX.mono hz1)
  have hkd2 := hkd1.kept hbX
  have hz2 := hbl2.size
  clear hX hsX hkd1
  by_cases hE0 : E = 0
  rotate_left
  · go_wp2
    go_ret2
    exact ⟨_, E, rfl, hbl2, [], RTexts.nil _, .inl ⟨by rw [hE.out]; exact hE0, hE.out.symm, rfl⟩⟩
  subst hE0
  go_wp2_with fail
  refine (checkBatches_any _ bs _ (hb.mono (RBat.mono) (vle_below hbl2)) (hT.mono (vle_below hbl2))).mono ?_
  rintro e w3 ⟨rfl, hb3⟩
  rw [hF.out]
  have hbl3 := hbl2.trans (hb3.mono hz2)
  have hkd3 := hkd2.kept hb3
  have hz3 := hbl3.size
  clear hkd2
  by_cases hF0 : F = 0
  rotate_left
  · go_wp2
    go_ret2
    exact ⟨_, F, rfl, hbl3, [], RTexts.nil _, .inr (.inl ⟨hE.out, by rw [hF.out]; exact hF0, hF.out.symm, rfl⟩)⟩
  subst hF0
  obtain ⟨hb8, hbv, hbd⟩ := bats_ok hF.out
  have Hbv := Lib.hid hbv
  have Hbd := Lib.hid hbd
  clear hbv hbd
  go_upto_block 0 with fail
  have hmade : (w3.alloc (.map #[] 0)).ownsMap Tryz.prog 9 sliceE w3.heap.size 0 (.map []) := World.ownsMap_made _ _ _ _
  have hbM := below_one w3 (.map #[] 0)
  obtain ⟨W4, hW4⟩ : ∃ W4, W4 = w3.alloc (.map #[] 0) := ⟨_, rfl⟩
  have hszM : w3.heap.size + 1 ≤ W4.heap.size := by rw [hW4]; simp
  rw [← hW4] at hmade hbM ⊢
  clear hW4
  go_cut [13, 14, 15, 45] (fun _ _ _ _ w' => ∃ D : DataW Unit, w'.ownsMap Tryz.prog 9 sliceE w3.heap.size bs.length D ∧ TxMap w bs bs.length D ∧ Below w3.heap.size w3 w' ∧ w3.heap.size + 1 ≤ w'.heap.size)
  case first =>
    go_wp2_with fail
    go_loopw [13, 14, 15, 45] (fun _ _ _ i wr => ∃ (j : Nat) (D : DataW Unit), j ≤ bs.length ∧ i = .int .i64 j ∧ wr.ownsMap Tryz.prog 9 sliceE w3.heap.size j D ∧ TxMap w bs j D ∧ Below w3.heap.size w3 wr ∧ w3.heap.size + 1 ≤ wr.heap.size) (fun _ _ _ i _ => bs.length - (intOf i).toNat)
    case atStart => exact ⟨0, .map [], Nat.zero_le _, rfl, hmade, TxMap.start _ _, hbM, hszM⟩
    case round =>
      obtain ⟨j, D, hj, rfl, hmap, htx, hbl, hsz⟩ := hrel
      have hzr := hbl.size
      by_cases hlt : j < bs.length
      · have hlt' : (j : Int) < bs.length := by omega
        obtain ⟨b0, o0, tv, rfl, q0, q1, q2, rt, hs⟩ := Hbel.out j hlt
        have hbw := hbl3.trans (hbl.mono hz3)
        have q := vle_below hbw
        have c0 := q _ _ q0; have c1 := q _ _ q1; have c2 := q _ _ q2
        have rt0 := rt
        have rt' := rt.mono q
        have hval := Lib.hid (Hbv.out j hlt)
        have hdis := Lib.hid (fun i (hi : i < bs.length) (hij : i < j) => Hbd.out i j hi hlt hij)
        have htl : 0 < bs[j].txs.length := by
          have := (bat_txs (show batchF bs[j].author bs[j].number bs[j].txs = 0 from hval.out)).1
          omega
        have hsE : ∃ dd, sliceE tv = some (dd, []) := by
          obtain ⟨tA, tc, rfl, _, _, _, _, h5⟩ := id rt
          obtain ⟨b1, o1, rfl, _⟩ := h5 htl
          exact ⟨_, rfl⟩
        obtain ⟨dd, hdd⟩ := hsE
        have hnext := Lib.hid (htx.next hlt hdd rt0 hdis.out)
        obtain ⟨tA, tc, rfl, tf⟩ := id rt
        clear q0 q1 q2 rt rt0 tf htx hdis
        generalize bs[j] = x at *
        go_upto_region 11 with fail
        refine one_block _ _ _ (fun W => Code.wp _ _ _ _ W) (fun W5 hX hsX hbX => ?_)
        have hblX := hbl.trans (hbX.mono hzr)
        have hmapX : W5.ownsMap Tryz.prog 9 sliceE w3.heap.size j D := hmap.kept (grownBy_below none hbX) (by simp)
        have x0 := hX.cell 0; have x1 := hX.cell 1; have x2 := hX.cell 2
        simp at x0 x1 x2
        have hzX := hbX.size
        clear hsX hmap c0 c1 c2
        go_wp2_with fail
        refine (batchDigestW_any _ _ _ x.txs _ (rt'.mono (vle_below hbX)) hs (hT.mono (vle_below (hbl3.trans (hblX.mono hz3))))).mono ?_
        rintro e w6 ⟨dg, rfl, hb6, hr⟩
        rw [show batchF x.author x.number x.txs = 0 from hval.out]
        rw [show batDR x.author x.number x.txs = bD x from if_pos hval.out] at hr
        have hbl6 := hblX.trans (hb6.mono hblX.size)
        have hmap6 : w6.ownsMap Tryz.prog 9 sliceE w3.heap.size j D := hmapX.kept (grownBy_below none hb6) (by simp)
        have hX6 := hX.kept hb6
        have y2 := hX6.cell 2
        simp at y2
        have hz6 := hb6.size
        have hr := hr.mono (View.from_le _ _)
        have hstr := run_toStr hr
        have hdl : (bD x).length * 1 ≤ 140737488355328 := hr.len
        generalize bD x = DD at *
        have hkey := key_str (d := DD) (by omega)
        obtain ⟨gA, gc, rfl, hgf⟩ := id hr
        clear hgf hX x0 x1 x2 hmapX hr hval
        go_wp2_with (at_mapUpdate; refine wpList_mapUpdate_own _ rfl _ _ _ 76 rfl 9 43 strKey Tryz.underlying76 sliceE w3.heap.size j _ rfl hmap6 (by unfold maxLen; omega) _ _ _ rfl rfl hkey _ [] hdd ?_; intro w7 hmap7 hg7)
        go_roundw
        case rel => exact ⟨j + 1, _, by omega, by go_num, hmap7, hnext.out, below_grownBy hbl6 hbl6.size hg7 (by intro q e; injection e; omega), by have := hg7.size; omega⟩
        case measure => simp [intOf] <;> omega
      · have hjl : j = bs.length := by omega
        subst hjl
        have hlt' : ¬ (bs.length : Int) < bs.length := by omega
        go_wp2
        go_meet
        exact ⟨D, hmap, htx, hbl, hsz⟩
  case rest =>
    obtain ⟨D, hmap, htx, hbl, hsz⟩ := hcut
    have hkdc := hkd3.kept (hbl.mono (Nat.le_refl _))
    have hblc := hbl3.trans (hbl.mono hz3)
    have hzc := hblc.size
    obtain ⟨hdag, hpl⟩ := found_zero hE.out
    obtain ⟨hL, hA, h4, hv⟩ := dag_lone hdag
    have hgd := dag_good hdag
    have hkl : plc (dsOf hD l) k < l.length := by have := place_lt hpl; rwa [dsOf_len] at this
    have Hall := Lib.hid (And.intro hgd (And.intro hv (And.intro hpl hkl)))
    clear hgd hv hpl hkl hL hA hdag
    obtain ⟨w4, hw4⟩ : ∃ w4 : World, w4 = wc := ⟨_, rfl⟩
    subst hw4
    go_upto_region 16 with fail
    have hmade2 : (w4.alloc (.map #[] 0)).ownsMap Tryz.prog 9 (unitElem (H := Unit)) w4.heap.size 0 (setOf (.agg []) (keysOf [])) := World.ownsMap_made _ _ _ _
    have hbM2 := below_one w4 (.map #[] 0)
    obtain ⟨W5, hW5⟩ : ∃ W5, W5 = w4.alloc (.map #[] 0) := ⟨_, rfl⟩
    have hszM2 : w4.heap.size + 1 ≤ W5.heap.size := by rw [hW5]; simp
    rw [← hW5] at hmade2 hbM2 ⊢
    clear hW5
    have hbl5 := hblc.trans (hbM2.mono hzc)
    have hz5 := hbl5.size
    have hkd5 := hkdc.kept hbM2
    have hmap5 : W5.ownsMap Tryz.prog 9 sliceE w3.heap.size bs.length D := hmap.kept (grownBy_below none hbM2) (by simp)
    go_cut [65, 66, 67] (fun v n i w' => ∃ (ys : List Nat) (iA : Option Addr) (ic : Nat), v = .slice iA ys.length ic ∧ n = .int .i64 ys.length ∧ i = .int .i64 0 ∧ Below W5.heap.size W5 w' ∧ RIs w'.cell? (.slice iA ys.length ic) (ys.map fun n : Nat => (n : Int)) ∧ HisI l k ys ∧ (∀ i ∈ ys, i < l.length) ∧ ys.length ≤ 400)
    case first =>
      refine wp_region_pl (fun w' => Below W5.heap.size W5 w') [] (.q 0 (.q 1 (.q 3 (.q 6 (.l 2 (.l 4 (.q 5 .nil))))))) (by kernel_rfl) (by kernel_rfl) (fun _ _ d _ _ h => by cases d <;> exact h) rfl (by kernel_rfl) ?_ ?_
      · exact below_drew _
      intro W6 hS
      repeat (first
        | (refine pl_q (by assumption) rfl rfl ?_; apply Exists.intro; refine ⟨fun w' hS => ?_, ?_⟩; (· (have hq := hkd5.kept hS; have h0 := hq.cell 0; simp at h0; go_simp; exact rfl)); simp only [List.getElem_toArray, List.getElem_cons_zero, List.getElem_cons_succ, Act.put, List.setIfInBounds_toArray, List.set_cons_zero, List.set_cons_succ])
        | (refine pl_qc rfl rfl ?_; apply Exists.intro; refine ⟨fun w' _ => ?_, ?_⟩; (· (go_simp; exact rfl)); simp only [List.getElem_toArray, List.getElem_cons_zero, List.getElem_cons_succ, Act.put, List.setIfInBounds_toArray, List.set_cons_zero, List.set_cons_succ])
        | (refine pl_skip (by assumption) rfl rfl ?_; simp only [List.getElem_toArray, List.getElem_cons_zero, List.getElem_cons_succ, Act.put, List.setIfInBounds_toArray, List.set_cons_zero, List.set_cons_succ])
        | (refine pl_skipl (by assumption) rfl rfl ?_; simp only [List.getElem_toArray, List.getElem_cons_zero, List.getElem_cons_succ, Act.put, List.setIfInBounds_toArray, List.set_cons_zero, List.set_cons_succ]))
      first
        | refine pl_do rfl rfl (fun K hK => ?_)
        | refine op_do rfl rfl (fun K hK => ?_)
      try simp only [List.getElem_toArray, List.getElem_cons_zero, List.getElem_cons_succ]
      go_simp
      have hlS := hbl5.trans (hS.mono hz5)
      refine (orderAll_any _ l _ (hl.mono RCrt.mono (vle_below hlS)) Hall.out.2.1 (hT.mono (vle_below hlS))).mono ?_
      rintro e w7 ⟨vd, rfl, hb7, od⟩
      have hS7 := hS.trans (hb7.mono hS.size)
      have hl7 := hbl5.trans (hS7.mono hz5)
      have rD := RDigs.of_own od (by rw [dsOf_len]; omega)
      obtain ⟨dA, dc, rfl, hfd⟩ := id rD
      clear hfd od
      refine hK.out _ _ (hS7) (fun hS => ?_)
      clear hK K
      try simp only [List.getElem_toArray, List.getElem_cons_zero, List.getElem_cons_succ, Act.put, List.setIfInBounds_toArray, List.set_cons_zero, List.set_cons_succ]
      repeat (first
        | (refine pl_q (by assumption) rfl rfl ?_; apply Exists.intro; refine ⟨fun w' hS => ?_, ?_⟩; (· (skip; go_simp; exact rfl)); simp only [List.getElem_toArray, List.getElem_cons_zero, List.getElem_cons_succ, Act.put, List.setIfInBounds_toArray, List.set_cons_zero, List.set_cons_succ])
        | (refine pl_qc rfl rfl ?_; apply Exists.intro; refine ⟨fun w' _ => ?_, ?_⟩; (· (go_simp; exact rfl)); simp only [List.getElem_toArray, List.getElem_cons_zero, List.getElem_cons_succ, Act.put, List.setIfInBounds_toArray, List.set_cons_zero, List.set_cons_succ])
        | (refine pl_skip (by assumption) rfl rfl ?_; simp only [List.getElem_toArray, List.getElem_cons_zero, List.getElem_cons_succ, Act.put, List.setIfInBounds_toArray, List.set_cons_zero, List.set_cons_succ])
        | (refine pl_skipl (by assumption) rfl rfl ?_; simp only [List.getElem_toArray, List.getElem_cons_zero, List.getElem_cons_succ, Act.put, List.setIfInBounds_toArray, List.set_cons_zero, List.set_cons_succ]))
      first
        | refine pl_do rfl rfl (fun K hK => ?_)
        | refine op_do rfl rfl (fun K hK => ?_)
      try simp only [List.getElem_toArray, List.getElem_cons_zero, List.getElem_cons_succ]
      go_simp
      refine (history_any _ _ _ l k _ (hl.mono RCrt.mono (vle_below hl7)) rD (hk.mono (vle_below hl7)) Hall.out.1 Hall.out.2.1 h4 Hall.out.2.2.1 Hall.out.2.2.2).mono ?_
      rintro e w8 ⟨vi, rfl, hb8, met, ys, hri, hdfs, hperm, hpw⟩
      have hS8 := hS7.trans (hb8.mono hS7.size)
      have hbl8 := hbl5.trans (hS8.mono hz5)
      have hz8 := hbl8.size
      have hys : ∀ i ∈ ys, i < l.length := fun i hi => List.mem_range.1 (List.mem_filter.1 (hperm.mem_iff.1 hi)).1
      have hyl : ys.length ≤ 400 := by
        rw [hperm.length_eq]
        have := List.length_filter_le (fun i => decide (i ∈ met)) (List.range l.length)
        simp at this
        omega
      have HI : Hid (HisI l k ys) := ⟨met, hdfs, hperm, hpw⟩
      obtain ⟨iA, ic, hvf, _⟩ := id hri
      rw [List.length_map] at hvf
      subst hvf
      refine hK.out _ _ (hS8) (fun hS => ?_)
      clear hK K
      try simp only [List.getElem_toArray, List.getElem_cons_zero, List.getElem_cons_succ, Act.put, List.setIfInBounds_toArray, List.set_cons_zero, List.set_cons_succ]
      repeat (first
        | (refine pl_q (by assumption) rfl rfl ?_; apply Exists.intro; refine ⟨fun w' hS => ?_, ?_⟩; (· (skip; go_simp; exact rfl)); simp only [List.getElem_toArray, List.getElem_cons_zero, List.getElem_cons_succ, Act.put, List.setIfInBounds_toArray, List.set_cons_zero, List.set_cons_succ])
        | (refine pl_qc rfl rfl ?_; apply Exists.intro; refine ⟨fun w' _ => ?_, ?_⟩; (· (go_simp; exact rfl)); simp only [List.getElem_toArray, List.getElem_cons_zero, List.getElem_cons_succ, Act.put, List.setIfInBounds_toArray, List.set_cons_zero, List.set_cons_succ])
        | (refine pl_skip (by assumption) rfl rfl ?_; simp only [List.getElem_toArray, List.getElem_cons_zero, List.getElem_cons_succ, Act.put, List.setIfInBounds_toArray, List.set_cons_zero, List.set_cons_succ])
        | (refine pl_skipl (by assumption) rfl rfl ?_; simp only [List.getElem_toArray, List.getElem_cons_zero, List.getElem_cons_succ, Act.put, List.setIfInBounds_toArray, List.set_cons_zero, List.set_cons_succ]))
      refine pl_nil ?_
      go_wp2_with fail
      go_meet
      exact ⟨ys, iA, ic, rfl, rfl, rfl, hS8, hri, HI.out, hys, hyl⟩
    case rest =>
      obtain ⟨ys, iA, ic, rfl, rfl, rfl, hS8, hri, HI, hys, hyl⟩ := hcut
      have HI := Lib.hid HI
      obtain ⟨w8, hw8⟩ : ∃ w8 : World, w8 = wc := ⟨_, rfl⟩
      subst hw8
      have hbl8 := hbl5.trans (hS8.mono hz5)
      have hz8 := hbl8.size
      have hmap8 : w8.ownsMap Tryz.prog 9 sliceE w3.heap.size bs.length D := hmap5.kept (grownBy_below none hS8) (by simp)
      have hseen8 : w8.ownsMap Tryz.prog 9 (unitElem (H := Unit)) w4.heap.size 0 (setOf (.agg []) (keysOf [])) := hmade2.kept (grownBy_below none hS8) (by simp)
      clear hmap5 hmade2
      obtain ⟨-, hic, -, hiel⟩ := RIs.at hri
      simp only [List.length_map] at hic hiel
      have Hiel := Lib.hid hiel
      obtain ⟨-, hcap, -, hel⟩ := RCrts.at hl
      have Hel := Lib.hid hel
      have Hys := Lib.hid hys
      clear hiel hri hel hys hkd3 hmm
      go_wp2_with fail
      go_loopw [16, 19, 21, 22, 23, 25, 26, 27, 67, 79, 94] (fun v _ _ _ _ _ _ _ i _ _ wr => ∃ (j : Nat) (o : List ByteArray), j ≤ ys.length ∧ i = .int .i64 j ∧ Hid (blkR bs (xsOf l (ys.take j)) = some o) ∧ OwnS wr w8.heap.size v o ∧ wr.ownsMap Tryz.prog 9 (unitElem (H := Unit)) w4.heap.size o.length (setOf (.agg []) (keysS o)) ∧ o.length ≤ 12 * j ∧ Chg [w4.heap.size] w8 wr) (fun _ _ _ _ _ _ _ _ i _ _ _ => ys.length - (intOf i).toNat)
      case atStart => exact ⟨0, [], Nat.zero_le _, rfl, rfl, OwnVec.nil _ _ _ _, hseen8, Nat.zero_le _, Chg.refl _ _⟩
      case round =>
        obtain ⟨j, o, hj, rfl, hblk, hown, hseen, hol, hch⟩ := hrel
        have hzr := hch.size
        have hbw4 : Below w4.heap.size w4 wr := (hbM2.trans (hS8.mono (by omega))).trans (hch.below (B := w4.heap.size) (fun g hg => by obtain rfl := List.mem_singleton.1 hg; exact Nat.le_refl _) (by have := hS8.size; omega))
        have hbw : Below w.heap.size w wr := hblc.trans (hbw4.mono hzc)
        by_cases hlt : j < ys.length
        · have hlt' : (j : Int) < ys.length := by omega
          obtain ⟨b0, o0, rfl, e0⟩ := Hiel.out j hlt
          have hb0 : b0 ≠ w4.heap.size := fun e => by rw [e, map_cell hseen8] at e0; cases e0
          have e0' := (hch.cell b0 (o0 + j) (World.block_lt_of_cell? w8 _ e0) (by simpa using hb0)).trans e0
          simp only [List.getElem_map] at e0'
          have hyj := Hys.out ys[j] (List.getElem_mem hlt)
          have hnext : Hid (xsOf l (ys.take (j + 1)) = xsOf l (ys.take j) ++ l[ys[j]].hdr.batches) := by
            show _ = _
            unfold xsOf
            rw [List.take_succ_eq_append_getElem hlt, List.flatMap_append]
            congr 1
            simp [batsAt, hyj]
          have hall : Hid (∃ rest, xsOf l ys = xsOf l (ys.take j) ++ (l[ys[j]].hdr.batches ++ rest)) := by
            refine ⟨xsOf l (ys.drop (j + 1)), ?_⟩
            rw [← List.append_assoc, ← hnext.out]
            unfold xsOf
            rw [← List.flatMap_append, List.take_append_drop]
          obtain ⟨b1, o1, ub, up, uv, rfl, q0, q1, q2, q3, q4, sb, sp, sv⟩ := Hel.out ys[j] hyj
          have c2 := vle_below hbw _ _ q2
          have hfew : l[ys[j]].hdr.batches.length ≤ 3 := head_bats (Hall.out.2.1 _ (List.getElem_mem hyj))
          obtain ⟨sA, sc, rfl, sf⟩ := id sb
          obtain ⟨-, hsn, -, hsel⟩ := RDigs.at sb
          have Hsel := Lib.hid hsel
          have g0 := (hkdc.kept hbw4).cell 0
          simp at g0
          have hyj' : ((ys[j] : Nat) : Int) < (l.length : Int) := by omega
          clear e0 q0 q1 q2 q3 q4 sf hsel sb sp sv
          generalize l[ys[j]].hdr.batches = Bs at *
          generalize ys[j] = q at *
          go_wp2_with fail
          obtain ⟨wo, hwo⟩ : ∃ wo : World, wo = wr := ⟨_, rfl⟩
          subst hwo
          go_loopw [16, 21, 22, 23, 25, 26, 27, 79, 94] (fun v _ _ _ _ _ _ i _ wr => ∃ (m : Nat) (o : List ByteArray), m ≤ Bs.length ∧ i = .int .i64 m ∧ Hid (blkR bs (xsOf l (ys.take j) ++ Bs.take m) = some o) ∧ OwnS wr w8.heap.size v o ∧ wr.ownsMap Tryz.prog 9 (unitElem (H := Unit)) w4.heap.size o.length (setOf (.agg []) (keysS o)) ∧ o.length ≤ 12 * j + 4 * m ∧ Chg [w4.heap.size] w8 wr) (fun _ _ _ _ _ _ _ i _ _ => Bs.length - (intOf i).toNat)
          case atStart => exact ⟨0, o, Nat.zero_le _, rfl, by simpa using hblk, hown, hseen, by omega, hch⟩
          case round =>
            clear hblk hown hseen hol hch hzr hbw4 hbw g0 c2 e0'
            obtain ⟨m, o, hm, rfl, hblk, hown, hseen, hol, hch⟩ := hrel
            have hzr := hch.size
            by_cases hmlt : m < Bs.length
            · have hmltI : (m : Int) < Bs.length := by omega
              obtain ⟨b3, o3, d3, rfl, s0, r0⟩ := Hsel.out m hmlt
              have hbw4 : Below w4.heap.size w4 wr := (hbM2.trans (hS8.mono (by omega))).trans (hch.below (B := w4.heap.size) (fun g hg => by obtain rfl := List.mem_singleton.1 hg; exact Nat.le_refl _) (by have := hS8.size; omega))
              have hbw : Below w.heap.size w wr := hblc.trans (hbw4.mono hzc)
              have s0' := vle_below hbw _ _ s0
              have r0' := r0.mono (vle_below hbw)
              have hstr := run_toStr r0'
              have hXl : Bs[m].length * 1 ≤ 140737488355328 := r0'.len
              have hkey := key_str (d := Bs[m]) (by omega)
              have hmapr := ownsMap_chg hmap8 hch (by simp; have := hmap.lt; omega)
              have hfail : Hid (batAt bs Bs[m] = none → blkR bs (xsOf l ys) = none) := fun hx => by
                obtain ⟨rest, hrest⟩ := hall.out
                have h1 := blkR_fail (ys := Bs.drop (m + 1) ++ rest) hblk.out hx
                rw [← h1, hrest]
                congr 1
                rw [List.append_assoc]
                congr 1
                rw [← List.cons_append, ← List.drop_eq_getElem_cons hmlt, ← List.append_assoc, List.take_append_drop]
              have hnx : Hid (∀ b, batAt bs Bs[m] = some b → blkR bs (xsOf l (ys.take j) ++ Bs.take (m + 1)) = some (addTs o b.txs)) := fun b hx => by
                have h1 := blkR_next hblk.out hx
                rw [← h1, List.take_succ_eq_append_getElem hmlt, List.append_assoc]
              have hhas := htx.has Bs[m]
              rw [List.take_length] at hhas
              obtain ⟨dA, dc, rfl, hfd⟩ := id r0'
              clear hfd r0 s0 r0'
              generalize Bs[m] = X at *
              obtain ⟨HB, hHB⟩ : ∃ z, (bs.map bD).any (· == X) = z := ⟨_, rfl⟩
              rw [hHB] at hhas
              cases HB
              · have hf := Lib.hid (hfail.out (batAt_none hHB))
                clear hfail hnx hHB hall hnext
                go_wp2_with (at_lookup; refine wpList_lookup_own_at rfl _ _ 76 rfl 9 43 strKey Tryz.underlying76 sliceE (zeroTx _) (.agg [.lit (.int .i64 0), .lit (.int .i64 0)]) [] rfl w3.heap.size bs.length D rfl hmapr _ _ rfl hkey (.slice none 0 0) false (fun v ps h => by rw [atKey_of_not_has hhas] at h; exact sliceE_inj h rfl) hhas ?_)
                go_ret2
                exact ⟨_, 8, rfl, hbw, [], RTexts.nil _, .inr (.inr ⟨hE.out, hF.out, ys, HI.out, .inl ⟨hf.out, rfl, rfl⟩⟩)⟩
              · obtain ⟨i, hi, hat, hbd⟩ := batAt_some hHB
                obtain ⟨v0, hv0, rt⟩ := htx.row i hi hi
                have hnb := Lib.hid (hnx.out _ hat)
                have ht4 : bs[i].txs.length ≤ 4 := (bat_txs (show batchF bs[i].author bs[i].number bs[i].txs = 0 from Hbv.out i hi)).2
                have hts : ∀ s ∈ bs[i].txs, s.size ≤ 140737488355328 := by
                  obtain ⟨_, _, _, _, _, _, _, _, h⟩ := Hbel.out i hi
                  exact h
                have Hts := Lib.hid hts
                rw [hbd] at hv0
                obtain ⟨tA, tc, rfl, tl, tel⟩ := RTexts.form rt
                have Htel := Lib.hid tel
                clear hfail hnx hHB hat rt tel hts hbd
                generalize bs[i].txs = ts at *
                go_wp2_with (at_lookup; refine wpList_lookup_own_at rfl _ _ 76 rfl 9 43 strKey Tryz.underlying76 sliceE (zeroTx _) (.agg [.lit (.int .i64 0), .lit (.int .i64 0)]) [] rfl w3.heap.size bs.length D rfl hmapr _ _ rfl hkey (.slice tA ts.length tc) true (fun v ps h => sliceE_inj h hv0) hhas ?_)
                obtain ⟨wq, hwq⟩ : ∃ wq : World, wq = wr := ⟨_, rfl⟩
                subst hwq
                go_loopw [16, 25, 26, 27, 94] (fun v _ _ _ i wr => ∃ (p : Nat), p ≤ ts.length ∧ i = .int .i64 p ∧ OwnS wr w8.heap.size v (addTs o (ts.take p)) ∧ wr.ownsMap Tryz.prog 9 (unitElem (H := Unit)) w4.heap.size (addTs o (ts.take p)).length (setOf (.agg []) (keysS (addTs o (ts.take p)))) ∧ Chg [w4.heap.size] w8 wr) (fun _ _ _ _ i _ => ts.length - (intOf i).toNat)
                case atStart => exact ⟨0, Nat.zero_le _, rfl, hown, hseen, hch⟩
                case round =>
                  clear hown hseen hch hzr hbw4 hbw hmapr hstr hkey hhas s0'
                  obtain ⟨p, hp, rfl, hown, hseen, hch⟩ := hrel
                  have hzr := hch.size
                  by_cases hplt : p < ts.length
                  · have hpltI : (p : Int) < ts.length := by omega
                    obtain ⟨b4, o4, rfl, t0⟩ := Htel.out p hplt
                    have hbw4 : Below w4.heap.size w4 wr := (hbM2.trans (hS8.mono (by omega))).trans (hch.below (B := w4.heap.size) (fun g hg => by obtain rfl := List.mem_singleton.1 hg; exact Nat.le_refl _) (by have := hS8.size; omega))
                    have hbw : Below w.heap.size w wr := hblc.trans (hbw4.mono hzc)
                    have t0' := vle_below hbw _ _ t0
                    have hTs := Hts.out ts[p] (List.getElem_mem hplt)
                    have hstp := Lib.hid (addTs_succ (o := o) hplt)
                    have hO4 : (addTs o (ts.take p)).length ≤ o.length + 4 := by
                      have h1 := addTs_len o (ts.take p)
                      have h2 : (ts.take p).length ≤ ts.length := by rw [List.length_take]; exact Nat.min_le_right _ _
                      omega
                    have hw48 : w4.heap.size < w8.heap.size := by have := hS8.size; omega
                    generalize ts[p] = U at *
                    generalize addTs o (ts.take p) = O at *
                    have hkey := WideMaps.keyOf_string_mk (P := Tryz.prog) Tryz.underlying9 (s := U) (le_maxLen hTs)
                    have hhas := has_keysS O U.data.toList
                    obtain ⟨HB, hHB⟩ : ∃ z, (O.any fun s => s.data.toList == U.data.toList) = z := ⟨_, rfl⟩
                    rw [hHB] at hhas
                    have hHB := Lib.hid hHB
                    clear hbw4 t0 hTs
                    go_upto_region 29 with (at_lookup; refine wpList_lookup_own_unit _ rfl _ _ 79 rfl 9 83 strKey Tryz.underlying79 (zeroU _) w4.heap.size O.length _ rfl hseen _ _ rfl hkey ?_)
                    refine one_block _ _ _ (fun W => Code.wp _ _ _ _ W) (fun W6 hU hsU hbU => ?_)
                    have hown6 := hown.kept hbU
                    have hseen6 := ownsMap_below2 hseen hbU
                    have hch6 := hch.then_below hbU hzr
                    have hz6 := hch6.size
                    clear hown hseen hch hU hsU t0' hbw
                    cases HB
                    · have hO1 : Hid (addTs o (ts.take (p + 1)) = O ++ [U]) := by
                        show _ = _
                        rw [hstp.out]
                        unfold addT
                        rw [if_neg (by rw [hHB.out]; simp)]
                      clear hstp hHB
                      go_upto_region 31 with (at_mapUpdate; refine wpList_mapUpdate_own _ rfl _ _ _ 79 rfl 9 83 strKey Tryz.underlying79 (unitElem (H := Unit)) w4.heap.size O.length _ rfl hseen6 (by unfold maxLen; omega) _ _ _ rfl rfl hkey _ [] unitElem_mk ?_; intro w7 hseen7 hg7)
                      have hc7 : Chg [w4.heap.size] W6 w7 := Chg.of_grown hg7 (fun g e => by injection e with e; simp [e])
                      have hown7 := hown6.chg' hc7 (fun g e => by obtain rfl := List.mem_singleton.1 e; exact hw48)
                      have hch7 := hch6.trans hc7
                      have hz7 := hch7.size
                      clear hseen6 hown6
                      go_wp2_with (at_builtin; refine wpList_append_vec1 (n := 140737488355328) U elemStr encS_one _ _ rfl rfl rfl hown7 (Below.refl _ _) hz7 rfl (Nat.le_refl _) (by omega) (by omega) ?_)
                      intro v9 w9 ho9 hb9 hg9
                      have hch9 := hch7.then_below hb9 (Nat.le_refl _)
                      have hseen9 := hseen7.kept hg9 (fun e => by have := (hown7.own.lt _ e.symm).1; omega)
                      have hseenA : w9.ownsMap Tryz.prog 9 (unitElem (H := Unit)) w4.heap.size (O ++ [U]).length (setOf (.agg []) (keysS (O ++ [U]))) := by
                        unfold keysS at hseen9 ⊢
                        rw [List.map_append, List.map_cons, List.map_nil, setOf_snoc, List.length_append]
                        exact hseen9
                      rw [← hO1.out] at ho9 hseenA
                      clear hseen9 hseen7 hown7 hO1
                      go_wp2
                      go_roundw
                      case rel => exact ⟨p + 1, by omega, by go_num, ho9, hseenA, hch9⟩
                      case measure => simp [intOf] <;> omega
                    · have hO1 : Hid (addTs o (ts.take (p + 1)) = O) := by
                        show _ = _
                        rw [hstp.out]
                        unfold addT
                        rw [if_pos hHB.out]
                      rw [← hO1.out] at hown6 hseen6
                      clear hstp hHB hO1
                      go_wp2
                      go_roundw
                      case rel => exact ⟨p + 1, by omega, by go_num, hown6, hseen6, hch6⟩
                      case measure => simp [intOf] <;> omega
                  · have hpl : p = ts.length := by omega
                    subst hpl
                    rw [List.take_length] at hown hseen
                    have hol2 := addTs_len o ts
                    have hplt' : ¬ (ts.length : Int) < ts.length := by omega
                    go_wp2
                    go_roundw
                    case rel => exact ⟨m + 1, _, by omega, by go_num, hnb, hown, hseen, by omega, hch⟩
                    case measure => simp [intOf] <;> omega
            · have hml : m = Bs.length := by omega
              subst hml
              rw [List.take_length, ← hnext.out] at hblk
              have hmlt' : ¬ (Bs.length : Int) < Bs.length := by omega
              go_wp2
              go_roundw
              case rel => exact ⟨j + 1, o, by omega, by go_num, hblk, hown, hseen, by omega, hch⟩
              case measure => simp [intOf] <;> omega
        · have hjl : j = ys.length := by omega
          subst hjl
          rw [List.take_length] at hblk
          have hlt' : ¬ (ys.length : Int) < ys.length := by omega
          have hr := hown.reads (bs := 16) (by omega)
          obtain ⟨oA, oc, rfl⟩ := hown.form
          clear hown hseen
          go_wp2
          go_ret2
          exact ⟨_, 0, rfl, hbw, o, hr, .inr (.inr ⟨hE.out, hF.out, ys, HI.out, .inr ⟨hblk.out, rfl⟩⟩)⟩
end Go.Proofs.YtbcoecmeoemmeaaGreatDoor

namespace Go.Proofs.YtbcoecmeoemmeaaGreatDoor
open Go.ChangeShapes Go.WideShapes Go.ChangeAt Go.RowKit
set_option linter.unusedVariables false
set_option linter.unusedSimpArgs false
def wantC (w : List Bool) : Array Value := (w.map Value.bool).toArray
theorem wantC_set {w : List Bool} {i : Nat} (hi : i < w.length) : ((wantC w).toList.take i ++ Value.bool true :: (wantC w).toList.drop (i + 1)).toArray = wantC (w.set i true) := by
  unfold wantC
  rw [List.set_eq_take_append_cons_drop, if_pos hi]
  simp [List.map_take, List.map_drop]
theorem wantC_made (n : Nat) : madeCells #[.bool false] n = wantC (List.replicate n false) := by
  apply Array.ext'
  rw [toList_madeCells_one]
  unfold wantC
  simp
theorem wantC_size (w : List Bool) : (wantC w).size = w.length := by unfold wantC; simp
theorem wantC_at (w : List Bool) (i : Nat) : (wantC w)[i]? = (w[i]?).map Value.bool := by unfold wantC; simp
/-- a header in a row; its digests lie where they lay -/
def RHdrAt (w0 : World) : View → List Value → Hdr → Prop := fun _ cs h => ∃ vb vp, cs = [.int .i64 h.author, .int .i64 h.round, vb, vp] ∧ RDigs w0.cell? vb h.batches ∧ RDigs w0.cell? vp h.parents
theorem RHdrAt.mono (w0 : World) : Mono (RHdrAt w0) := fun _ _ _ _ h _ => h
theorem elemHdr : Elem Tryz.prog 87 65 4 64 := elemN (z := .agg #[.int .i64 0, .int .i64 0, .slice none 0 0, .slice none 0 0]) Tryz.underlying87 (by kernel_rfl) rfl (by decide)
def hdrAt (l : List Crt) (i : Nat) : Hdr := match l[i]? with | some c => c.hdr | none => ⟨0, 0, [], []⟩
def rowN (l : List Crt) (w : List Bool) (r : Int) (n : Nat) : List Nat := (List.range n).filterMap (pickH l w r)
theorem rowN_succ (l : List Crt) (w : List Bool) (r : Int) (n : Nat) : rowN l w r (n + 1) = rowN l w r n ++ (pickH l w r n).toList := by
  unfold rowN
  rw [List.range_succ, List.filterMap_append]
  cases h : pickH l w r n <;> simp [h]
theorem docH_succ (l : List Crt) (w : List Bool) (q : Nat) : docH l w (q + 1) = docH l w q ++ rowN l w (1 + q) 4 := by
  unfold docH
  rw [List.range_succ, List.flatMap_append]
  simp [rowH, rowN]
theorem docH_len (l : List Crt) (w : List Bool) (q : Nat) : (docH l w q).length ≤ l.length := by
  refine nodup_lt_len (nodup_ahead docH_sorted) (fun i hi => ?_)
  unfold docH rowH at hi
  obtain ⟨r, _, hm⟩ := List.mem_flatMap.1 hi
  obtain ⟨n, _, hp⟩ := List.mem_filterMap.1 hm
  obtain ⟨c, hc, _⟩ := pickH_some hp
  exact (List.getElem?_eq_some_iff.1 hc).1
theorem rowN_len (l : List Crt) (w : List Bool) (q n : Nat) (hn : n ≤ 4) : (docH l w q ++ rowN l w (1 + q) n).length ≤ l.length := by
  have h1 := docH_len l w (q + 1)
  rw [docH_succ] at h1
  have h2 : ∀ m, n ≤ m → (rowN l w (1 + (q : Int)) n).length ≤ (rowN l w (1 + q) m).length := fun m hm => by
    induction m with
    | zero => have : n = 0 := by omega
              subst this; exact Nat.le_refl _
    | succ m ih =>
      by_cases e : n = m + 1
      · subst e; exact Nat.le_refl _
      · rw [rowN_succ, List.length_append]
        have := ih (by omega)
        omega
  have := h2 4 hn
  simp at h1 ⊢
  omega
set_option maxHeartbeats 4000000 in
set_option maxRecDepth 100000 in
theorem historyOf_any (vl vk : Value) (l : List Crt) (k : List UInt8) (w : World) (hl : RCrts w.cell? vl l) (hk : RBytes w.cell? vk k) (hg : GoodD l (dsOf hD l)) (hv : ∀ c ∈ l, hF c.hdr = 0) (h4 : l.length ≤ 400) (hk0 : 0 ≤ placeI (dsOf hD l) k) (hkl : plc (dsOf hD l) k < l.length) :
    Calls Tryz.prog 32 #[.agg #[vl], vk] w fun e w' => ∃ v, e = .returned v ∧ Below w.heap.size w w' ∧ ∃ ws : List Bool, Want l (dsOf hD l) (plc (dsOf hD l) k) ws 0 ∧ RSl 4 (RHdrAt w) 64 w'.cell? v ((docH l ws (hdrAt l (plc (dsOf hD l) k)).round.toNat).map (hdrAt l)) := by
  obtain ⟨A, c, rfl, hform⟩ := id hl
  obtain ⟨kA, kc, rfl, hform3⟩ := id hk
  clear hform hform3
  obtain ⟨_, hcap, hlen, hel⟩ := hl.at
  have Hel := Lib.hid hel
  have Hg := Lib.hid hg
  have Hv := Lib.hid hv
  clear hel hg hv
  have hdl0 := dsOf_len l
  obtain ⟨Ds, hDs⟩ : ∃ Ds, Hid (dsOf hD l = Ds) := ⟨_, rfl⟩
  rw [hDs.out] at Hg hk0 hkl hdl0 ⊢
  have hdl := Lib.hid hdl0
  clear hdl0
  obtain ⟨K, hK⟩ : ∃ K, Hid (plc Ds k = K) := ⟨_, rfl⟩
  have hKI : Hid (placeI Ds k = (K : Int)) := by show _ = _; rw [← hK.out]; unfold plc; omega
  rw [hK.out] at hkl ⊢
  obtain ⟨TR, hTR⟩ : ∃ T : Int, Hid ((hdrAt l K).round = T) := ⟨_, rfl⟩
  have hTl : Hid (l[K].hdr.round = TR) := by show _ = _; rw [← hTR.out]; unfold hdrAt; simp [hkl]
  rw [hTR.out]
  clear hk0
  go_enter Tryz.func32, Tryz.ntmps32
  go_upto_region 1 with fail
  refine one_block _ _ _ (fun W => Code.wp _ _ _ _ W) (fun W hkd hsz hbW => ?_)
  have hzW := hbW.size
  have g0 := hkd.cell 0
  simp at g0
  clear hsz
  go_wp2_with fail
  refine (digestsOf_any _ l _ (hl.mono RCrt.mono (vle_below hbW)) Hv.out).mono ?_
  rintro e w1 ⟨vd, rfl, hb1, od⟩
  have hbl1 := hbW.trans (hb1.mono hzW)
  have hkd1 := hkd.kept hb1
  have hz1 := hbl1.size
  rw [hDs.out] at od
  have rD := RDigs.of_own od (by rw [hdl.out]; omega)
  clear od g0 hkd
  obtain ⟨dA, dc, rfl, hfd⟩ := id rD
  have hzw1 : w.heap.size + 1 ≤ w1.heap.size := by have := hkd1.lt; omega
  obtain ⟨b0, o0, vb, vp, vv, rfl, q0, q1, q2, q3, q4, rb, rp, rvv⟩ := Hel.out K hkl
  obtain ⟨bA, bc, rfl, f1⟩ := id rb
  obtain ⟨pA, pc, rfl, f2⟩ := id rp
  rw [hTl.out] at q1
  have hround := (hF_say (Hv.out l[K] (List.getElem_mem hkl))).2.2
  rw [hTl.out] at hround
  clear hfd rb rp rvv f1 f2
  go_upto_region 2 with fail
  go_cut [6] (fun p w' => ∃ g1, p = .pointer (some ⟨g1, 0, none⟩) ∧ Blk w' g1 65 #[.int .i64 l[K].hdr.author, .int .i64 TR, .slice bA l[K].hdr.batches.length bc, .slice pA l[K].hdr.parents.length pc] ∧ Below w1.heap.size w1 w')
  case first =>
    refine wp_region_pl (fun w' => Below w1.heap.size w1 w') [9] (.q 0 (.q 1 (.q 2 (.q 3 (.alt 4 (.q 5 (.q 6 (.q 7 (.l 8 (.l 9 .nil))))) 8 (.l 4 (.q 5 (.q 6 (.q 7 (.l 9 .nil)))))))))) (by kernel_rfl) (by kernel_rfl) (fun _ _ d _ _ h => by cases d <;> exact h) rfl (by kernel_rfl) ?_ ?_
    · exact below_drew _
    intro W1 hS
    have hkl' : (K : Int) < (l.length : Int) := by omega
    repeat (first
      | (refine pl_q (by assumption) rfl rfl ?_; apply Exists.intro; refine ⟨fun w' hS => ?_, ?_⟩; (· (have hq := (hkd1.kept hS).cell 0; simp at hq; go_simp; exact rfl)); simp only [List.getElem_toArray, List.getElem_cons_zero, List.getElem_cons_succ, Act.put, List.setIfInBounds_toArray, List.set_cons_zero, List.set_cons_succ])
      | (refine pl_qc rfl rfl ?_; apply Exists.intro; refine ⟨fun w' _ => ?_, ?_⟩; (· (go_simp; exact rfl)); simp only [List.getElem_toArray, List.getElem_cons_zero, List.getElem_cons_succ, Act.put, List.setIfInBounds_toArray, List.set_cons_zero, List.set_cons_succ])
      | (refine pl_skip (by assumption) rfl rfl ?_; simp only [List.getElem_toArray, List.getElem_cons_zero, List.getElem_cons_succ, Act.put, List.setIfInBounds_toArray, List.set_cons_zero, List.set_cons_succ])
      | (refine pl_skipl (by assumption) rfl rfl ?_; simp only [List.getElem_toArray, List.getElem_cons_zero, List.getElem_cons_succ, Act.put, List.setIfInBounds_toArray, List.set_cons_zero, List.set_cons_succ]))
    refine pl_alt ?_ ?_
    · first
        | refine pl_do rfl rfl (fun K hK => ?_)
        | refine op_do rfl rfl (fun K hK => ?_)
      try simp only [List.getElem_toArray, List.getElem_cons_zero, List.getElem_cons_succ]
      go_simp
      refine (placeOf_any _ Ds _ k _ (rD.mono RDig.mono (vle_below hS)) (hk.mono (vle_below (hbl1.trans (hS.mono hz1))))).mono ?_
      rintro e w3 ⟨rfl, hb3⟩
      rw [hKI.out]
      have hS3 := hS.trans (hb3.mono hS.size)
      have hq3 := vle_below (hbl1.trans (hS3.mono hz1))
      refine hK.out _ _ (hS3) (fun hS => ?_)
      clear hK K
      try simp only [List.getElem_toArray, List.getElem_cons_zero, List.getElem_cons_succ, Act.put, List.setIfInBounds_toArray, List.set_cons_zero, List.set_cons_succ]
      repeat (first
        | (refine pl_q (by assumption) rfl rfl ?_; apply Exists.intro; refine ⟨fun w' hS => ?_, ?_⟩; (· (have hq := vle_below (hbl1.trans (hS.mono hz1)); have h0 := hq _ _ q0; have h1 := hq _ _ q1; have h2 := hq _ _ q2; have h3 := hq _ _ q3; go_simp; exact rfl)); simp only [List.getElem_toArray, List.getElem_cons_zero, List.getElem_cons_succ, Act.put, List.setIfInBounds_toArray, List.set_cons_zero, List.set_cons_succ])
        | (refine pl_qc rfl rfl ?_; apply Exists.intro; refine ⟨fun w' _ => ?_, ?_⟩; (· (go_simp; exact rfl)); simp only [List.getElem_toArray, List.getElem_cons_zero, List.getElem_cons_succ, Act.put, List.setIfInBounds_toArray, List.set_cons_zero, List.set_cons_succ])
        | (refine pl_skip (by assumption) rfl rfl ?_; simp only [List.getElem_toArray, List.getElem_cons_zero, List.getElem_cons_succ, Act.put, List.setIfInBounds_toArray, List.set_cons_zero, List.set_cons_succ])
        | (refine pl_skipl (by assumption) rfl rfl ?_; simp only [List.getElem_toArray, List.getElem_cons_zero, List.getElem_cons_succ, Act.put, List.setIfInBounds_toArray, List.set_cons_zero, List.set_cons_succ]))
      first
        | refine pl_do rfl rfl (fun K hK => ?_)
        | refine op_do rfl rfl (fun K hK => ?_)
      try simp only [List.getElem_toArray, List.getElem_cons_zero, List.getElem_cons_succ]
      go_simp
      have hn := Blk.new w3 65 #[.int .i64 0, .int .i64 0, .slice none 0 0, .slice none 0 0]
      have hS4 := hS3.trans ((below_one w3 (.cells #[.int .i64 0, .int .i64 0, .slice none 0 0, .slice none 0 0] 65)).mono hS3.size)
      have hz33 := hS3.size
      refine hK.out _ _ (hS4) (fun hS => ?_)
      clear hK K
      try simp only [List.getElem_toArray, List.getElem_cons_zero, List.getElem_cons_succ, Act.put, List.setIfInBounds_toArray, List.set_cons_zero, List.set_cons_succ]
      first
        | refine pl_close rfl rfl rfl (fun K hK => ?_)
        | refine op_close rfl rfl rfl (fun K hK => ?_)
      try simp only [List.getElem_toArray, List.getElem_cons_zero, List.getElem_cons_succ]
      refine wp_store_whole (n := 4) rfl rfl rfl (by kernel_rfl) rfl hn rfl rfl ?_
      intro w5 hB5 hg5
      refine hK.out _ _ ?_
      clear hK K
      try simp only [List.getElem_toArray, List.getElem_cons_zero, List.getElem_cons_succ, Act.put, List.setIfInBounds_toArray, List.set_cons_zero, List.set_cons_succ]
      refine pl_nil ?_
      go_wp2_with fail
      go_meet
      exact ⟨_, rfl, hB5, below_grownBy hS4 hS4.size hg5 (by intro q e; injection e; omega)⟩
    · first
        | refine pl_do rfl rfl (fun K hK => ?_)
        | refine op_do rfl rfl (fun K hK => ?_)
      try simp only [List.getElem_toArray, List.getElem_cons_zero, List.getElem_cons_succ]
      go_simp
      have hn := Blk.new W1 65 #[.int .i64 0, .int .i64 0, .slice none 0 0, .slice none 0 0]
      have hS2 := hS.trans ((below_one W1 (.cells #[.int .i64 0, .int .i64 0, .slice none 0 0, .slice none 0 0] 65)).mono hS.size)
      have hz22 := hS.size
      refine hK.out _ _ (hS2) (fun hS => ?_)
      clear hK K
      try simp only [List.getElem_toArray, List.getElem_cons_zero, List.getElem_cons_succ, Act.put, List.setIfInBounds_toArray, List.set_cons_zero, List.set_cons_succ]
      first
        | refine pl_do rfl rfl (fun K hK => ?_)
        | refine op_do rfl rfl (fun K hK => ?_)
      try simp only [List.getElem_toArray, List.getElem_cons_zero, List.getElem_cons_succ]
      go_simp
      refine (placeOf_any _ Ds _ k _ (rD.mono RDig.mono (vle_below hS2)) (hk.mono (vle_below (hbl1.trans (hS2.mono hz1))))).mono ?_
      rintro e w3 ⟨rfl, hb3⟩
      rw [hKI.out]
      have hS3 := hS2.trans (hb3.mono hS2.size)
      have hq3 := vle_below (hbl1.trans (hS3.mono hz1))
      refine hK.out _ _ (hS3) (fun hS => ?_)
      clear hK K
      try simp only [List.getElem_toArray, List.getElem_cons_zero, List.getElem_cons_succ, Act.put, List.setIfInBounds_toArray, List.set_cons_zero, List.set_cons_succ]
      repeat (first
        | (refine pl_q (by assumption) rfl rfl ?_; apply Exists.intro; refine ⟨fun w' hS => ?_, ?_⟩; (· (have hq := vle_below (hbl1.trans (hS.mono hz1)); have h0 := hq _ _ q0; have h1 := hq _ _ q1; have h2 := hq _ _ q2; have h3 := hq _ _ q3; go_simp; exact rfl)); simp only [List.getElem_toArray, List.getElem_cons_zero, List.getElem_cons_succ, Act.put, List.setIfInBounds_toArray, List.set_cons_zero, List.set_cons_succ])
        | (refine pl_qc rfl rfl ?_; apply Exists.intro; refine ⟨fun w' _ => ?_, ?_⟩; (· (go_simp; exact rfl)); simp only [List.getElem_toArray, List.getElem_cons_zero, List.getElem_cons_succ, Act.put, List.setIfInBounds_toArray, List.set_cons_zero, List.set_cons_succ])
        | (refine pl_skip (by assumption) rfl rfl ?_; simp only [List.getElem_toArray, List.getElem_cons_zero, List.getElem_cons_succ, Act.put, List.setIfInBounds_toArray, List.set_cons_zero, List.set_cons_succ])
        | (refine pl_skipl (by assumption) rfl rfl ?_; simp only [List.getElem_toArray, List.getElem_cons_zero, List.getElem_cons_succ, Act.put, List.setIfInBounds_toArray, List.set_cons_zero, List.set_cons_succ]))
      first
        | refine pl_close rfl rfl rfl (fun K hK => ?_)
        | refine op_close rfl rfl rfl (fun K hK => ?_)
      try simp only [List.getElem_toArray, List.getElem_cons_zero, List.getElem_cons_succ]
      refine wp_store_whole (n := 4) rfl rfl rfl (by kernel_rfl) rfl (hn.kept hb3) rfl rfl ?_
      intro w5 hB5 hg5
      refine hK.out _ _ ?_
      clear hK K
      try simp only [List.getElem_toArray, List.getElem_cons_zero, List.getElem_cons_succ, Act.put, List.setIfInBounds_toArray, List.set_cons_zero, List.set_cons_succ]
      refine pl_nil ?_
      go_wp2_with fail
      go_meet
      exact ⟨_, rfl, hB5, below_grownBy hS3 hS3.size hg5 (by intro q e; injection e; omega)⟩
  case rest =>
    obtain ⟨g1, rfl, hH, hbc⟩ := hcut
    obtain ⟨w2, hw2⟩ : ∃ w2 : World, w2 = wc := ⟨_, rfl⟩
    subst hw2
    have hkdc := hkd1.kept hbc
    have hblc := hbl1.trans (hbc.mono hz1)
    have hzc := hblc.size
    have hltg1 := hH.lt
    have rDc := rD.mono RDig.mono (vle_below hbc)
    have g0 := hkdc.cell 0
    simp at g0
    have hmk : ∀ W', (Instr.makeSlice 133 (.int .i64 (l.length : Int)) (.int .i64 (l.length : Int))).run Tryz.prog W' = .ok (.slice (some ⟨W'.heap.size, 0, none⟩) l.length l.length) (W'.alloc (.cells (madeCells #[.bool false] l.length) 4)) := fun W' => run_make_row' 133 4 (.bool false) 1 Tryz.underlying133 (by kernel_rfl) rfl _ _ _ (by omega) (by omega) W'
    go_upto_region 4 with fail
    refine one_block _ _ _ (fun W => Code.wp _ _ _ _ W) (fun W3 hA hsA hbA => ?_)
    rw [wantC_made] at hA
    have hz3 : w2.heap.size + 1 ≤ W3.heap.size := by omega
    have hkl' : (K : Int) < (l.length : Int) := by omega
    clear hmk hsA hkd1 g0
    go_wp2_with fail
    refine (placeOf_any _ Ds _ k _ (rDc.mono RDig.mono (vle_below hbA)) (hk.mono (vle_below (hblc.trans (hbA.mono hzc))))).mono ?_
    rintro e w4 ⟨rfl, hb4⟩
    rw [hKI.out]
    have hA4 := hA.kept hb4
    clear hA
    have hfit : K + 1 ≤ (wantC (List.replicate l.length false)).size := by rw [wantC_size, List.length_replicate]; omega
    go_wp2_with (refine wpList_store_blkD (n := 1) rfl rfl rfl rfl (by kernel_rfl) rfl hA4 hfit rfl ?_)
    intro w5 hA5 hg5
    rw [wantC_set (by rw [List.length_replicate]; omega)] at hA5
    have hwant := Want.start (k := K) Hg.out (n := l.length) rfl hkl
    have hbl4 := hbA.trans (hb4.mono hbA.size)
    have hbl5 : Below w2.heap.size w2 w5 := below_grownBy hbl4 hbl4.size hg5 (by intro q e; injection e; omega)
    have g0 := (hkdc.kept hbl5).cell 0
    simp at g0
    have hwl : IntKind.i64.wrap ((l.length : Int) - 1) = (l.length : Int) - 1 := by rw [IntKind.wrap_i64]; omega
    clear hA4 hg5 hb4
    go_upto_block 0 with fail
    go_cut [8, 9] (fun _ _ w' => ∃ ws, Want l Ds K ws 0 ∧ Blk w' w2.heap.size 4 (wantC ws) ∧ Below w2.heap.size w2 w')
    case first =>
      go_wp2_with fail
      go_loopw [8, 9] (fun i _ wr => ∃ (m : Nat) (z : Int) (ws : List Bool), i = .int .i64 z ∧ Hid (z = (m : Int) - 1) ∧ -1 ≤ z ∧ z ≤ 399 ∧ m ≤ l.length ∧ Want l Ds K ws m ∧ Blk wr w2.heap.size 4 (wantC ws) ∧ Below w2.heap.size w2 wr) (fun i _ _ => (intOf i + 1).toNat)
      case atStart => exact ⟨l.length, (l.length : Int) - 1, _, rfl, rfl, by omega, by omega, Nat.le_refl _, hwant, hA5, hbl5⟩
      case round =>
        obtain ⟨m, z, ws, rfl, hz, hz0, hz1', hml, hw, hA, hbl⟩ := hrel
        have hzr := hbl.size
        by_cases hm : m = 0
        · subst hm
          have hzn : ¬ (0 : Int) ≤ z := by have := hz.out; omega
          go_wp2
          go_meet
          exact ⟨ws, hw, hA, hbl⟩
        · obtain ⟨n, rfl⟩ : ∃ n, m = n + 1 := ⟨m - 1, by omega⟩
          obtain rfl : z = (n : Int) := by have := hz.out; omega
          have hnl : n < l.length := by omega
          have hwl2 := hw.len
          obtain ⟨Wt, hWt⟩ : ∃ Wt, ws[n]? = some Wt := ⟨ws[n]'(by omega), by simp [show n < ws.length by omega]⟩
          go_wp2_with fail
          obtain ⟨wo, hwo⟩ : ∃ wo : World, wo = wr := ⟨_, rfl⟩
          subst hwo
          have hwz : IntKind.i64.wrap ((n : Int) - 1) = (n : Int) - 1 := by rw [IntKind.wrap_i64]; omega
          have hnl' : (n : Int) < l.length := by omega
          have hA0 := hA.cell n
          rw [wantC_at, hWt] at hA0
          simp at hA0
          obtain ⟨c0, d0, ub, up, uv, eA, p0, p1, p2, p3, p4, sb, sp, sv⟩ := Hel.out n hnl
          injection eA with eA
          injection eA with eb eo _
          subst eb eo
          have hgpar := Lib.hid (fun p (hp : p < l[n].hdr.parents.length) => Hg.out.par n l[n] (by simp [hnl]) _ (List.getElem_mem hp))
          have hcert : l[n]? = some l[n] := by simp [hnl]
          obtain ⟨uA, uc, rfl, uf⟩ := id sp
          obtain ⟨_, hun1, _, huel⟩ := RDigs.at sp
          have Huel := Lib.hid huel
          have g0' := (hkdc.kept hbl).cell 0
          simp at g0'
          have p3' := vle_below (hblc.trans (hbl.mono hzc)) _ _ p3
          clear uf huel sb sp sv p0 p1 p2 p4
          generalize hX : l[n] = x at *
          have hfew : x.hdr.parents.length ≤ 4 := Hg.out.few x (by rw [← hX]; exact List.getElem_mem hnl)
          cases Wt
          · have hnot := Lib.hid (hw.not (show ws[n]? ≠ some true by rw [hWt]; decide))
            clear hX hcert
            go_loopw [9] (fun i wr => i = .int .i64 0 ∧ wr = wo) (fun _ _ => 0)
            case atStart => exact ⟨rfl, rfl⟩
            case round =>
              obtain ⟨rfl, rfl⟩ := hrel
              by_cases hpz : (0 : Int) < (x.hdr.parents.length : Int)
              · go_wp2
                go_roundw
                case rel => exact ⟨n, (n : Int) - 1, ws, rfl, rfl, by omega, by omega, by omega, hnot.out, hA, hbl⟩
                case measure => simp [intOf] <;> omega
              · go_wp2
                go_roundw
                case rel => exact ⟨n, (n : Int) - 1, ws, rfl, rfl, by omega, by omega, by omega, hnot.out, hA, hbl⟩
                case measure => simp [intOf] <;> omega
          · have hst := Lib.hid (WantP.start hw hcert hWt)
            clear hX hcert hA0 g0' p3'
            go_loopw [9] (fun i wr => ∃ (p : Nat) (ws' : List Bool), i = .int .i64 p ∧ p ≤ x.hdr.parents.length ∧ WantP l Ds K ws' n x p ∧ Blk wr w2.heap.size 4 (wantC ws') ∧ Below w2.heap.size w2 wr) (fun i _ => x.hdr.parents.length - (intOf i).toNat)
            case atStart => exact ⟨0, ws, rfl, Nat.zero_le _, hst.out, hA, hbl⟩
            case round =>
              clear hA hbl hst hw hWt hzr
              obtain ⟨p, ws', rfl, hp, hwp, hA, hbl⟩ := hrel
              have hzr := hbl.size
              have g0' := (hkdc.kept hbl).cell 0
              simp at g0'
              have p3' := vle_below (hblc.trans (hbl.mono hzc)) _ _ p3
              have hA0 := hA.cell n
              rw [wantC_at, hwp.on] at hA0
              simp at hA0
              have hwl3 := hwp.want.len
              by_cases hpl : p < x.hdr.parents.length
              · have hpl' : (p : Int) < (x.hdr.parents.length : Int) := by omega
                obtain ⟨e0, f0, dv, rfl, e1, rdv⟩ := Huel.out p hpl
                have e1' := vle_below (hblc.trans (hbl.mono hzc)) _ _ e1
                obtain ⟨q1', q2', _⟩ := hgpar.out p hpl
                have hnx := Lib.hid (hwp.next Hg.out hpl)
                obtain ⟨J, hJ⟩ : ∃ J, Hid (plc Ds (x.hdr.parents[p]'hpl) = J) := ⟨plc Ds (x.hdr.parents[p]'hpl), rfl⟩
                have hJI : Hid (placeI Ds x.hdr.parents[p] = (J : Int)) := by show _ = _; rw [← hJ.out]; unfold plc; omega
                rw [hJ.out] at q2' hnx
                have hJl : J < l.length := by omega
                have hJl' : (J : Int) < (l.length : Int) := by omega
                generalize x.hdr.parents[p] = y at *
                clear e1 q1' hwp
                go_wp2_with fail
                refine (placeOf_any _ Ds _ y _ (rDc.mono RDig.mono (vle_below hbl)) (rdv.mono (vle_below (hblc.trans (hbl.mono hzc))))).mono ?_
                rintro e w6 ⟨rfl, hb6⟩
                rw [hJI.out]
                have hA6 := hA.kept hb6
                have hfit : J + 1 ≤ (wantC ws').size := by rw [wantC_size]; omega
                have hbl6 := hbl.trans (hb6.mono hzr)
                clear hA hA0 g0' p3' e1' rdv
                go_wp2_with (refine wpList_store_blkD (n := 1) rfl rfl rfl rfl (by kernel_rfl) rfl hA6 hfit rfl ?_)
                intro w7 hA7 hg7
                rw [wantC_set (by omega)] at hA7
                have hbl7 : Below w2.heap.size w2 w7 := below_grownBy hbl6 hbl6.size hg7 (by intro q e; injection e; omega)
                go_wp2
                go_roundw
                case rel => exact ⟨p + 1, _, by go_num, by omega, hnx.out, hA7, hbl7⟩
                case measure => simp [intOf] <;> omega
              · have hpl' : ¬ (p : Int) < (x.hdr.parents.length : Int) := by omega
                have hdone := hwp.done (by omega)
                clear hwp
                go_wp2
                go_roundw
                case rel => exact ⟨n, (n : Int) - 1, ws', rfl, rfl, by omega, by omega, by omega, hdone, hA, hbl⟩
                case measure => simp [intOf] <;> omega
    case rest =>
      obtain ⟨ws, hw, hA, hblw⟩ := hcut
      have hzw := hblw.size
      have hHc := hH.kept hblw
      have hkc := hkdc.kept hblw
      have hblc2 := hblc.trans (hblw.mono hzc)
      have hzc2 := hblc2.size
      have hwlen := hw.len
      have hltg := hHc.lt
      have hltA := hA.lt
      clear hwant hA5 g0 hwl hbl5 hbl4 hdl hKI rDc rD hkl'
      go_wp2_with fail
      go_loopw [10, 11, 12, 13] (fun v i _ _ wr => ∃ (q : Nat) (z : Int), i = .int .i64 z ∧ Hid (z = 1 + (q : Int)) ∧ 1 ≤ z ∧ z ≤ TR + 1 ∧ OwnSl 4 (RHdrAt w) 65 wr wc.heap.size v ((docH l ws q).map (hdrAt l)) ∧ Below wc.heap.size wc wr) (fun _ i _ _ _ => (TR + 1 - intOf i).toNat)
      case atStart => exact ⟨0, 1, rfl, rfl, by omega, by omega, OwnSl.nil _ _ _ _ _, Below.refl _ _⟩
      case round =>
        obtain ⟨q, z, rfl, hz, hz0, hzT, hown, hbl⟩ := hrel
        have hzr := hbl.size
        have y1 := (hHc.kept hbl).cell 1
        simp at y1
        by_cases hle : z ≤ TR
        · have hwz : IntKind.i64.wrap (z + 1) = z + 1 := by rw [IntKind.wrap_i64]; omega
          go_wp2_with fail
          obtain ⟨wo, hwo⟩ : ∃ wo : World, wo = wr := ⟨_, rfl⟩
          subst hwo
          go_loopw [10, 12, 13] (fun v i _ wr => ∃ n : Nat, n ≤ 4 ∧ i = .int .i64 n ∧ OwnSl 4 (RHdrAt w) 65 wr wc.heap.size v ((docH l ws q ++ rowN l ws (1 + q) n).map (hdrAt l)) ∧ Below wc.heap.size wc wr) (fun _ i _ _ => 4 - (intOf i).toNat)
          case atStart => exact ⟨0, by omega, rfl, by simpa [rowN] using hown, hbl⟩
          case round =>
            clear hown hbl hzr y1
            obtain ⟨n, hn4, rfl, hown, hbl⟩ := hrel
            have hzr := hbl.size
            by_cases hn : n < 4
            · have hn' : (n : Int) < 4 := by omega
              have g0 := (hkc.kept hbl).cell 0
              simp at g0
              have hll := rowN_len l ws q n hn4
              have hrow := Lib.hid (rowN_succ l ws (1 + q) n)
              have hcl := hblc2.trans (hbl.mono hzc2)
              have hpick : Hid (pickH l ws z n = pickH l ws (1 + q) n) := by show _ = _; rw [hz.out]
              go_wp2_with fail
              refine (certOf_any _ l n z wr (hl.mono RCrt.mono (vle_below hcl))).mono ?_
              rintro e w6 ⟨rfl, hb6⟩
              have hown6 := hown.kept (RHdrAt.mono w) hb6
              have hbl6 := hbl.trans (hb6.mono hzr)
              have hcl6 := hcl.trans (hb6.mono hcl.size)
              have hz6 := hbl6.size
              clear hown g0
              rcases idxI_cases (isCert n z) l with ⟨hneg, _⟩ | ⟨kk, hkk, hpos, _, _⟩
              · have hcI : certI l (n : Int) z = -1 := hneg
                have hnone : pickH l ws z n = none := by unfold pickH; rw [hcI]; exact if_neg (by omega)
                have ho : OwnSl 4 (RHdrAt w) 65 w6 wc.heap.size u10 ((docH l ws q ++ rowN l ws (1 + q) (n + 1)).map (hdrAt l)) := by
                  rw [hrow.out, ← hpick.out, hnone]
                  simpa using hown6
                rw [hcI]
                clear hown6 hneg hcI hnone hrow hpick
                go_wp2
                go_roundw
                case rel => exact ⟨n + 1, by omega, by go_num, ho, hbl6⟩
                case measure => simp [intOf] <;> omega
              · have hcI : certI l (n : Int) z = (kk : Int) := hpos
                have hkw : kk < ws.length := by omega
                obtain ⟨Wt, hWt⟩ : ∃ Wt, ws[kk]? = some Wt := ⟨ws[kk], by simp [hkw]⟩
                have hA0 := (hA.kept hbl6).cell kk
                rw [wantC_at, hWt] at hA0
                simp at hA0
                have hkk' : (kk : Int) < (l.length : Int) := by omega
                have hkk0 : (0 : Int) ≤ (kk : Int) := by omega
                rw [hcI]
                cases Wt
                · have hnone : pickH l ws z n = none := by
                    unfold pickH
                    rw [hcI]
                    exact if_neg (fun h => by have := h.2; simp [hWt] at this)
                  have ho : OwnSl 4 (RHdrAt w) 65 w6 wc.heap.size u10 ((docH l ws q ++ rowN l ws (1 + q) (n + 1)).map (hdrAt l)) := by
                    rw [hrow.out, ← hpick.out, hnone]
                    simpa using hown6
                  clear hown6 hpos hcI hnone hrow hpick hWt
                  go_wp2
                  go_roundw
                  case rel => exact ⟨n + 1, by omega, by go_num, ho, hbl6⟩
                  case measure => simp [intOf] <;> omega
                · have hsome : pickH l ws z n = some kk := by
                    unfold pickH
                    rw [hcI]
                    exact if_pos ⟨hkk0, by simpa using hWt⟩
                  have hnx : Hid ((docH l ws q ++ rowN l ws (1 + q) (n + 1)).map (hdrAt l) = (docH l ws q ++ rowN l ws (1 + q) n).map (hdrAt l) ++ [l[kk].hdr]) := by
                    show _ = _
                    rw [hrow.out, ← hpick.out, hsome]
                    have : hdrAt l kk = l[kk].hdr := by unfold hdrAt; simp [hkk]
                    simp [this]
                  have hLl : Hid (((docH l ws q ++ rowN l ws (1 + q) n).map (hdrAt l)).length ≤ 400) := by show _ ≤ _; rw [List.length_map]; omega
                  obtain ⟨c0, d0, ub, up, uv, eA, p0, p1, p2, p3, p4, sb, sp, sv⟩ := Hel.out kk hkk
                  injection eA with eA
                  injection eA with eb eo _
                  subst eb eo
                  obtain ⟨sA, sc, rfl, sf⟩ := id sb
                  obtain ⟨tA, tc, rfl, tf⟩ := id sp
                  have hq6 := vle_below hcl6
                  have r0 := hq6 _ _ p0
                  have r1 := hq6 _ _ p1
                  have r2 := hq6 _ _ p2
                  have r3 := hq6 _ _ p3
                  have g0 := (hkc.kept hbl6).cell 0
                  simp at g0
                  generalize (docH l ws q ++ rowN l ws (1 + q) n).map (hdrAt l) = L at hown6 hnx hLl
                  clear sf tf sv p0 p1 p2 p3 p4 hsome hpos hcI hrow hpick hWt
                  generalize l[kk].hdr = y at *
                  have hR : RHdrAt w (View.but w6.cell? u10.ownBlock) [.int .i64 y.author, .int .i64 y.round, .slice sA y.batches.length sc, .slice tA y.parents.length tc] y := ⟨_, _, rfl, sb, sp⟩
                  go_wp2_with (at_builtin; go_loud (refine wpList_append_sl1 (n := 140737488355328) (RHdrAt.mono w) y [.int .i64 y.author, .int .i64 y.round, .slice sA y.batches.length sc, .slice tA y.parents.length tc] elemHdr _ _ rfl rfl rfl hown6 hbl6 hz6 rfl rfl rfl rfl hR (Nat.le_refl _) (by have := hLl.out; omega) (by have := hLl.out; omega) ?_))
                  intro v' w7 ho hbl7 _
                  rw [← hnx.out] at ho
                  clear hown6 hR hA0 hnx
                  go_wp2
                  go_roundw
                  case rel => exact ⟨n + 1, by omega, by go_num, ho, hbl7⟩
                  case measure => simp [intOf] <;> omega
            · have hn' : ¬ (n : Int) < 4 := by omega
              have h4n : n = 4 := by omega
              subst h4n
              rw [← docH_succ] at hown
              go_wp2
              go_roundw
              case rel => exact ⟨q + 1, z + 1, rfl, by show _ = _; have := hz.out; omega, by omega, by omega, hown, hbl⟩
              case measure => simp [intOf] <;> omega
        · have hq : TR.toNat = q := by have := hz.out; omega
          have hr := hown.reads (bs := 64) (RHdrAt.mono w) (by have := docH_len l ws q; simp; omega)
          rw [← hq] at hr
          obtain ⟨oA, oc, hof⟩ := hown.form
          obtain ⟨ln, hln⟩ : ∃ ln, Hid (((docH l ws q).map (hdrAt l)).length = ln) := ⟨_, rfl⟩
          rw [hln.out] at hof
          subst hof
          clear hown hln hq
          go_wp2
          go_ret
          exact ⟨_, rfl, hblc2.trans (hbl.mono hzc2), ws, hw, hr⟩
end Go.Proofs.YtbcoecmeoemmeaaGreatDoor

namespace Go.Proofs.YtbcoecmeoemmeaaGreatDoor
open Go.ChangeShapes Go.WideShapes Go.ChangeAt Go.RowKit
set_option linter.unusedVariables false
set_option linter.unusedSimpArgs false
/-- what the document's history answers -/
def DocP (l : List Crt) (k : List UInt8) (L : List (List UInt8)) : Prop := ∃ ws : List Bool, Want l (dsOf hD l) (plc (dsOf hD l) k) ws 0 ∧ L = ((docH l ws (hdrAt l (plc (dsOf hD l) k)).round.toNat).map (hdrAt l)).map hD
theorem his_doc {l : List Crt} {k : List UInt8} {L L' : List (List UInt8)} (hE : foundE l k = 0) (h1 : HisP l k L) (h2 : DocP l k L') : L = L' := by
  obtain ⟨met, ys, hd, hp, hs, rfl⟩ := h1
  obtain ⟨ws, hw, rfl⟩ := h2
  obtain ⟨hdag, hpl⟩ := found_zero hE
  have hg := dag_good hdag
  have hkl : plc (dsOf hD l) k < l.length := by have := place_lt hpl; rwa [dsOf_len] at this
  have htop : hdrAt l (plc (dsOf hD l) k) = l[plc (dsOf hD l) k].hdr := by unfold hdrAt; simp [hkl]
  have hr1 := hg.rnd _ (List.getElem_mem hkl)
  have e := hist_is (top := (hdrAt l (plc (dsOf hD l) k)).round.toNat) hg hw (fun i c hi hc => by
    obtain ⟨c', h3, h4⟩ := Rch.round hg (hw.rch i hi) (ck := l[plc (dsOf hD l) k]) (by simp [hkl])
    rw [hc] at h3
    obtain rfl := Option.some.inj h3
    rw [htop]
    omega) hd hp hs
  rw [e, List.map_map]
  refine List.map_congr_left fun i hi => ?_
  rw [← e] at hi
  have hil : i < l.length := List.mem_range.1 (List.mem_filter.1 (hp.mem_iff.1 hi)).1
  simp only [Function.comp, List.getD_eq_getElem?_getD]
  unfold dsOf hdrAt
  simp [hil]
theorem hdr_at {h : View} {w0 : World} {A : Option Addr} {n c : Nat} {xs : List Hdr} (hr : RSl 4 (RHdrAt w0) 64 h (.slice A n c) xs) : n = xs.length ∧ n ≤ c ∧ n * 64 ≤ 140737488355328 ∧ ∀ k (hk : k < xs.length), ∃ b o vb vp, A = some ⟨b, o, none⟩ ∧ h ⟨b, o + k * 4, none⟩ = some (.int .i64 xs[k].author) ∧ h ⟨b, o + k * 4 + 1, none⟩ = some (.int .i64 xs[k].round) ∧ h ⟨b, o + k * 4 + 2, none⟩ = some vb ∧ h ⟨b, o + k * 4 + 3, none⟩ = some vp ∧ RDigs w0.cell? vb xs[k].batches ∧ RDigs w0.cell? vp xs[k].parents := by
  obtain ⟨A', c', e, h1, _, h2, _, h3⟩ := hr
  injection e with e1 e2 e3
  subst e1 e2 e3
  refine ⟨rfl, h1, h2, fun k hk => ?_⟩
  obtain ⟨b, o, ea, hc⟩ := h3 (by omega)
  obtain ⟨cs, hl, hcell, vb, vp, rfl, q1, q2⟩ := hc k hk
  exact ⟨b, o, vb, vp, ea, hcell 0 (by omega), hcell 1 (by omega), hcell 2 (by omega), hcell 3 (by omega), q1, q2⟩
end Go.Proofs.YtbcoecmeoemmeaaGreatDoor

namespace Go.Proofs.YtbcoecmeoemmeaaGreatDoor
open Go.ChangeShapes Go.WideShapes Go.ChangeAt Go.RowKit
set_option linter.unusedVariables false
set_option linter.unusedSimpArgs false
def DocY (l : List Crt) (k : List UInt8) (ys : List Nat) : Prop := ∃ ws : List Bool, Want l (dsOf hD l) (plc (dsOf hD l) k) ws 0 ∧ ys = docH l ws (hdrAt l (plc (dsOf hD l) k)).round.toNat
theorem xsOf_hdr (l : List Crt) (ys : List Nat) : xsOf l ys = (ys.map (hdrAt l)).flatMap Hdr.batches := by
  unfold xsOf
  rw [List.flatMap_map]
  have : batsAt l = fun i => (hdrAt l i).batches := by
    funext i
    unfold batsAt hdrAt
    cases l[i]? <;> rfl
  rw [this]
theorem batAt_at {bs : List Bat} {x : List UInt8} {i : Nat} (hi : i < bs.length) (h : placeI (bs.map bD) x = (i : Int)) : batAt bs x = some bs[i] := by
  unfold batAt
  rw [h, if_pos (by omega)]
  simp [hi]
theorem batAt_neg {bs : List Bat} {x : List UInt8} (h : placeI (bs.map bD) x = -1) : batAt bs x = none := by
  unfold batAt
  rw [h]
  rfl
theorem any_take_succ {o : List ByteArray} {n : Nat} (hn : n < o.length) (f : ByteArray → Bool) : (o.take (n + 1)).any f = ((o.take n).any f || f o[n]) := by
  rw [List.take_succ_eq_append_getElem hn, List.any_append]
  simp
set_option maxHeartbeats 4000000 in
set_option maxRecDepth 100000 in
theorem blockOf_any (vl vb vk : Value) (l : List Crt) (bs : List Bat) (k : List UInt8) (w : World) (hl : RCrts w.cell? vl l) (hb : RBats w.cell? vb bs) (hk : RBytes w.cell? vk k) :
    Calls Tryz.prog 15 #[.agg #[vl], vb, vk] w fun e w' => ∃ v E, e = .returned (.tuple #[v, .int .i64 E]) ∧ BlkO (DocY l k) l bs k E w w' v := by
  obtain ⟨A, c, rfl, hform⟩ := id hl
  obtain ⟨B, d, rfl, hform1⟩ := id hb
  obtain ⟨kA, kc, rfl, hform2⟩ := id hk
  clear hform hform1 hform2
  obtain ⟨-, hbn1, hbn2, hbel⟩ := RBats.at hb
  have Hbel := Lib.hid hbel
  clear hbel
  obtain ⟨E, hE⟩ : ∃ E, Hid (foundE l k = E) := ⟨_, rfl⟩
  obtain ⟨F, hFz⟩ : ∃ F, Hid (batsF bs = F) := ⟨_, rfl⟩
  go_enter Tryz.func15, Tryz.ntmps15
  go_upto_region 1 with fail
  refine one_block _ _ _ (fun W => Code.wp _ _ _ _ W) (fun W hkd hsz hbW => ?_)
  have hzW := hbW.size
  have g0 := hkd.cell 0
  simp at g0
  clear hsz
  go_wp2_with fail
  refine (foundIn_any _ _ l k _ (hl.mono RCrt.mono (vle_below hbW)) (hk.mono (vle_below hbW))).mono ?_
  rintro e w1 ⟨cs, rfl, hb1, ub, up, uv, rfl, rb, rp, rv⟩
  rw [hE.out]
  have hbl1 := hbW.trans (hb1.mono hzW)
  have hkd1 := hkd.kept hb1
  have hz1 := hbl1.size
  obtain ⟨bA, bc, rfl, f1⟩ := id rb
  obtain ⟨pA, pc, rfl, f2⟩ := id rp
  obtain ⟨vA, vc, rfl, f3⟩ := id rv
  clear f1 f2 f3 g0 rb rp rv
  generalize foundC l k = fc at *
  generalize fc.hdr.author = n1
  generalize fc.hdr.round = n2
  generalize fc.hdr.batches.length = n3
  generalize fc.hdr.parents.length = n4
  generalize fc.voters.length = n5
  go_upto_region 2 with fail
  refine one_block _ _ _ (fun W => Code.wp _ _ _ _ W) (fun W2 hX hsX hbX => ?_)
  have hbl2 := hbl1.trans (hbX.mono hz1)
  have hkd2 := hkd1.kept hbX
  have hz2 := hbl2.size
  clear hX hsX hkd1
  by_cases hE0 : E = 0
  rotate_left
  · go_wp2
    go_ret2
    exact ⟨_, E, rfl, hbl2, [], RTexts.nil _, .inl ⟨by rw [hE.out]; exact hE0, hE.out.symm, rfl⟩⟩
  subst hE0
  go_wp2_with fail
  refine (batchesFault_any _ bs _ (hb.mono (RBat.mono) (vle_below hbl2))).mono ?_
  rintro e w3 ⟨rfl, hb3⟩
  rw [hFz.out]
  have hbl3 := hbl2.trans (hb3.mono hz2)
  have hkd3 := hkd2.kept hb3
  have hz3 := hbl3.size
  clear hkd2
  by_cases hF0 : F = 0
  rotate_left
  · go_wp2
    go_ret2
    exact ⟨_, F, rfl, hbl3, [], RTexts.nil _, .inr (.inl ⟨hE.out, by rw [hFz.out]; exact hF0, hFz.out.symm, rfl⟩)⟩
  subst hF0
  obtain ⟨hb8, hbv, hbd⟩ := bats_ok hFz.out
  have Hbv := Lib.hid hbv
  clear hbv hbd
  go_upto_block 0 with fail
  go_cut [10, 11, 12] (fun v _ _ w' => OwnSl 1 (RFrom w3.heap.size RDig) 41 w' w3.heap.size v (bs.map bD) ∧ Below w3.heap.size w3 w')
  case first =>
    go_wp2_with fail
    go_loopw [10, 11, 12] (fun v i _ wr => ∃ j : Nat, j ≤ bs.length ∧ i = .int .i64 j ∧ OwnSl 1 (RFrom w3.heap.size RDig) 41 wr w3.heap.size v ((bs.take j).map bD) ∧ Below w3.heap.size w3 wr) (fun _ i _ _ => bs.length - (intOf i).toNat)
    case atStart => exact ⟨0, Nat.zero_le _, rfl, OwnSl.nil _ _ _ _ _, Below.refl _ _⟩
    case round =>
      obtain ⟨j, hj, rfl, hown, hbl⟩ := hrel
      have hzr := hbl.size
      by_cases hlt : j < bs.length
      · have hltI : (j : Int) < bs.length := by omega
        obtain ⟨b0, o0, tv, hB, q0, q1, q2, rt, hs⟩ := Hbel.out j hlt
        subst hB
        have hbw := hbl3.trans (hbl.mono hz3)
        have q := vle_below hbw
        have c0 := q _ _ q0; have c1 := q _ _ q1; have c2 := q _ _ q2
        have rt' := rt.mono q
        have H3 := Lib.hid (batchF_zero (show batchF bs[j].author bs[j].number bs[j].txs = 0 from Hbv.out j hlt))
        have Hn := Lib.hid (show (bs.take (j + 1)).map bD = (bs.take j).map bD ++ [bD bs[j]] by rw [List.take_succ_eq_append_getElem hlt, List.map_append]; rfl)
        have Hlk := Lib.hid (show ((bs.take j).map bD).length ≤ 800 by simp; omega)
        obtain ⟨tA, tc, rfl, tf⟩ := id rt
        clear q0 q1 q2 rt tf
        generalize (bs.take j).map bD = L at hown Hn Hlk
        generalize bs[j] = x at *
        go_wp2_with fail
        refine (batchDigestR_any _ _ _ x.txs _ (by have := H3.out; omega) (by have := H3.out; omega) rt' (by have := H3.out; omega)).mono ?_
        rintro e w4 ⟨d4, rfl, hb4, hr⟩
        have hr : RBytes (View.from w4.cell? wr.heap.size) d4 (bD x) := hr
        have hown4 := hown.kept (RFrom.mono RDig.mono) hb4
        have hbl4 := hbl.trans (hb4.mono hzr)
        have hz4 := hbl4.size
        obtain ⟨lA, lc, hLf⟩ := hown.form
        subst hLf
        have hR : RFrom w3.heap.size RDig (View.but w4.cell? (Value.slice lA L.length lc).ownBlock) [d4] (bD x) :=
          ⟨d4, rfl, hr.mono (from_from_but hzr (fun g hg => (hown.lt g hg).2))⟩
        obtain ⟨A', c', rfl, hform⟩ := id hr
        clear hform c0 c1 c2 rt' hr hown
        go_wp2_with (at_builtin; go_loud (refine wpList_append_sl1 (n := 140737488355328) (RFrom.mono RDig.mono) (bD x) [.slice A' (bD x).length c'] elemDig _ _ rfl rfl rfl hown4 hbl4 hz4 rfl rfl rfl rfl hR (Nat.le_refl _) (by have := Hlk.out; omega) (by have := Hlk.out; omega) ?_))
        intro v' w5 ho hbl5 _
        rw [← Hn.out] at ho
        clear hown4 hR
        go_wp2
        go_roundw
        case rel => exact ⟨j + 1, by omega, by go_num, ho, hbl5⟩
        case measure => simp [intOf] <;> omega
      · have hjl : j = bs.length := by omega
        subst hjl
        rw [List.take_length] at hown
        have hltI : ¬ (bs.length : Int) < bs.length := by omega
        go_wp2
        go_meet
        exact ⟨hown, hbl⟩
  case rest =>
    obtain ⟨hown, hbl⟩ := hcut
    have hkdc := hkd3.kept (hbl.mono (Nat.le_refl _))
    have hblc := hbl3.trans (hbl.mono hz3)
    have hzc := hblc.size
    have rD := RDigs.of_own hown (by simp; omega)
    obtain ⟨ln, hln⟩ : ∃ ln, Hid ((bs.map bD).length = ln) := ⟨_, rfl⟩
    obtain ⟨dA, dc, hvf⟩ := hown.form
    rw [hln.out] at hvf
    subst hvf
    clear hown
    obtain ⟨hdag, hpl⟩ := found_zero hE.out
    obtain ⟨hL, hA, h4, hv⟩ := dag_lone hdag
    have hgd := dag_good hdag
    have hkl : plc (dsOf hD l) k < l.length := by have := place_lt hpl; rwa [dsOf_len] at this
    have Hall := Lib.hid (And.intro hgd (And.intro hv (And.intro hpl hkl)))
    clear hgd hv hpl hkl hL hA hdag
    obtain ⟨w4, hw4⟩ : ∃ w4 : World, w4 = wc := ⟨_, rfl⟩
    subst hw4
    have g0 := hkdc.cell 0
    simp at g0
    go_wp2_with fail
    refine (historyOf_any _ _ l k w4 (hl.mono RCrt.mono (vle_below hblc)) (hk.mono (vle_below hblc)) Hall.out.1 Hall.out.2.1 h4 Hall.out.2.2.1 Hall.out.2.2.2).mono ?_
    rintro e w5 ⟨vh, rfl, hb5, ws, hw, hr⟩
    have hbl5 := hblc.trans (hb5.mono hzc)
    have hz5 := hbl5.size
    have HI : Hid (DocY l k (docH l ws (hdrAt l (plc (dsOf hD l) k)).round.toNat)) := ⟨ws, hw, rfl⟩
    have hdl := docH_len l ws (hdrAt l (plc (dsOf hD l) k)).round.toNat
    have hvalid : Hid (∀ h ∈ (docH l ws (hdrAt l (plc (dsOf hD l) k)).round.toNat).map (hdrAt l), hF h = 0) := fun h hh => by
      obtain ⟨i, hi, rfl⟩ := List.mem_map.1 hh
      have hil : i < l.length := by
        unfold docH rowH at hi
        obtain ⟨r, _, hm⟩ := List.mem_flatMap.1 hi
        obtain ⟨n, _, hp⟩ := List.mem_filterMap.1 hm
        obtain ⟨c, hc, _⟩ := pickH_some hp
        exact (List.getElem?_eq_some_iff.1 hc).1
      have : hdrAt l i = l[i].hdr := by unfold hdrAt; simp [hil]
      rw [this]
      exact Hall.out.2.1 _ (List.getElem_mem hil)
    have hxs := Lib.hid (xsOf_hdr l (docH l ws (hdrAt l (plc (dsOf hD l) k)).round.toNat))
    have hHl : ((docH l ws (hdrAt l (plc (dsOf hD l) k)).round.toNat).map (hdrAt l)).length ≤ 400 := by rw [List.length_map]; omega
    clear hw g0 hdl
    generalize (docH l ws (hdrAt l (plc (dsOf hD l) k)).round.toNat).map (hdrAt l) = Hs at *
    generalize docH l ws (hdrAt l (plc (dsOf hD l) k)).round.toNat = ys at *
    obtain ⟨hA', hc', rfl, hf⟩ := id hr
    obtain ⟨-, hn1, -, hel⟩ := hdr_at hr
    have Hel := Lib.hid hel
    have rD5 := rD.mono RDig.mono (vle_below hb5)
    clear hf hel hr rD
    go_wp2_with fail
    go_loopw [14, 15, 16, 17, 18, 19, 20] (fun v i _ _ _ _ _ wr => ∃ (j : Nat) (o : List ByteArray), j ≤ Hs.length ∧ i = .int .i64 j ∧ Hid (blkR bs ((Hs.take j).flatMap Hdr.batches) = some o) ∧ OwnS wr w5.heap.size v o ∧ o.length ≤ 12 * j ∧ Below w5.heap.size w5 wr) (fun _ i _ _ _ _ _ _ => Hs.length - (intOf i).toNat)
    case atStart => exact ⟨0, [], Nat.zero_le _, rfl, rfl, OwnVec.nil _ _ _ _, Nat.zero_le _, Below.refl _ _⟩
    case round =>
      obtain ⟨j, o, hj, rfl, hblk, hown, hol, hbl⟩ := hrel
      have hzr := hbl.size
      by_cases hlt : j < Hs.length
      · have hltI : (j : Int) < Hs.length := by omega
        obtain ⟨b0, o0, ub', up', hA0, q0, q1, q2, q3, sb, sp⟩ := Hel.out j hlt
        subst hA0
        have c2 := vle_below hbl _ _ q2
        have hfew : Hs[j].batches.length ≤ 3 := head_bats (hvalid.out _ (List.getElem_mem hlt))
        obtain ⟨sA, sc, rfl, sf⟩ := id sb
        obtain ⟨-, hsn, -, hsel⟩ := RDigs.at sb
        have Hsel := Lib.hid hsel
        have hnext : Hid ((Hs.take (j + 1)).flatMap Hdr.batches = (Hs.take j).flatMap Hdr.batches ++ Hs[j].batches) := by
          show _ = _
          rw [List.take_succ_eq_append_getElem hlt, List.flatMap_append]
          simp
        have hall : Hid (∃ rest, Hs.flatMap Hdr.batches = (Hs.take j).flatMap Hdr.batches ++ (Hs[j].batches ++ rest)) := by
          refine ⟨(Hs.drop (j + 1)).flatMap Hdr.batches, ?_⟩
          rw [← List.append_assoc, ← hnext.out, ← List.flatMap_append, List.take_append_drop]
        clear q0 q1 q3 sf hsel sb sp
        generalize Hs[j].batches = Bs at *
        go_wp2_with fail
        obtain ⟨wo, hwo⟩ : ∃ wo : World, wo = wr := ⟨_, rfl⟩
        subst hwo
        go_loopw [14, 16, 17, 18, 19, 20] (fun v i _ _ _ _ wr => ∃ (m : Nat) (o : List ByteArray), m ≤ Bs.length ∧ i = .int .i64 m ∧ Hid (blkR bs ((Hs.take j).flatMap Hdr.batches ++ Bs.take m) = some o) ∧ OwnS wr w5.heap.size v o ∧ o.length ≤ 12 * j + 4 * m ∧ Below w5.heap.size w5 wr) (fun _ i _ _ _ _ _ => Bs.length - (intOf i).toNat)
        case atStart => exact ⟨0, o, Nat.zero_le _, rfl, by simpa using hblk, hown, by omega, hbl⟩
        case round =>
          clear hblk hown hol hbl hzr c2
          obtain ⟨m, o, hm, rfl, hblk, hown, hol, hbl⟩ := hrel
          have hzr := hbl.size
          have c2 := vle_below hbl _ _ q2
          by_cases hmlt : m < Bs.length
          · have hmltI : (m : Int) < Bs.length := by omega
            obtain ⟨b3, o3, d3, hS3, s0, r0⟩ := Hsel.out m hmlt
            subst hS3
            have hbw4 : Below w4.heap.size w4 wr := hb5.trans (hbl.mono hb5.size)
            have s0' := vle_below hbw4 _ _ s0
            have r0' := r0.mono (vle_below hbw4)
            have rD' := rD5.mono RDig.mono (vle_below hbl)
            have hfail : Hid (batAt bs Bs[m] = none → blkR bs (Hs.flatMap Hdr.batches) = none) := fun hx => by
              obtain ⟨rest, hrest⟩ := hall.out
              have h1 := blkR_fail (ys := Bs.drop (m + 1) ++ rest) hblk.out hx
              rw [← h1, hrest]
              congr 1
              rw [List.append_assoc]
              congr 1
              rw [← List.cons_append, ← List.drop_eq_getElem_cons hmlt, ← List.append_assoc, List.take_append_drop]
            have hnx : Hid (∀ b, batAt bs Bs[m] = some b → blkR bs ((Hs.take j).flatMap Hdr.batches ++ Bs.take (m + 1)) = some (addTs o b.txs)) := fun b hx => by
              have h1 := blkR_next hblk.out hx
              rw [← h1, List.take_succ_eq_append_getElem hmlt, List.append_assoc]
            obtain ⟨xA, xc, rfl, hfd⟩ := id r0'
            clear hfd r0 s0
            generalize Bs[m] = X at *
            go_wp2_with fail
            refine (placeOf_any _ (bs.map bD) _ X _ rD' r0').mono ?_
            rintro e w6 ⟨rfl, hb6⟩
            have hbl6 := hbl.trans (hb6.mono hzr)
            have hown6 := hown.kept hb6
            have hz6 := hbl6.size
            clear hown r0' rD' s0' c2 hbw4
            rcases idxI_cases (· == X) (bs.map bD) with ⟨p1, -⟩ | ⟨i, hi, p1, -, -⟩
            · rw [show placeI (bs.map bD) X = -1 from p1]
              have hf := Lib.hid (hfail.out (batAt_neg p1))
              clear hfail hnx p1 hall hnext hown6
              go_wp2
              go_ret2
              exact ⟨_, 8, rfl, hbl5.trans (hbl6.mono hz5), [], RTexts.nil _, .inr (.inr ⟨hE.out, hFz.out, ys, HI.out, .inl ⟨by rw [hxs.out]; exact hf.out, rfl, rfl⟩⟩)⟩
            · have hi' : i < bs.length := by simpa using hi
              rw [show placeI (bs.map bD) X = (i : Int) from p1]
              have hnb := Lib.hid (hnx.out _ (batAt_at hi' p1))
              obtain ⟨b4, o4, tv, hB4, t0, t1, t2, rt, hts⟩ := Hbel.out i hi'
              subst hB4
              have ht4 : bs[i].txs.length ≤ 4 := (bat_txs (show batchF bs[i].author bs[i].number bs[i].txs = 0 from Hbv.out i hi')).2
              obtain ⟨tA, tc, rfl, tl, tel⟩ := RTexts.form rt
              have htc : bs[i].txs.length ≤ tc := by obtain ⟨_, _, e, h, _⟩ := rt; injection e with _ _ e3; rw [e3]; exact h
              have Htel := Lib.hid tel
              clear hfail hnx p1 rt tel hts t0 t1 hi
              generalize bs[i].txs = ts at *
              have hiI : (i : Int) < bs.length := by omega
              go_wp2_with fail
              obtain ⟨wq, hwq⟩ : ∃ wq : World, wq = w6 := ⟨_, rfl⟩
              subst hwq
              go_loopw [14, 18, 19, 20] (fun v i _ _ wr => ∃ p : Nat, p ≤ ts.length ∧ i = .int .i64 p ∧ OwnS wr w5.heap.size v (addTs o (ts.take p)) ∧ Below w5.heap.size w5 wr) (fun _ i _ _ _ => ts.length - (intOf i).toNat)
              case atStart => exact ⟨0, Nat.zero_le _, rfl, hown6, hbl6⟩
              case round =>
                clear hown6 hbl6 hz6 hb6 hbl hzr
                obtain ⟨p, hp, rfl, hown, hbl⟩ := hrel
                have hzr := hbl.size
                have t2' := vle_below (hbl5.trans (hbl.mono hz5)) _ _ t2
                by_cases hplt : p < ts.length
                · have hpltI : (p : Int) < ts.length := by omega
                  obtain ⟨b5, o5, hA5, u0⟩ := Htel.out p hplt
                  subst hA5
                  have u0' := vle_below (hbl5.trans (hbl.mono hz5)) _ _ u0
                  have hstp := Lib.hid (addTs_succ (o := o) hplt)
                  have hO4 : (addTs o (ts.take p)).length ≤ o.length + 4 := by
                    have h1 := addTs_len o (ts.take p)
                    have h2 : (ts.take p).length ≤ ts.length := by rw [List.length_take]; exact Nat.min_le_right _ _
                    omega
                  clear u0
                  generalize ts[p] = U at *
                  generalize addTs o (ts.take p) = O at *
                  have hr := hown.reads (bs := 16) (by omega)
                  obtain ⟨oA, oc, rfl, -, oel⟩ := RTexts.form hr
                  have Hoel := Lib.hid oel
                  have hoc : O.length ≤ oc := by obtain ⟨_, _, e, h, _⟩ := hr; injection e with _ _ e3; rw [e3]; exact h
                  clear oel hr
                  go_wp2_with fail
                  obtain ⟨wz, hwz⟩ : ∃ wz : World, wz = wr := ⟨_, rfl⟩
                  subst hwz
                  go_loopw [19, 20] (fun th i wr => ∃ n : Nat, n ≤ O.length ∧ i = .int .i64 n ∧ th = .bool ((O.take n).any fun s => s.data.toList == U.data.toList) ∧ Below wz.heap.size wz wr) (fun _ i _ => O.length - (intOf i).toNat)
                  case atStart => exact ⟨0, Nat.zero_le _, rfl, rfl, Below.refl _ _⟩
                  case round =>
                    obtain ⟨n, hn, rfl, hth, hbz⟩ := hrel
                    by_cases hnlt : n < O.length
                    · have hnltI : (n : Int) < O.length := by omega
                      obtain ⟨b6, o6, hA6, x0⟩ := Hoel.out n hnlt
                      subst hA6
                      have x0' := vle_below hbz _ _ x0
                      have u1 := vle_below hbz _ _ u0'
                      have t3 := vle_below hbz _ _ t2'
                      have hst := Lib.hid (any_take_succ hnlt fun s => s.data.toList == U.data.toList)
                      obtain ⟨HB, hHB⟩ : ∃ z, ((O.take n).any fun s => s.data.toList == U.data.toList) = z := ⟨_, rfl⟩
                      rw [hHB] at hth hst
                      subst hth
                      clear hHB x0 u0' t2'
                      cases HB
                      · cases he : (O[n].toList == U.toList)
                        · have hz : Hid (((O.take (n + 1)).any fun s => s.data.toList == U.data.toList) = false) := by
                            show _ = _
                            rw [hst.out, ← ByteArray.toList_eq, ← ByteArray.toList_eq, he]
                            rfl
                          clear hst
                          generalize O[n] = On at *
                          go_wp2
                          refine wp_region_plan (fun w' => Below wr.heap.size wr w') [(0, true), (1, true), (2, true), (3, true), (4, true), (5, true), (6, true), (7, true), (8, true), (9, true), (10, true), (11, true), (12, true), (13, true), (14, true), (15, true), (16, true)] (by kernel_rfl) (by kernel_rfl) (fun _ _ d _ _ h => by cases d <;> exact h) rfl (by kernel_rfl) ?_ ?_
                          · exact below_drew _
                          intro W1 hS
                          repeat (first
                            | (refine wpPlan_takes rfl rfl ?_; apply Exists.intro; refine ⟨fun w' hS => ?_, ?_⟩; (· (have h1 := vle_below hS _ _ x0'; have h2 := vle_below hS _ _ u1; have h3 := vle_below hS _ _ t3; go_simp; exact rfl)); simp only [List.getElem_toArray, List.getElem_cons_zero, List.getElem_cons_succ, Act.put, List.setIfInBounds_toArray, List.set_cons_zero, List.set_cons_succ])
                            | (refine wpPlan_skip (by assumption) rfl rfl ?_; simp only [List.getElem_toArray, List.getElem_cons_zero, List.getElem_cons_succ, Act.put, List.setIfInBounds_toArray, List.set_cons_zero, List.set_cons_succ]))
                          refine wpPlan_nil ?_
                          go_wp2
                          go_roundw
                          case rel => exact ⟨n + 1, by omega, by go_num, by rw [hz.out], hbz.trans (hS.mono hbz.size)⟩
                          case measure => simp [intOf] <;> omega
                        · have hz : Hid (((O.take (n + 1)).any fun s => s.data.toList == U.data.toList) = true) := by
                            show _ = _
                            rw [hst.out, ← ByteArray.toList_eq, ← ByteArray.toList_eq, he]
                            rfl
                          clear hst
                          generalize O[n] = On at *
                          go_wp2
                          refine wp_region_plan (fun w' => Below wr.heap.size wr w') [(0, true), (1, true), (2, true), (3, true), (4, true), (5, true), (6, true), (7, true), (8, true), (9, true), (10, true), (11, true), (12, true), (13, true), (14, true), (15, true), (16, true)] (by kernel_rfl) (by kernel_rfl) (fun _ _ d _ _ h => by cases d <;> exact h) rfl (by kernel_rfl) ?_ ?_
                          · exact below_drew _
                          intro W1 hS
                          repeat (first
                            | (refine wpPlan_takes rfl rfl ?_; apply Exists.intro; refine ⟨fun w' hS => ?_, ?_⟩; (· (have h1 := vle_below hS _ _ x0'; have h2 := vle_below hS _ _ u1; have h3 := vle_below hS _ _ t3; go_simp; exact rfl)); simp only [List.getElem_toArray, List.getElem_cons_zero, List.getElem_cons_succ, Act.put, List.setIfInBounds_toArray, List.set_cons_zero, List.set_cons_succ])
                            | (refine wpPlan_skip (by assumption) rfl rfl ?_; simp only [List.getElem_toArray, List.getElem_cons_zero, List.getElem_cons_succ, Act.put, List.setIfInBounds_toArray, List.set_cons_zero, List.set_cons_succ]))
                          refine wpPlan_nil ?_
                          go_wp2
                          go_roundw
                          case rel => exact ⟨n + 1, by omega, by go_num, by rw [hz.out], hbz.trans (hS.mono hbz.size)⟩
                          case measure => simp [intOf] <;> omega
                      · have hz : Hid (((O.take (n + 1)).any fun s => s.data.toList == U.data.toList) = true) := by
                          show _ = _
                          rw [hst.out]
                          rfl
                        clear hst
                        generalize O[n] = On at *
                        go_wp2
                        refine wp_region_plan (fun w' => Below wr.heap.size wr w') [(0, true), (1, true), (2, true), (3, true), (4, true), (5, true), (6, true), (7, true), (8, true), (9, true), (10, true), (11, true), (12, true), (13, true), (14, true), (15, true), (16, true)] (by kernel_rfl) (by kernel_rfl) (fun _ _ d _ _ h => by cases d <;> exact h) rfl (by kernel_rfl) ?_ ?_
                        · exact below_drew _
                        intro W1 hS
                        repeat (first
                          | (refine wpPlan_takes rfl rfl ?_; apply Exists.intro; refine ⟨fun w' hS => ?_, ?_⟩; (· (have h1 := vle_below hS _ _ x0'; have h2 := vle_below hS _ _ u1; have h3 := vle_below hS _ _ t3; go_simp; exact rfl)); simp only [List.getElem_toArray, List.getElem_cons_zero, List.getElem_cons_succ, Act.put, List.setIfInBounds_toArray, List.set_cons_zero, List.set_cons_succ])
                          | (refine wpPlan_skip (by assumption) rfl rfl ?_; simp only [List.getElem_toArray, List.getElem_cons_zero, List.getElem_cons_succ, Act.put, List.setIfInBounds_toArray, List.set_cons_zero, List.set_cons_succ]))
                        refine wpPlan_nil ?_
                        go_wp2
                        go_roundw
                        case rel => exact ⟨n + 1, by omega, by go_num, by rw [hz.out], hbz.trans (hS.mono hbz.size)⟩
                        case measure => simp [intOf] <;> omega
                    · have hnl : n = O.length := by omega
                      subst hnl
                      rw [List.take_length] at hth
                      have hnltI : ¬ (O.length : Int) < O.length := by omega
                      have hblz := hbl.trans (hbz.mono hzr)
                      have hownz := hown.kept hbz
                      have hzz := hblz.size
                      have u1 := vle_below hbz _ _ u0'
                      have t3 := vle_below hbz _ _ t2'
                      obtain ⟨HB, hHB⟩ : ∃ z, (O.any fun s => s.data.toList == U.data.toList) = z := ⟨_, rfl⟩
                      rw [hHB] at hth
                      subst hth
                      clear u0' t2' hown
                      cases HB
                      · have hO1 : Hid (addTs o (ts.take (p + 1)) = O ++ [U]) := by
                          show _ = _
                          rw [hstp.out]
                          unfold addT
                          rw [if_neg (by rw [hHB]; simp)]
                        clear hstp hHB
                        go_wp2_with (at_builtin; refine wpList_append_vec1 (n := 140737488355328) U elemStr encS_one _ _ rfl rfl rfl hownz hblz hzz rfl (Nat.le_refl _) (by omega) (by omega) ?_)
                        intro v9 w9 ho9 hb9 _
                        rw [← hO1.out] at ho9
                        clear hownz hO1
                        go_wp2
                        go_roundw
                        case rel => exact ⟨p + 1, by omega, by go_num, ho9, hb9⟩
                        case measure => simp [intOf] <;> omega
                      · have hO1 : Hid (addTs o (ts.take (p + 1)) = O) := by
                          show _ = _
                          rw [hstp.out]
                          unfold addT
                          rw [if_pos hHB]
                        have hownz : OwnS wr w5.heap.size (.slice oA O.length oc) (addTs o (ts.take (p + 1))) := by rw [hO1.out]; exact hownz
                        clear hstp hHB hO1
                        go_wp2
                        go_roundw
                        case rel => exact ⟨p + 1, by omega, by go_num, hownz, hblz⟩
                        case measure => simp [intOf] <;> omega
                · have hpl' : p = ts.length := by omega
                  subst hpl'
                  rw [List.take_length] at hown
                  have hol2 := addTs_len o ts
                  have hpltI : ¬ (ts.length : Int) < ts.length := by omega
                  go_wp2
                  go_roundw
                  case rel => exact ⟨m + 1, _, by omega, by go_num, hnb, hown, by omega, hbl⟩
                  case measure => simp [intOf] <;> omega
          · have hml : m = Bs.length := by omega
            subst hml
            rw [List.take_length, ← hnext.out] at hblk
            have hmltI : ¬ (Bs.length : Int) < Bs.length := by omega
            go_wp2
            go_roundw
            case rel => exact ⟨j + 1, o, by omega, by go_num, hblk, hown, by omega, hbl⟩
            case measure => simp [intOf] <;> omega
      · have hjl : j = Hs.length := by omega
        subst hjl
        rw [List.take_length] at hblk
        have hltI : ¬ (Hs.length : Int) < Hs.length := by omega
        have hr := hown.reads (bs := 16) (by omega)
        obtain ⟨oA, oc, rfl⟩ := hown.form
        clear hown
        go_wp2
        go_ret2
        exact ⟨_, 0, rfl, hbl5.trans (hbl.mono hz5), o, hr, .inr (.inr ⟨hE.out, hFz.out, ys, HI.out, .inr ⟨by rw [hxs.out]; exact hblk.out, rfl⟩⟩)⟩
end Go.Proofs.YtbcoecmeoemmeaaGreatDoor

namespace Go.Proofs.YtbcoecmeoemmeaaGreatDoor
open Go.ChangeShapes Go.WideShapes Go.ChangeAt Go.RowKit
set_option linter.unusedVariables false
theorem open_int {P : Program} {H : Type} {enc : TypeId × Value → H} {W : World} {t : TypeId} {k : IntKind} {base : Nat} {v : Value} {d : DataW H} {p : List MemPlace} (ht : P.underlying t = some (.int k)) (hval : Value.okWide P W .any base t v)
    (h : DataW.Trod enc P W 0 (fun _ => true) true t v d p) (hw : ∀ n ∈ DataW.weights P t d, n ≤ reachBytes) : ∃ n, v = .int k n ∧ (Lit.int k n).wf = true := by
  obtain ⟨fuel, h⟩ := h
  obtain ⟨n, hc, hwf⟩ := opens_int ht H enc W fuel _ _ h hw
  obtain ⟨m, rfl⟩ := okWide_int ht hval
  obtain rfl : m = n := by simpa [Value.cells] using hc
  exact ⟨m, rfl, hwf⟩
theorem open_str {P : Program} {H : Type} {enc : TypeId × Value → H} {W : World} {t : TypeId} {base : Nat} {v : Value} {d : DataW H} {p : List MemPlace} (ht : P.underlying t = some .string) (hval : Value.okWide P W .any base t v)
    (h : DataW.Trod enc P W 0 (fun _ => true) true t v d p) (hw : ∀ n ∈ DataW.weights P t d, n ≤ reachBytes) : ∃ s, v = .string s ∧ s.size ≤ 140737488355328 := by
  obtain ⟨fuel, h⟩ := h
  obtain ⟨n, hc, hwf⟩ := opens_str ht H enc W fuel _ _ h hw
  obtain ⟨m, rfl⟩ := okWide_string ht hval
  obtain rfl : m = n := by simpa [Value.cells] using hc
  exact ⟨m, rfl, reach_le hwf⟩
end Go.Proofs.YtbcoecmeoemmeaaGreatDoor
