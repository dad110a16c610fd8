/- The law OrderHistories: order.History answers what the document says, at every argument: no condition; its card: the tables tied to the text of the program. -/
import Derived.Test.YtedealljhmokoaaDoorOpenCert
import Derived.Test.YtedealljhmokoaaDoorCopy
import Derived.WalkSpells
import Derived.Test.YtedealljhmokoaaDoorCert
import Derived.Test.YtedealljhmokoaaDoorDig2
import Derived.Shelf.Abstract
import Derived.Shelf.SlSortCmp.WholeK
import Derived.Shelf.SlSortCmp.Whole1
import Derived.Test.YtedealljhmokoaaDoorProg
import Derived.Shelf.SlSortCmp.NoneTotal
import Derived.Test.YtedealljhmokoaaDoorSame
import Derived.Test.YtedealljhmokoaaDoorPlan4
import Derived.Test.YtedealljhmokoaaDoorBatch
import Derived.Test.YtedealljhmokoaaDoorOpenBat
import Derived.Test.YtedealljhmokoaaDoorChg2
import Derived.Test.YtedealljhmokoaaDoorHead2
import Derived.Deep.DeepCutAuto
import Derived.Deep.CutBlock
import Derived.Test.YtedealljhmokoaaDoorStr
import Derived.StringKeys
import Derived.Maps.OwnSet
import Derived.Maps.AppendAt
import Derived.Deep.OwnRows
import Derived.Test.YtedealljhmokoaaDoorOpen2
import Derived.Test.YtedealljhmokoaaDoorLaid
import Derived.Test.YtedealljhmokoaaDoorCards
import Derived.Test.YtedealljhmokoaaDoorTie
import Derived.SevenTiedAt
import Derived.Test.YtedealljhmokoaaDoorHistAllA
namespace Go.Proofs.YtedealljhmokoaaDoor
open Go.ChangeShapes Go.WideShapes Go.ChangeAt Go.RowKit
set_option linter.unusedVariables false
open Go.Maps
set_option linter.unusedSimpArgs false
theorem ownsMap_below2 {w w' : World} {b n : Nat} {D : DataW Unit} {P : Program} {k : TypeId} {R : Value → Option (DataW Unit × List MemPlace)} (h : w.ownsMap P k R b n D) (hb : Below w.heap.size w w') : w'.ownsMap P k R b n D := h.kept (grownBy_below none hb) (by simp)
/-- the walk in its midst: n is what is left at most -/
structure HisRel (w0 : World) (B mb : Nat) (l : List Crt) (ds : List (List UInt8)) (k : Nat) (n : Nat) (v : Value) (wr : World) : Prop where
  rel : ∃ (met : List Nat) (todo : List DV), OwnDV wr B v todo ∧ wr.ownsMap Tryd.prog 3 (unitElem (H := Unit)) mb met.length (setOf (.agg []) (keysI met)) ∧ Dfs l ds k met (todo.map (·.x)) ∧ (∀ d ∈ todo, RBytes w0.cell? (encV d) d.x) ∧ n = 5 * (l.length - met.length) + todo.length ∧ todo.length ≤ 1 + 4 * met.length
  below : Below w0.heap.size w0 wr
  lt : mb < wr.heap.size
theorem OwnVec.ne_map {α : Type} {enc : α → Value} {e : TypeId} {w : World} {b mb n : Nat} {v : Value} {xs : List α} {D : DataW Unit} (h : OwnVec enc e w b v xs) (hm : w.ownsMap Tryd.prog 3 (unitElem (H := Unit)) mb n D) : v.ownBlock ≠ some mb := by
  obtain ⟨es, clock, h1, _⟩ := hm
  rcases h.own.2 with ⟨rfl, _⟩ | ⟨g, cap, cur, rfl, _, h3, _⟩
  · intro e; cases e
  · intro e
    have e : g = mb := by injection e
    subst e
    rw [h1] at h3
    cases h3
theorem OwnVec.keptMap {α : Type} {enc : α → Value} {e : TypeId} {w w' : World} {b mb : Nat} {v : Value} {xs : List α} (h : OwnVec enc e w b v xs) (hg : w.grownBy w' (some mb)) (hne : v.ownBlock ≠ some mb) : OwnVec enc e w' b v xs :=
  ⟨h.own.kept hg (.inr hne)⟩
set_option maxHeartbeats 4000000 in
set_option maxRecDepth 100000 in
theorem history_any (vl vds vk : Value) (l : List Crt) (k : List UInt8) (w : World) (hl : RCrts w.cell? vl l) (hds : RDigs w.cell? vds (dsOf hD l)) (hk : RBytes w.cell? vk k) (hg : GoodD l (dsOf hD l)) (hv : ∀ c ∈ l, hF c.hdr = 0) (h4 : l.length ≤ 400) (hk0 : 0 ≤ placeI (dsOf hD l) k) (hkl : plc (dsOf hD l) k < l.length) :
    Calls Tryd.prog 98 #[.agg #[vl], vds, vk] w fun e w' => ∃ v, e = .returned v ∧ Below w.heap.size w w' ∧ ∃ (met ys : List Nat), RIs w'.cell? v (ys.map fun n : Nat => (n : Int)) ∧ Dfs l (dsOf hD l) (plc (dsOf hD l) k) met [] ∧ ys.Perm ((List.range l.length).filter fun i => decide (i ∈ met)) ∧ ys.Pairwise fun i j => ¬ aheadH l j i := by
  obtain ⟨A, c, rfl, hform⟩ := id hl
  obtain ⟨dA, dc, rfl, hform2⟩ := id hds
  obtain ⟨kA, kc, rfl, hform3⟩ := id hk
  clear hform hform2 hform3
  obtain ⟨_, hcap, hlen, hel⟩ := hl.at
  have Hel := Lib.hid hel
  have Hg := Lib.hid hg
  have Hv := Lib.hid hv
  clear hel hg hv
  have hmm := @run_makeMap Tryd.prog
  obtain ⟨K, hK⟩ : ∃ K, Hid (plc (dsOf hD l) k = K) := ⟨_, rfl⟩
  have hstart := Lib.hid (Dfs.start hk0 hK.out (by rw [← hK.out]; exact hkl))
  rw [hK.out] at hkl ⊢
  have Hk0 := Lib.hid hk0
  have hdl : Hid ((dsOf hD l).length = l.length) := dsOf_len l
  clear hk0
  generalize dsOf hD l = Ds at *
  go_enter Tryd.func98, Tryd.ntmps98
  go_upto_region 1 with fail
  refine one_block _ _ _ (fun W => Code.wp _ _ _ _ W) (fun W hkd hsz hbW => ?_)
  have hzW := hbW.size
  clear hsz
  go_upto_block 0 with fail
  refine one_block (W.alloc _) _ _ (fun W1 => Code.wp _ _ _ _ W1) (fun W1 hS hszS hbS => ?_)
  have hmade : (W.alloc (.map #[] 0)).ownsMap Tryd.prog 3 (unitElem (H := Unit)) W.heap.size 0 (setOf (.agg []) (keysI [])) := World.ownsMap_made _ _ _ _
  have hown1 := ownsMap_below2 hmade hbS
  have hbW1 : Below W.heap.size W W1 := (below_one W _).trans (hbS.mono (by simp))
  have hS' : Blk W1 (W.heap.size + 1) 25 #[.slice kA k.length kc] := by simpa using hS
  have hz1 : W.heap.size + 2 ≤ W1.heap.size := by simp at hszS; omega
  have hkW : RBytes W.cell? (.slice kA k.length kc) k := hk.mono (vle_below hbW)
  have hstk : OwnDV W1 W.heap.size (.slice (some ⟨W.heap.size + 1, 0, none⟩) 1 1) [⟨kA, kc, k⟩] := OwnVec.lit (enc := encV) (xs := [⟨kA, kc, k⟩]) hS' (by omega) rfl (by decide)
  have hdsW := hds.mono RDig.mono (vle_below hbW)
  clear hS hS' hszS hmade hbS
  go_cut [8, 9, 10, 11, 12] (fun _ _ _ _ _ w' => ∃ met : List Nat, w'.ownsMap Tryd.prog 3 (unitElem (H := Unit)) W.heap.size met.length (setOf (.agg []) (keysI met)) ∧ Dfs l Ds K met [] ∧ Below W.heap.size W w' ∧ W.heap.size + 1 ≤ w'.heap.size)
  case first =>
    go_wp2_with fail
    go_loopw [8, 9, 10, 11, 12] (fun v _ _ _ _ wr => ∃ n, HisRel W W.heap.size W.heap.size l Ds K n v wr) (fun v _ _ _ _ wr => least (fun n => HisRel W W.heap.size W.heap.size l Ds K n v wr))
    case atStart => exact ⟨_, ⟨[], [⟨kA, kc, k⟩], hstk, hown1, hstart.out, (fun d hd => by obtain rfl := List.mem_singleton.1 hd; exact hkW), rfl, by simp⟩, hbW1, by omega⟩
    case round =>
      obtain ⟨n, hn⟩ := hrel
      have h0 := (least_spec (p := fun n => HisRel W W.heap.size W.heap.size l Ds K n u8 wr) hn).1
      obtain ⟨N0, hN0⟩ : ∃ N0, Hid (least (fun n => HisRel W W.heap.size W.heap.size l Ds K n u8 wr) = N0) := ⟨_, rfl⟩
      rw [hN0.out] at h0
      obtain ⟨⟨met, todo, hown, hmap, hdfs, hrd, hN, htl⟩, hbl, hmb⟩ := h0
      clear hn
      have hzr := hbl.size
      have hml := hdfs.len
      rcases List.eq_nil_or_concat todo with rfl | ⟨t, x, rfl⟩
      · obtain ⟨tA, tc, rfl⟩ := hown.form
        go_wp2
        go_meet
        exact ⟨met, hmap, hdfs, hbl, by omega⟩
      · rw [List.concat_eq_append] at hown hdfs hrd hN htl
        obtain ⟨tn, htn⟩ : ∃ tn, Hid (t.length = tn) := ⟨_, rfl⟩
        have hlen1 : (t ++ [x]).length = tn + 1 := by rw [← htn.out]; simp
        obtain ⟨tA, tc, rfl⟩ := hown.form
        rw [hlen1] at hown hN htl hN0 ⊢
        have htd := hdfs.td x.x (by simp)
        obtain ⟨P, hP⟩ : ∃ P, Hid (plc Ds x.x = P) := ⟨_, rfl⟩
        have hPI : placeI Ds x.x = (P : Int) := by rw [← hP.out]; unfold plc; omega
        have hPl : P < l.length := by rw [← hP.out]; exact htd.2.1
        have hrx := hrd x (by simp)
        have hpop := hown.pop (x := x) htn.out.symm
        obtain ⟨tg, rfl, htg⟩ : ∃ g, tA = some ⟨g, 0, none⟩ ∧ wr.cell? ⟨g, tn, none⟩ = some (encV x) := by
          rcases hown.own.2 with ⟨e, _⟩ | ⟨g, cap, cur, e, _⟩
          · cases e
          · injection e with e1 _ _
            subst e1
            have h1 := hown.at tn (by rw [hlen1]; omega)
            refine ⟨g, rfl, ?_⟩
            simpa [← htn.out] using h1
        have htc : tn + 1 ≤ tc := by
          rcases hown.own.2 with ⟨e, _⟩ | ⟨g, cap, cur, e, _, _, h4, _⟩
          · cases e
          · injection e with _ _ e3
            subst e3
            rw [hlen1] at h4
            exact h4
        have hne := hpop.ne_map hmap
        obtain ⟨n1, hn1⟩ : ∃ n1, Hid (tn + 1 = n1) := ⟨_, rfl⟩
        have hn1' := hn1.out
        have hz1' : (0 : Int) < (n1 : Int) := by omega
        have hz2 : IntKind.i64.wrap ((n1 : Int) - 1) = tn := by rw [IntKind.wrap_i64]; omega
        have hz3 : (n1 : Int) - 1 = tn := by omega
        have hz4 : (tn : Int) < (n1 : Int) := by omega
        have hz5 : (tn : Int) ≤ (tc : Int) := by omega
        have hz6 : tn ≤ tc := by omega
        rw [hn1.out] at hown hN htl hN0 ⊢
        unfold encV at htg
        clear hn1'
        go_upto_region 5 with fail
        refine one_block _ _ _ (fun W => Code.wp _ _ _ _ W) (fun W2 hX hsX hbX => ?_)
        have hX0 := hX.cell 0
        simp at hX0
        have hbl2 := hbl.trans (hbX.mono hzr)
        have hmap2 := ownsMap_below2 hmap hbX
        have hpop2 := hpop.kept hbX
        have hz22 := hbX.size
        clear hX hsX hown hmap hpop htg
        go_wp2_with fail
        refine (idxDigs_any 125 #[.pointer (some ⟨wr.heap.size, 0, none⟩)] (· == x.x) (enters_of_func Tryd.func125 (by kernel_rfl) rfl) _ Ds _ (hdsW.mono RDig.mono (vle_below hbl2)) (fun W3 y z hW hz => hisFn_any y _ z x.x _ W3 (vle_below hW _ _ hX0) hz (hrx.mono (vle_below (hbl2.trans (hW.mono hbl2.size)))))).mono ?_
        rintro e w3 ⟨rfl, hb3⟩
        rw [show idxI (· == x.x) Ds = (P : Int) from hPI]
        have hbl3 := hbl2.trans (hb3.mono hbl2.size)
        have hmap3 := ownsMap_below2 hmap2 hb3
        have hpop3 := hpop2.kept hb3
        have hz33 := hb3.size
        have hhas := has_keysI met P
        have hkey := key_int (j := P) (by omega)
        obtain ⟨HB, hHB⟩ : ∃ z, decide (P ∈ met) = z := ⟨_, rfl⟩
        rw [hHB] at hhas
        have hHB := Lib.hid hHB
        clear hX0 hmap2 hpop2 hPI
        go_upto_region 8 with (at_lookup; refine wpList_lookup_own_unit _ rfl _ _ 142 rfl 3 89 intKey Tryd.underlying142 (zeroU _) W.heap.size met.length _ rfl hmap3 _ _ rfl hkey ?_)
        refine one_block _ _ _ (fun W => Code.wp _ _ _ _ W) (fun W4 hU hsU hbU => ?_)
        have hbl4 := hbl3.trans (hbU.mono hbl3.size)
        have hmap4 := ownsMap_below2 hmap3 hbU
        have hpop4 := hpop3.kept hbU
        have hz44 := hbU.size
        clear hU hsU hmap3 hpop3
        cases HB
        · have hmem : P ∉ met := by simpa using hHB.out
          go_upto_region 10 with (at_mapUpdate; refine wpList_mapUpdate_own _ rfl _ _ _ 142 rfl 3 89 intKey Tryd.underlying142 (unitElem (H := Unit)) W.heap.size met.length _ rfl hmap4 (by unfold maxLen; omega) _ _ _ rfl rfl hkey _ [] unitElem_mk ?_; intro w5 hmap5 hg5)
          have hbl5 : Below W.heap.size W w5 := below_grownBy hbl4 hbl4.size hg5 (by intro q e; injection e; omega)
          have hpop5 := hpop4.keptMap hg5 hne
          have hz55 := hg5.size
          have hmap5' : w5.ownsMap Tryd.prog 3 (unitElem (H := Unit)) W.heap.size (met ++ [P]).length (setOf (.agg []) (keysI (met ++ [P]))) := by
            unfold keysI at hmap5 ⊢
            rw [List.map_append, List.map_cons, List.map_nil, setOf_snoc, List.length_append]
            exact hmap5
          obtain ⟨b0, o0, vb, vp, vv, rfl, q0, q1, q2, q3, q4, rb, rp, rvv⟩ := Hel.out P hPl
          have hc5 := vle_below (hbW.trans (hbl5.mono hzW))
          have c3 := hc5 _ _ q3
          have g0 := (hkd.kept (hbl5.mono (Nat.le_refl _))).cell 0
          simp at g0
          obtain ⟨vs, hvs, rvs, hvr⟩ := RDigs.rows (rp.mono RDig.mono (vle_below hbW))
          have rvs5 := rvs.mono (vle_below hbl5)
          have hfew : l[P].hdr.parents.length ≤ 4 := Hg.out.few _ (List.getElem_mem hPl)
          have hvl : vs.length ≤ 4 := by rw [← hvs] at hfew; simpa using hfew
          have hgd : Dfs l Ds K (met ++ [P]) ((t ++ vs).map (·.x)) := by
            have h1 : Dfs l Ds K met (t.map (·.x) ++ [x.x]) := by simpa using hdfs
            have h2 := h1.new Hg.out (c := l[P]) (by rw [hP.out]; exact hmem) (by rw [hP.out]; simp [hPl])
            rw [hP.out, ← hvs] at h2
            rw [List.map_append]
            exact h2
          obtain ⟨pA, pc, rfl, hpf⟩ := id rp
          have hpl : l[P].hdr.parents.length = vs.length := by rw [← hvs]; simp
          rw [hpl] at c3 rvs5
          have hvl2 := Lib.hid hvl
          have htlH : Hid (t.length ≤ 1601) := by show _ ≤ _; have := htn.out; have := hn1.out; omega
          have hP' : (P : Int) < (l.length : Int) := by omega
          have hmlt := hgd.len
          clear hpf q0 q1 q2 q3 q4 rb rp rvv hvs hfew hdfs hmap4 hpop4 hmap5 rvs hpl hvl hhas
          go_wp2_with (at_builtin; refine wpList_append_vec (n := 140737488355328) elemDV encV_one _ _ rfl rfl rfl hpop5 hbl5 hbl5.size rfl rvs5 (Nat.le_refl _) (by have := hvl2.out; have := htlH.out; omega) (by have := hvl2.out; have := htlH.out; omega) ?_)
          intro v6 w6 ho6 hbl6 hg6
          have hmap6 : w6.ownsMap Tryd.prog 3 (unitElem (H := Unit)) W.heap.size (met ++ [P]).length (setOf (.agg []) (keysI (met ++ [P]))) := hmap5'.kept hg6 (fun e => hne e.symm)
          have hrel2 : HisRel W W.heap.size W.heap.size l Ds K (5 * (l.length - (met ++ [P]).length) + (t ++ vs).length) v6 w6 := ⟨⟨met ++ [P], t ++ vs, ho6, hmap6, hgd, (fun d hd => by
            rcases List.mem_append.1 hd with h1 | h1
            · exact hrd d (by simp [h1])
            · exact hvr d h1), rfl, by have := htn.out; have := hvl2.out; simp; omega⟩, hbl6, by have := hg6.size; omega⟩
          clear hpop5 rvs5 c3 g0 hgd hrd hvr
          go_wp2
          go_roundw
          case rel => exact ⟨_, hrel2⟩
          case measure =>
            have h3 := (least_spec (p := fun n => HisRel W W.heap.size W.heap.size l Ds K n v6 w6) hrel2).2 _ hrel2
            rw [hN0.out]
            have h5 : (met ++ [P]).length = met.length + 1 := by simp
            have h6 : (t ++ vs).length = t.length + vs.length := by simp
            have := htn.out
            have := hn1.out
            have := hvl2.out
            omega
        · have hmem : P ∈ met := by simpa using hHB.out
          have hd2 : Dfs l Ds K met (t.map (·.x)) := by
            have h1 : Dfs l Ds K met (t.map (·.x) ++ [x.x]) := by simpa using hdfs
            exact h1.skip (by rw [hP.out]; exact hmem)
          have hrel2 : HisRel W W.heap.size W.heap.size l Ds K (5 * (l.length - met.length) + t.length) (.slice (some ⟨tg, 0, none⟩) tn tc) W4 := ⟨⟨met, t, hpop4, hmap4, hd2, fun d hd => hrd d (by simp [hd]), rfl, by have := htn.out; omega⟩, hbl4, by omega⟩
          clear hdfs hd2 hrd hmap4 hpop4
          go_wp2
          go_roundw
          case rel => exact ⟨_, hrel2⟩
          case measure =>
            have h3 := (least_spec (p := fun n => HisRel W W.heap.size W.heap.size l Ds K n (.slice (some ⟨tg, 0, none⟩) tn tc) W4) hrel2).2 _ hrel2
            rw [hN0.out]
            have := htn.out
            have := hn1.out
            omega
  case rest =>
    obtain ⟨met, hmap, hdfs, hbl, hmb⟩ := hcut
    have hzc := hbl.size
    have g0 := (hkd.kept (hbl.mono (Nat.le_refl _))).cell 0
    simp at g0
    have hKm : K ∈ met := hdfs.done.2 .base
    have Hd := Lib.hid hdfs
    have hcd := hkd.cell 0
    simp at hcd
    have hlW := hl.mono RCrt.mono (vle_below hbW)
    have hmk := met.length
    clear hdfs hstart
    go_wp2_with fail
    go_loopw [13, 14, 15, 16, 59] (fun v _ _ _ i wr => ∃ j : Nat, j ≤ l.length ∧ i = .int .i64 j ∧ OwnI wr wc.heap.size v (((List.range j).filter fun i => decide (i ∈ met)).map fun n : Nat => (n : Int)) ∧ Below wc.heap.size wc wr) (fun _ _ _ _ i _ => l.length - (intOf i).toNat)
    case atStart => exact ⟨0, Nat.zero_le _, rfl, OwnVec.nil _ _ _ _, Below.refl _ _⟩
    case round =>
      obtain ⟨j, hj, rfl, hown, hblr⟩ := hrel
      have hzr := hblr.size
      have hfl : ((List.range j).filter fun i => decide (i ∈ met)).length ≤ j := by
        have := List.length_filter_le (fun i => decide (i ∈ met)) (List.range j)
        simpa using this
      by_cases hlt : j < l.length
      · have hlt' : (j : Int) < l.length := by omega
        have hmapr := ownsMap_below2 hmap hblr
        have hhas := has_keysI met j
        have hkey := key_int (j := j) (by omega)
        obtain ⟨HB, hHB⟩ : ∃ z, decide (j ∈ met) = z := ⟨_, rfl⟩
        rw [hHB] at hhas
        have hnext : Hid (((List.range (j + 1)).filter fun i => decide (i ∈ met)).map (fun n : Nat => (n : Int)) = ((List.range j).filter fun i => decide (i ∈ met)).map (fun n : Nat => (n : Int)) ++ (if HB then [(j : Int)] else [])) := by
          show _ = _
          rw [List.range_succ, List.filter_append, List.map_append]
          congr 1
          rw [List.filter_cons, hHB]
          cases HB <;> rfl
        have hflH : Hid ((((List.range j).filter fun i => decide (i ∈ met)).map (fun n : Nat => (n : Int))).length ≤ 400) := by show _ ≤ _; rw [List.length_map]; omega
        clear hHB hfl
        generalize ((List.range j).filter fun i => decide (i ∈ met)).map (fun n : Nat => (n : Int)) = L at hown hnext hflH
        go_upto_region 16 with (at_lookup; refine wpList_lookup_own_unit _ rfl _ _ 142 rfl 3 89 intKey Tryd.underlying142 (zeroU _) W.heap.size met.length _ rfl hmapr _ _ rfl hkey ?_)
        refine one_block _ _ _ (fun W => Code.wp _ _ _ _ W) (fun W4 hU hsU hbU => ?_)
        have hbl4 := hblr.trans (hbU.mono hzr)
        have hown4 := hown.kept hbU
        have hz44 := hbU.size
        clear hU hsU hmapr hown hhas hkey
        cases HB
        · have ho : OwnI W4 wc.heap.size u13 (((List.range (j + 1)).filter fun i => decide (i ∈ met)).map fun n : Nat => (n : Int)) := by
            rw [hnext.out]
            simpa using hown4
          clear hnext hown4
          go_wp2
          go_roundw
          case rel => exact ⟨j + 1, by omega, by go_num, ho, hbl4⟩
          case measure => simp [intOf]; omega
        · obtain ⟨vA, vc, rfl⟩ := hown4.form
          have hwc4 : Hid (wc.heap.size ≤ W4.heap.size) := by show _ ≤ _; omega
          go_wp2_with (at_builtin; refine wpList_append_vec1 (n := 140737488355328) (j : Int) elemI encI_one _ _ rfl rfl rfl hown4 hbl4 hwc4.out rfl (Nat.le_refl _) (by have := hflH.out; omega) (by have := hflH.out; omega) ?_)
          intro v' w5 ho hbl5 _
          have ho' : OwnI w5 wc.heap.size v' (((List.range (j + 1)).filter fun i => decide (i ∈ met)).map fun n : Nat => (n : Int)) := by
            rw [hnext.out]
            exact ho
          clear hown4 ho hnext
          go_wp2
          go_roundw
          case rel => exact ⟨j + 1, by omega, by go_num, ho', hbl5⟩
          case measure => simp [intOf]; omega
      · have hjl : j = l.length := by omega
        subst hjl
        have hlt' : ¬ (l.length : Int) < l.length := by omega
        have hmem : ∀ i ∈ (List.range l.length).filter (fun i => decide (i ∈ met)), i < l.length := fun i hi => List.mem_range.1 (List.mem_filter.1 hi).1
        have hpos : 0 < ((List.range l.length).filter fun i => decide (i ∈ met)).length := List.length_pos_of_mem (List.mem_filter.2 ⟨List.mem_range.2 hkl, by simpa using hKm⟩)
        have hblW : Below W.heap.size W wr := hbl.trans (hblr.mono hzc)
        obtain ⟨vA, vc, hvf⟩ := hown.form
        have hsort := sortIdx_any (w0 := W) w.heap.size _ l hcd hlW Hv.out u13 _ wr wc.heap.size hown hmem hpos (by omega) hblW hzc
        obtain ⟨ln, hln⟩ : ∃ ln, Hid ((((List.range l.length).filter fun i => decide (i ∈ met)).map fun n : Nat => (n : Int)).length = ln) := ⟨_, rfl⟩
        rw [hln.out] at hvf
        rw [hvf] at hsort ⊢
        clear hown hvf hln hmem hpos hfl
        go_wp2_with fail
        refine hsort.mono ?_
        rintro e w5 ⟨rfl, hb5, ys, hperm, hpw, hri⟩
        clear hsort
        go_wp2
        go_ret
        exact ⟨_, rfl, hbW.trans (hb5.mono hzW), met, ys, hri, Hd.out, hperm, hpw⟩
end Go.Proofs.YtedealljhmokoaaDoor

namespace Go.Proofs.YtedealljhmokoaaDoor
open Go.ChangeShapes Go.WideShapes Go.ChangeAt Go.RowKit
set_option linter.unusedVariables false
set_option linter.unusedSimpArgs false
def zeroC : Crt := ⟨⟨0, 0, [], []⟩, []⟩
def foundE (l : List Crt) (k : List UInt8) : Int := if dagF hD cF l ≠ 0 then dagF hD cF l else if placeI (dsOf hD l) k < 0 then 8 else 0
def foundC (l : List Crt) (k : List UInt8) : Crt := if foundE l k = 0 then (match l[(placeI (dsOf hD l) k).toNat]? with | some c => c | none => zeroC) else zeroC
theorem RCrt.zero (h : View) : RCrt h [.int .i64 0, .int .i64 0, .slice none 0 0, .slice none 0 0, .slice none 0 0] zeroC := ⟨_, _, _, rfl, RDigs.nil _, RDigs.nil _, RVec.nil _ _ _⟩
theorem vle_from_low {w w' : World} {g b : Nat} (hg : w.grownBy w' (some g)) (hb : g < b) : VLe (View.from w.cell? b) w'.cell? := fun a u hu => by
  unfold View.from at hu
  split at hu
  · cases hu
  · exact hg.cell hu (by intro e; injection e; omega)
set_option maxHeartbeats 4000000 in
set_option maxRecDepth 100000 in
theorem dagFind_any (vl vk : Value) (l : List Crt) (k : List UInt8) (w : World) (hl : RCrts w.cell? vl l) (hk : RBytes w.cell? vk k) (hT : Tabs w.cell?) :
    Calls Tryd.prog 40 #[.agg #[vl], vk] w fun e w' => ∃ cs, e = .returned (.tuple #[.agg cs.toArray, .int .i64 (foundE l k)]) ∧ Below w.heap.size w w' ∧ RCrt w'.cell? cs (foundC l k) := by
  obtain ⟨A, c, rfl, hf0⟩ := id hl
  obtain ⟨kA, kc, rfl, hf1⟩ := id hk
  clear hf0 hf1
  obtain ⟨_, hn1, hn2, hel⟩ := hl.at
  have Hel := Lib.hid hel
  clear hel
  obtain ⟨QE, hQE⟩ : ∃ q, Hid (foundE l k = q) := ⟨_, rfl⟩
  obtain ⟨QC, hQC⟩ : ∃ q, Hid (foundC l k = q) := ⟨_, rfl⟩
  have hE0 : Hid (QE = if dagF hD cF l ≠ 0 then dagF hD cF l else if placeI (dsOf hD l) k < 0 then 8 else 0) := hQE.out.symm
  have hC0 : Hid (QC = if QE = 0 then (match l[(placeI (dsOf hD l) k).toNat]? with | some c => c | none => zeroC) else zeroC) := by show _ = _; rw [← hQC.out]; unfold foundC; rw [hQE.out]
  have hvalid : Hid (dagF hD cF l = 0 → l.length ≤ 400 ∧ (∀ c ∈ l, hF c.hdr = 0)) := dag_valid
  rw [hQE.out, hQC.out]
  clear hQE hQC
  obtain ⟨E1, hE1⟩ : ∃ q, Hid (dagF hD cF l = q) := ⟨_, rfl⟩
  rw [hE1.out] at hE0 hvalid
  go_enter Tryd.func40, Tryd.ntmps40
  go_upto_region 1 with fail
  refine two_blocks _ _ _ _ _ (fun W => Code.wp _ _ _ _ W) (fun W hk1 hk2 hsz hbW => ?_)
  have hszI : w.heap.size + 2 ≤ W.heap.size := by omega
  clear hsz
  have g0 := hk1.cell 0
  simp at g0
  go_wp2_with fail
  refine (dagCheck_any _ l _ (hl.mono RCrt.mono (vle_below hbW)) (hT.mono (vle_below hbW))).mono ?_
  rintro e w1 ⟨rfl, hb1⟩
  rw [hE1.out]
  have hbl1 := hbW.trans (hb1.mono hbW.size)
  have hk11 := hk1.kept hb1
  have hk21 := hk2.kept hb1
  have hz1 := hbl1.size
  clear g0
  by_cases h1 : E1 = 0
  · have hv := Lib.hid (hvalid.out h1)
    have hE0 : Hid (QE = if placeI (dsOf hD l) k < 0 then 8 else 0) := by show _ = _; rw [hE0.out]; simp [h1]
    clear hvalid hE1
    subst h1
    have hl1 := hl.mono RCrt.mono (vle_below hbl1)
    have g0 := hk11.cell 0
    simp at g0
    go_wp2_with fail
    refine (all_any _ l _ hl1 hv.out.2 (hT.mono (vle_below hbl1))).mono ?_
    rintro e w2 ⟨vd, rfl, hb2, od⟩
    have hbl2 := hbl1.trans (hb2.mono hz1)
    have hk12 := hk11.kept hb2
    have hk22 := hk21.kept hb2
    have hz2 := hbl2.size
    have rD := RDigs.of_own od (by rw [dsOf_len]; have := hv.out.1; omega)
    have hlen : (dsOf hD l).length = l.length := dsOf_len l
    have hcs := placeI_cases (dsOf hD l) k
    clear od g0
    generalize dsOf hD l = Ds at rD hlen hE0 hC0 hcs
    obtain ⟨dA, dc, rfl, hfd⟩ := id rD
    have Hlen := Lib.hid hlen
    clear hfd hlen
    go_wp2_with fail
    refine (at_any _ Ds _ k _ rD (hk.mono (vle_below hbl2))).mono ?_
    rintro e w3 ⟨rfl, hb3⟩
    have hbl3 := hbl2.trans (hb3.mono hz2)
    have hk13 := hk12.kept hb3
    have hk23 := hk22.kept hb3
    have hz3 := hbl3.size
    clear rD
    rcases hcs with hneg | ⟨j, hj, hpos⟩
    · have HE : Hid (QE = 8) := by show _ = _; rw [hE0.out, hneg]; rfl
      have HC : Hid (QC = zeroC) := by show _ = _; rw [hC0.out, if_neg (by rw [HE.out]; decide)]
      rw [hneg]
      clear hE0 hC0 hneg
      go_wp2_with (refine wpList_store_whole (n := 5) rfl rfl rfl rfl (by kernel_rfl) rfl hk23 rfl rfl ?_)
      intro w4 hB4 hg4
      go_wp2
      refine bodyPost_ret (results_blk_tmp rfl rfl (by kernel_rfl) (by kernel_rfl) hB4 rfl) rfl ?_
      exact ⟨_, by rw [HE.out]; rfl, below_grownBy hbl3 hz3 hg4 (by intro k e; injection e; omega), by rw [HC.out]; exact RCrt.zero _⟩
    · have hjl : j < l.length := by have := Hlen.out; omega
      have HE : Hid (QE = 0) := by show _ = _; rw [hE0.out, hpos]; exact if_neg (by omega)
      have HC : Hid (QC = l[j]) := by show _ = _; rw [hC0.out, if_pos HE.out, hpos]; simp [List.getElem?_eq_getElem hjl]
      rw [hpos]
      clear hE0 hC0 hpos
      obtain ⟨b0, o0, vb, vp, vv, rfl, q0, q1, q2, q3, q4, rb, rp, rv⟩ := Hel.out j hjl
      have c0 := vle_below hbl3 _ _ q0; have c1 := vle_below hbl3 _ _ q1; have c2 := vle_below hbl3 _ _ q2; have c3 := vle_below hbl3 _ _ q3; have c4 := vle_below hbl3 _ _ q4
      have rb3 := rb.mono RDig.mono (vle_below hbl3)
      have rp3 := rp.mono RDig.mono (vle_below hbl3)
      have rv3 := rv.mono (vle_below hbl3)
      clear q0 q1 q2 q3 q4 rb rp rv
      have hjl' : (j : Int) < (l.length : Int) := by omega
      generalize l[j] = x at *
      have g0 := hk13.cell 0
      simp at g0
      go_wp2_with fail
      refine (dagOwn_any _ _ _ _ _ x.hdr.batches x.hdr.parents x.voters _ rb3 rp3 rv3).mono ?_
      rintro e w4 ⟨ub, up, uv, rfl, hb4, s1, s2, s3⟩
      have hbl4 := hbl3.trans (hb4.mono hz3)
      have hk24 := hk23.kept hb4
      have hz4 := hbl4.size
      obtain ⟨A1, c1', rfl, hf1⟩ := id s1
      obtain ⟨A2, c2', rfl, hf2⟩ := id s2
      obtain ⟨A3, c3', rfl, hf3⟩ := id s3
      have hzz := Nat.lt_of_lt_of_le (show w.heap.size + 1 < w.heap.size + 2 by omega) (Nat.le_trans hszI (Nat.le_trans hb1.size (Nat.le_trans hb2.size hb3.size)))
      clear hf1 hf2 hf3 g0 c0 c1 c2 c3 c4 rb3 rp3 rv3
      go_wp2_with (refine wpList_store_whole (n := 5) rfl rfl rfl rfl (by kernel_rfl) rfl hk24 rfl rfl ?_)
      intro w5 hB5 hg5
      have q := vle_from_low hg5 hzz
      go_wp2
      refine bodyPost_ret (results_blk_tmp rfl rfl (by kernel_rfl) (by kernel_rfl) hB5 rfl) rfl ?_
      exact ⟨[.int .i64 x.hdr.author, .int .i64 x.hdr.round, .slice A1 x.hdr.batches.length c1', .slice A2 x.hdr.parents.length c2', .slice A3 x.voters.length c3'], by rw [HE.out]; rfl, below_grownBy hbl4 hz4 hg5 (by intro k e; injection e; omega), by rw [HC.out]; exact ⟨_, _, _, rfl, s1.mono RDig.mono q, s2.mono RDig.mono q, s3.mono q⟩⟩
  · have HE : Hid (QE = E1) := by show _ = _; rw [hE0.out]; simp [h1]
    have HC : Hid (QC = zeroC) := by show _ = _; rw [hC0.out, HE.out, if_neg h1]
    clear hE0 hC0 hvalid
    go_wp2_with (refine wpList_store_whole (n := 5) rfl rfl rfl rfl (by kernel_rfl) rfl hk21 rfl rfl ?_)
    intro w4 hB4 hg4
    go_wp2
    refine bodyPost_ret (results_blk_tmp rfl rfl (by kernel_rfl) (by kernel_rfl) hB4 rfl) rfl ?_
    exact ⟨_, by rw [HE.out]; rfl, below_grownBy hbl1 hz1 hg4 (by intro k e; injection e; omega), by rw [HC.out]; exact RCrt.zero _⟩
set_option maxHeartbeats 4000000 in
set_option maxRecDepth 100000 in
theorem foundIn_any (vl vk : Value) (l : List Crt) (k : List UInt8) (w : World) (hl : RCrts w.cell? vl l) (hk : RBytes w.cell? vk k) :
    Calls Tryd.prog 42 #[.agg #[vl], vk] w fun e w' => ∃ cs, e = .returned (.tuple #[.agg cs.toArray, .int .i64 (foundE l k)]) ∧ Below w.heap.size w w' ∧ RCrt w'.cell? cs (foundC l k) := by
  obtain ⟨A, c, rfl, hf0⟩ := id hl
  obtain ⟨kA, kc, rfl, hf1⟩ := id hk
  clear hf0 hf1
  obtain ⟨_, hn1, hn2, hel⟩ := hl.at
  have Hel := Lib.hid hel
  clear hel
  obtain ⟨QE, hQE⟩ : ∃ q, Hid (foundE l k = q) := ⟨_, rfl⟩
  obtain ⟨QC, hQC⟩ : ∃ q, Hid (foundC l k = q) := ⟨_, rfl⟩
  have hE0 : Hid (QE = if dagF hD cF l ≠ 0 then dagF hD cF l else if placeI (dsOf hD l) k < 0 then 8 else 0) := hQE.out.symm
  have hC0 : Hid (QC = if QE = 0 then (match l[(placeI (dsOf hD l) k).toNat]? with | some c => c | none => zeroC) else zeroC) := by show _ = _; rw [← hQC.out]; unfold foundC; rw [hQE.out]
  have hvalid : Hid (dagF hD cF l = 0 → l.length ≤ 400 ∧ (∀ c ∈ l, hF c.hdr = 0)) := dag_valid
  rw [hQE.out, hQC.out]
  clear hQE hQC
  obtain ⟨E1, hE1⟩ : ∃ q, Hid (dagF hD cF l = q) := ⟨_, rfl⟩
  rw [hE1.out] at hE0 hvalid
  go_enter Tryd.func42, Tryd.ntmps42
  go_upto_region 1 with fail
  refine two_blocks _ _ _ _ _ (fun W => Code.wp _ _ _ _ W) (fun W hk1 hk2 hsz hbW => ?_)
  have hszI : w.heap.size + 2 ≤ W.heap.size := by omega
  clear hsz
  have g0 := hk1.cell 0
  simp at g0
  go_wp2_with fail
  refine (dagFault_any _ l _ (hl.mono RCrt.mono (vle_below hbW))).mono ?_
  rintro e w1 ⟨rfl, hb1⟩
  rw [hE1.out]
  have hbl1 := hbW.trans (hb1.mono hbW.size)
  have hk11 := hk1.kept hb1
  have hk21 := hk2.kept hb1
  have hz1 := hbl1.size
  clear g0
  by_cases h1 : E1 = 0
  · have hv := Lib.hid (hvalid.out h1)
    have hE0 : Hid (QE = if placeI (dsOf hD l) k < 0 then 8 else 0) := by show _ = _; rw [hE0.out]; simp [h1]
    clear hvalid hE1
    subst h1
    have hl1 := hl.mono RCrt.mono (vle_below hbl1)
    have g0 := hk11.cell 0
    simp at g0
    go_wp2_with fail
    refine (digestsOf_any _ l _ hl1 hv.out.2).mono ?_
    rintro e w2 ⟨vd, rfl, hb2, od⟩
    have hbl2 := hbl1.trans (hb2.mono hz1)
    have hk12 := hk11.kept hb2
    have hk22 := hk21.kept hb2
    have hz2 := hbl2.size
    have rD := RDigs.of_own od (by rw [dsOf_len]; have := hv.out.1; omega)
    have hlen : (dsOf hD l).length = l.length := dsOf_len l
    have hcs := placeI_cases (dsOf hD l) k
    clear od g0
    generalize dsOf hD l = Ds at rD hlen hE0 hC0 hcs
    obtain ⟨dA, dc, rfl, hfd⟩ := id rD
    have Hlen := Lib.hid hlen
    clear hfd hlen
    go_wp2_with fail
    refine (placeOf_any _ Ds _ k _ rD (hk.mono (vle_below hbl2))).mono ?_
    rintro e w3 ⟨rfl, hb3⟩
    have hbl3 := hbl2.trans (hb3.mono hz2)
    have hk13 := hk12.kept hb3
    have hk23 := hk22.kept hb3
    have hz3 := hbl3.size
    clear rD
    rcases hcs with hneg | ⟨j, hj, hpos⟩
    · have HE : Hid (QE = 8) := by show _ = _; rw [hE0.out, hneg]; rfl
      have HC : Hid (QC = zeroC) := by show _ = _; rw [hC0.out, if_neg (by rw [HE.out]; decide)]
      rw [hneg]
      clear hE0 hC0 hneg
      go_wp2_with (refine wpList_store_whole (n := 5) rfl rfl rfl rfl (by kernel_rfl) rfl hk23 rfl rfl ?_)
      intro w4 hB4 hg4
      go_wp2
      refine bodyPost_ret (results_blk_tmp rfl rfl (by kernel_rfl) (by kernel_rfl) hB4 rfl) rfl ?_
      exact ⟨_, by rw [HE.out]; rfl, below_grownBy hbl3 hz3 hg4 (by intro k e; injection e; omega), by rw [HC.out]; exact RCrt.zero _⟩
    · have hjl : j < l.length := by have := Hlen.out; omega
      have HE : Hid (QE = 0) := by show _ = _; rw [hE0.out, hpos]; exact if_neg (by omega)
      have HC : Hid (QC = l[j]) := by show _ = _; rw [hC0.out, if_pos HE.out, hpos]; simp [List.getElem?_eq_getElem hjl]
      rw [hpos]
      clear hE0 hC0 hpos
      obtain ⟨b0, o0, vb, vp, vv, rfl, q0, q1, q2, q3, q4, rb, rp, rv⟩ := Hel.out j hjl
      have c0 := vle_below hbl3 _ _ q0; have c1 := vle_below hbl3 _ _ q1; have c2 := vle_below hbl3 _ _ q2; have c3 := vle_below hbl3 _ _ q3; have c4 := vle_below hbl3 _ _ q4
      have rb3 := rb.mono RDig.mono (vle_below hbl3)
      have rp3 := rp.mono RDig.mono (vle_below hbl3)
      have rv3 := rv.mono (vle_below hbl3)
      clear q0 q1 q2 q3 q4 rb rp rv
      have hjl' : (j : Int) < (l.length : Int) := by omega
      generalize l[j] = x at *
      have g0 := hk13.cell 0
      simp at g0
      go_wp2_with fail
      refine (certCopy_any _ _ _ _ _ x.hdr.batches x.hdr.parents x.voters _ rb3 rp3 rv3).mono ?_
      rintro e w4 ⟨ub, up, uv, rfl, hb4, s1, s2, s3⟩
      have hbl4 := hbl3.trans (hb4.mono hz3)
      have hk24 := hk23.kept hb4
      have hz4 := hbl4.size
      obtain ⟨A1, c1', rfl, hf1⟩ := id s1
      obtain ⟨A2, c2', rfl, hf2⟩ := id s2
      obtain ⟨A3, c3', rfl, hf3⟩ := id s3
      have hzz := Nat.lt_of_lt_of_le (show w.heap.size + 1 < w.heap.size + 2 by omega) (Nat.le_trans hszI (Nat.le_trans hb1.size (Nat.le_trans hb2.size hb3.size)))
      clear hf1 hf2 hf3 g0 c0 c1 c2 c3 c4 rb3 rp3 rv3
      go_wp2_with (refine wpList_store_whole (n := 5) rfl rfl rfl rfl (by kernel_rfl) rfl hk24 rfl rfl ?_)
      intro w5 hB5 hg5
      have q := vle_from_low hg5 hzz
      go_wp2
      refine bodyPost_ret (results_blk_tmp rfl rfl (by kernel_rfl) (by kernel_rfl) hB5 rfl) rfl ?_
      exact ⟨[.int .i64 x.hdr.author, .int .i64 x.hdr.round, .slice A1 x.hdr.batches.length c1', .slice A2 x.hdr.parents.length c2', .slice A3 x.voters.length c3'], by rw [HE.out]; rfl, below_grownBy hbl4 hz4 hg5 (by intro k e; injection e; omega), by rw [HC.out]; exact ⟨_, _, _, rfl, s1.mono RDig.mono q, s2.mono RDig.mono q, s3.mono q⟩⟩
  · have HE : Hid (QE = E1) := by show _ = _; rw [hE0.out]; simp [h1]
    have HC : Hid (QC = zeroC) := by show _ = _; rw [hC0.out, HE.out, if_neg h1]
    clear hE0 hC0 hvalid
    go_wp2_with (refine wpList_store_whole (n := 5) rfl rfl rfl rfl (by kernel_rfl) rfl hk21 rfl rfl ?_)
    intro w4 hB4 hg4
    go_wp2
    refine bodyPost_ret (results_blk_tmp rfl rfl (by kernel_rfl) (by kernel_rfl) hB4 rfl) rfl ?_
    exact ⟨_, by rw [HE.out]; rfl, below_grownBy hbl1 hz1 hg4 (by intro k e; injection e; omega), by rw [HC.out]; exact RCrt.zero _⟩
end Go.Proofs.YtedealljhmokoaaDoor

namespace Go.Proofs.YtedealljhmokoaaDoor
open Go.ChangeShapes Go.WideShapes Go.ChangeAt Go.RowKit
set_option linter.unusedVariables false
set_option linter.unusedSimpArgs false
theorem RDigs.ofRows {h : View} {v : Value} {vs : List DV} (hr : RVec encV 24 h v vs) (hv : ∀ d ∈ vs, RBytes h (encV d) d.x) : RDigs h v (vs.map (·.x)) := by
  obtain ⟨A, c, rfl, h1, h2, h3, h4, h5⟩ := hr
  refine ⟨A, c, by simp, by simpa using h1, h2, by simpa using h3, h4, fun hp => ?_⟩
  obtain ⟨b, o, ea, hc⟩ := h5 (by simpa using hp)
  refine ⟨b, o, ea, fun i hi => ?_⟩
  simp at hi
  refine ⟨[encV vs[i]], rfl, fun j hj => ?_, _, rfl, ?_⟩
  · obtain rfl : j = 0 := by omega
    rw [Nat.mul_one, Nat.add_zero]
    exact hc i hi
  · simp only [List.getElem_map]
    exact hv _ (List.getElem_mem hi)
def dvN : DV := ⟨none, 0, []⟩
/-- what the program's history answers -/
def HisP (l : List Crt) (k : List UInt8) (L : List (List UInt8)) : Prop := ∃ met ys : List Nat, Dfs l (dsOf hD l) (plc (dsOf hD l) k) met [] ∧ ys.Perm ((List.range l.length).filter fun i => decide (i ∈ met)) ∧ (ys.Pairwise fun i j => ¬ aheadH l j i) ∧ L = ys.map fun i => (dsOf hD l).getD i []
structure HisOut (Q : List Crt → List UInt8 → List (List UInt8) → Prop) (l : List Crt) (k : List UInt8) (E : Int) (w w' : World) (d : Value) : Prop where
  below : Below w.heap.size w w'
  row : ∃ L, RDigs w'.cell? d L ∧ (E ≠ 0 → L = []) ∧ (E = 0 → Q l k L)
theorem found_zero {l : List Crt} {k : List UInt8} (h : foundE l k = 0) : dagF hD cF l = 0 ∧ 0 ≤ placeI (dsOf hD l) k := by
  unfold foundE at h
  split at h
  · omega
  · split at h
    · cases h
    · rename_i h1 h2
      exact ⟨by simpa using h1, by omega⟩
theorem place_lt {ds : List (List UInt8)} {k : List UInt8} (h : 0 ≤ placeI ds k) : plc ds k < ds.length := by
  unfold plc
  rcases idxI_cases (· == k) ds with ⟨h1, _⟩ | ⟨i, hi, h1, _⟩
  · unfold placeI at h; rw [h1] at h; omega
  · have : placeI ds k = i := h1
    rw [this]; simpa using hi
theorem head_few {h : Hdr} (hv : hF h = 0) : h.parents.length ≤ 4 := by
  unfold hF headF at hv
  split at hv
  · split at hv
    · cases hv
    · omega
  · cases hv
theorem dag_good {l : List Crt} (h : dagF hD cF l = 0) : GoodD l (dsOf hD l) := by
  obtain ⟨_, hA, _, hv⟩ := dag_lone h
  exact goodD_of h hA (fun c hc => (hF_say (hv c hc)).2.2.1) (fun c hc => head_few (hv c hc))
set_option maxHeartbeats 4000000 in
set_option maxRecDepth 100000 in
theorem orderHistory_any (vl vk : Value) (l : List Crt) (k : List UInt8) (w : World) (hl : RCrts w.cell? vl l) (hk : RBytes w.cell? vk k) (hT : Tabs w.cell?) :
    Calls Tryd.prog 51 #[.agg #[vl], vk] w fun e w' => ∃ d, e = .returned (.tuple #[d, .int .i64 (foundE l k)]) ∧ HisOut HisP l k (foundE l k) w w' d := by
  obtain ⟨A, c, rfl, hform⟩ := id hl
  obtain ⟨kA, kc, rfl, hform2⟩ := id hk
  clear hform hform2
  obtain ⟨E, hE⟩ : ∃ E, Hid (foundE l k = E) := ⟨_, rfl⟩
  have hz := @found_zero l k
  rw [hE.out] at hz ⊢
  have Hz := Lib.hid hz
  clear hz
  go_enter Tryd.func51, Tryd.ntmps51
  go_upto_region 1 with fail
  refine one_block _ _ _ (fun W => Code.wp _ _ _ _ W) (fun W hkd hsz hbW => ?_)
  have hzW := hbW.size
  have g0 := hkd.cell 0
  simp at g0
  clear hsz
  go_wp2_with fail
  refine (dagFind_any _ _ l k _ (hl.mono RCrt.mono (vle_below hbW)) (hk.mono (vle_below hbW)) (hT.mono (vle_below hbW))).mono ?_
  rintro e w1 ⟨cs, rfl, hb1, vb, vp, vv, rfl, rb, rp, rv⟩
  rw [hE.out]
  have hbl1 := hbW.trans (hb1.mono hzW)
  have hkd1 := hkd.kept hb1
  have hz1 := hbl1.size
  obtain ⟨bA, bc, rfl, f1⟩ := id rb
  obtain ⟨pA, pc, rfl, f2⟩ := id rp
  obtain ⟨vA, vc, rfl, f3⟩ := id rv
  clear f1 f2 f3 g0 rb rp rv
  go_upto_region 2 with fail
  refine one_block _ _ _ (fun W => Code.wp _ _ _ _ W) (fun W2 hX hsX hbX => ?_)
  have hbl2 := hbl1.trans (hbX.mono hz1)
  have hkd2 := hkd1.kept hbX
  have hz2 := hbl2.size
  clear hX hsX hkd1
  by_cases hE0 : E = 0
  rotate_left
  · go_wp2
    go_ret2
    exact ⟨_, rfl, hbl2, [], RDigs.nil _, fun _ => rfl, fun h => absurd h hE0⟩
  obtain ⟨hdag, hpl⟩ := Hz.out hE0
  subst hE0
  obtain ⟨hL, hA, h4, hv⟩ := dag_lone hdag
  have hgd := dag_good hdag
  have hkl : plc (dsOf hD l) k < l.length := by have := place_lt hpl; rwa [dsOf_len] at this
  have Hall := Lib.hid (And.intro hgd (And.intro hv (And.intro hpl hkl)))
  clear hgd hv hpl hkl hL hA hdag Hz
  have g0 := hkd2.cell 0
  simp at g0
  go_wp2_with fail
  refine (orderAll_any _ l _ (hl.mono RCrt.mono (vle_below hbl2)) Hall.out.2.1 (hT.mono (vle_below hbl2))).mono ?_
  rintro e w3 ⟨vd, rfl, hb3, od⟩
  have hbl3 := hbl2.trans (hb3.mono hz2)
  have hkd3 := hkd2.kept hb3
  have hz3 := hbl3.size
  have rD := RDigs.of_own od (by rw [dsOf_len]; omega)
  obtain ⟨dA, dc, rfl, hfd⟩ := id rD
  clear hfd od g0 hkd2
  have g0 := hkd3.cell 0
  simp at g0
  go_wp2_with fail
  refine (history_any _ _ _ l k _ (hl.mono RCrt.mono (vle_below hbl3)) rD (hk.mono (vle_below hbl3)) Hall.out.1 Hall.out.2.1 h4 Hall.out.2.2.1 Hall.out.2.2.2).mono ?_
  rintro e w4 ⟨vi, rfl, hb4, met, ys, hri, hdfs, hperm, hpw⟩
  have hbl4 := hbl3.trans (hb4.mono hz3)
  have hz4 := hbl4.size
  have hys : ∀ i ∈ ys, i < (dsOf hD l).length := fun i hi => by
    rw [dsOf_len]
    exact List.mem_range.1 (List.mem_filter.1 (hperm.mem_iff.1 hi)).1
  have hyl : ys.length ≤ 400 := by
    rw [hperm.length_eq]
    have := List.length_filter_le (fun i => decide (i ∈ met)) (List.range l.length)
    simp at this
    omega
  have HP : Hid (HisP l k (ys.map fun i => (dsOf hD l).getD i [])) := ⟨met, ys, hdfs, hperm, hpw, rfl⟩
  clear hdfs hperm hpw g0 hkd3
  generalize dsOf hD l = Ds at *
  obtain ⟨vs, hvs, rvs, hvr⟩ := RDigs.rows (rD.mono RDig.mono (vle_below hb4))
  have hvl : vs.length = Ds.length := by rw [← hvs]; simp
  have hlast : Hid (((ys.map fun i => vs.getD i dvN).map (·.x)) = ys.map fun i => Ds.getD i []) := by
    show _ = _
    rw [List.map_map]
    refine List.map_congr_left fun i hi => ?_
    have h1 := hys i hi
    simp only [Function.comp, List.getD_eq_getElem?_getD]
    rw [← hvs]
    simp [show i < vs.length by omega]
  have hmemv : Hid (∀ i ∈ ys, vs.getD i dvN ∈ vs) := fun i hi => by
    have h1 := hys i hi
    rw [List.getD_eq_getElem?_getD, List.getElem?_eq_getElem (show i < vs.length by omega)]
    exact List.getElem_mem _
  have hvr' := Lib.hid hvr
  obtain ⟨iA, ic, rfl, _⟩ := id hri
  obtain ⟨_, hic, hlen, hel⟩ := RIs.at hri
  simp only [List.length_map] at hic hlen hel ⊢
  have Hel := Lib.hid hel
  obtain ⟨_, hdc, _, helv⟩ : True ∧ Ds.length ≤ dc ∧ True ∧ (∀ i (hi : i < vs.length), ∃ b o, dA = some ⟨b, o, none⟩ ∧ w4.cell? ⟨b, o + i, none⟩ = some (encV vs[i])) := by
    obtain ⟨A', c', e, h1, _, _, _, h5⟩ := id rvs
    injection e with e1 e2 e3
    subst e1 e3
    refine ⟨trivial, by omega, trivial, fun i hi => ?_⟩
    obtain ⟨b, o, ea, hc⟩ := h5 (by omega)
    exact ⟨b, o, ea, hc i hi⟩
  have Helv := Lib.hid helv
  have Hys := Lib.hid hys
  clear hel helv hri rvs hvr hvs hys
  go_wp2_with fail
  go_loopw [9, 11, 28] (fun v _ i wr => ∃ j : Nat, j ≤ ys.length ∧ i = .int .i64 j ∧ OwnDV wr w4.heap.size v ((ys.take j).map fun i => vs.getD i dvN) ∧ Below w4.heap.size w4 wr) (fun _ _ i _ => ys.length - (intOf i).toNat)
  case atStart => exact ⟨0, Nat.zero_le _, rfl, OwnVec.nil _ _ _ _, Below.refl _ _⟩
  case round =>
    obtain ⟨j, hj, rfl, hown, hbl⟩ := hrel
    have hzr := hbl.size
    by_cases hlt : j < ys.length
    · obtain ⟨b0, o0, rfl, e0⟩ := Hel.out j hlt
      have hyj := Hys.out ys[j] (List.getElem_mem hlt)
      obtain ⟨b1, o1, rfl, e1⟩ := Helv.out ys[j] (by omega)
      have Hn := Lib.hid (show (ys.take (j + 1)).map (fun i => vs.getD i dvN) = (ys.take j).map (fun i => vs.getD i dvN) ++ [vs[ys[j]]'(by omega)] by
        rw [List.take_succ_eq_append_getElem hlt, List.map_append, List.map_singleton, List.getD_eq_getElem?_getD, List.getElem?_eq_getElem (show ys[j] < vs.length by omega)]
        rfl)
      have Hlk := Lib.hid (show ((ys.take j).map fun i => vs.getD i dvN).length ≤ 400 by simp; omega)
      have c0 := vle_below hbl _ _ e0
      have c1 := vle_below hbl _ _ e1
      simp only [List.getElem_map] at c0
      clear e0 e1
      generalize (ys.take j).map (fun i => vs.getD i dvN) = L at hown Hn Hlk
      generalize vs[ys[j]]'(by omega) = y at c1 Hn
      have hyj' : ((ys[j] : Nat) : Int) < (Ds.length : Int) := by omega
      generalize ys[j] = q at *
      have hlt' : (j : Int) < (ys.length : Int) := by omega
      unfold encV at c1
      obtain ⟨lA, lc, rfl⟩ := hown.form
      go_wp2_with (at_builtin; refine wpList_append_vec1 (n := 140737488355328) y elemDV encV_one _ _ rfl rfl rfl hown hbl hzr rfl (Nat.le_refl _) (by have := Hlk.out; omega) (by have := Hlk.out; omega) ?_)
      intro v' w5 ho hbl5 _
      rw [← Hn.out] at ho
      clear hown Hn
      go_wp2
      go_roundw
      case rel => exact ⟨j + 1, by omega, by go_num, ho, hbl5⟩
      case measure => simp [intOf]; omega
    · have hjl : j = ys.length := by omega
      subst hjl
      rw [List.take_length] at hown
      have hr := RDigs.ofRows (hown.reads (bs := 24) (by simp; omega)) (fun d hd => by
        obtain ⟨i, hi, rfl⟩ := List.mem_map.1 hd
        exact (hvr'.out _ (hmemv.out i hi)).mono (vle_below hbl))
      rw [hlast.out] at hr
      obtain ⟨lA, lc, hlf⟩ := hown.form
      obtain ⟨ln, hln⟩ : ∃ ln, Hid ((ys.map fun i => vs.getD i dvN).length = ln) := ⟨_, rfl⟩
      rw [hln.out] at hlf
      subst hlf
      clear hown hln hlast
      go_wp2
      go_ret2
      exact ⟨_, rfl, hbl4.trans (hbl.mono hz4), _, hr, fun h => absurd rfl h, fun _ => HP.out⟩
end Go.Proofs.YtedealljhmokoaaDoor

namespace Go.Proofs.YtedealljhmokoaaDoor
open Go.ChangeShapes Go.WideShapes Go.ChangeAt Go.RowKit
set_option linter.unusedVariables false
set_option linter.unusedSimpArgs false
def wantC (w : List Bool) : Array Value := (w.map Value.bool).toArray
theorem wantC_set {w : List Bool} {i : Nat} (hi : i < w.length) : ((wantC w).toList.take i ++ Value.bool true :: (wantC w).toList.drop (i + 1)).toArray = wantC (w.set i true) := by
  unfold wantC
  rw [List.set_eq_take_append_cons_drop, if_pos hi]
  simp [List.map_take, List.map_drop]
theorem wantC_made (n : Nat) : madeCells #[.bool false] n = wantC (List.replicate n false) := by
  apply Array.ext'
  rw [toList_madeCells_one]
  unfold wantC
  simp
theorem wantC_size (w : List Bool) : (wantC w).size = w.length := by unfold wantC; simp
theorem wantC_at (w : List Bool) (i : Nat) : (wantC w)[i]? = (w[i]?).map Value.bool := by unfold wantC; simp
/-- a header in a row; its digests lie where they lay -/
def RHdrAt (w0 : World) : View → List Value → Hdr → Prop := fun _ cs h => ∃ vb vp, cs = [.int .i64 h.author, .int .i64 h.round, vb, vp] ∧ RDigs w0.cell? vb h.batches ∧ RDigs w0.cell? vp h.parents
theorem RHdrAt.mono (w0 : World) : Mono (RHdrAt w0) := fun _ _ _ _ h _ => h
theorem elemHdr : Elem Tryd.prog 123 37 4 64 := elemN (z := .agg #[.int .i64 0, .int .i64 0, .slice none 0 0, .slice none 0 0]) Tryd.underlying123 (by kernel_rfl) rfl (by decide)
def hdrAt (l : List Crt) (i : Nat) : Hdr := match l[i]? with | some c => c.hdr | none => ⟨0, 0, [], []⟩
def rowN (l : List Crt) (w : List Bool) (r : Int) (n : Nat) : List Nat := (List.range n).filterMap (pickH l w r)
theorem rowN_succ (l : List Crt) (w : List Bool) (r : Int) (n : Nat) : rowN l w r (n + 1) = rowN l w r n ++ (pickH l w r n).toList := by
  unfold rowN
  rw [List.range_succ, List.filterMap_append]
  cases h : pickH l w r n <;> simp [h]
theorem docH_succ (l : List Crt) (w : List Bool) (q : Nat) : docH l w (q + 1) = docH l w q ++ rowN l w (1 + q) 4 := by
  unfold docH
  rw [List.range_succ, List.flatMap_append]
  simp [rowH, rowN]
theorem docH_len (l : List Crt) (w : List Bool) (q : Nat) : (docH l w q).length ≤ l.length := by
  refine nodup_lt_len (nodup_ahead docH_sorted) (fun i hi => ?_)
  unfold docH rowH at hi
  obtain ⟨r, _, hm⟩ := List.mem_flatMap.1 hi
  obtain ⟨n, _, hp⟩ := List.mem_filterMap.1 hm
  obtain ⟨c, hc, _⟩ := pickH_some hp
  exact (List.getElem?_eq_some_iff.1 hc).1
theorem rowN_len (l : List Crt) (w : List Bool) (q n : Nat) (hn : n ≤ 4) : (docH l w q ++ rowN l w (1 + q) n).length ≤ l.length := by
  have h1 := docH_len l w (q + 1)
  rw [docH_succ] at h1
  have h2 : ∀ m, n ≤ m → (rowN l w (1 + (q : Int)) n).length ≤ (rowN l w (1 + q) m).length := fun m hm => by
    induction m with
    | zero => have : n = 0 := by omega
              subst this; exact Nat.le_refl _
    | succ m ih =>
      by_cases e : n = m + 1
      · subst e; exact Nat.le_refl _
      · rw [rowN_succ, List.length_append]
        have := ih (by omega)
        omega
  have := h2 4 hn
  simp at h1 ⊢
  omega
set_option maxHeartbeats 4000000 in
set_option maxRecDepth 100000 in
theorem historyOf_any (vl vk : Value) (l : List Crt) (k : List UInt8) (w : World) (hl : RCrts w.cell? vl l) (hk : RBytes w.cell? vk k) (hg : GoodD l (dsOf hD l)) (hv : ∀ c ∈ l, hF c.hdr = 0) (h4 : l.length ≤ 400) (hk0 : 0 ≤ placeI (dsOf hD l) k) (hkl : plc (dsOf hD l) k < l.length) :
    Calls Tryd.prog 99 #[.agg #[vl], vk] w fun e w' => ∃ v, e = .returned v ∧ Below w.heap.size w w' ∧ ∃ ws : List Bool, Want l (dsOf hD l) (plc (dsOf hD l) k) ws 0 ∧ RSl 4 (RHdrAt w) 64 w'.cell? v ((docH l ws (hdrAt l (plc (dsOf hD l) k)).round.toNat).map (hdrAt l)) := by
  obtain ⟨A, c, rfl, hform⟩ := id hl
  obtain ⟨kA, kc, rfl, hform3⟩ := id hk
  clear hform hform3
  obtain ⟨_, hcap, hlen, hel⟩ := hl.at
  have Hel := Lib.hid hel
  have Hg := Lib.hid hg
  have Hv := Lib.hid hv
  clear hel hg hv
  have hdl0 := dsOf_len l
  obtain ⟨Ds, hDs⟩ : ∃ Ds, Hid (dsOf hD l = Ds) := ⟨_, rfl⟩
  rw [hDs.out] at Hg hk0 hkl hdl0 ⊢
  have hdl := Lib.hid hdl0
  clear hdl0
  obtain ⟨K, hK⟩ : ∃ K, Hid (plc Ds k = K) := ⟨_, rfl⟩
  have hKI : Hid (placeI Ds k = (K : Int)) := by show _ = _; rw [← hK.out]; unfold plc; omega
  rw [hK.out] at hkl ⊢
  obtain ⟨TR, hTR⟩ : ∃ T : Int, Hid ((hdrAt l K).round = T) := ⟨_, rfl⟩
  have hTl : Hid (l[K].hdr.round = TR) := by show _ = _; rw [← hTR.out]; unfold hdrAt; simp [hkl]
  rw [hTR.out]
  clear hk0
  go_enter Tryd.func99, Tryd.ntmps99
  go_upto_region 1 with fail
  refine one_block _ _ _ (fun W => Code.wp _ _ _ _ W) (fun W hkd hsz hbW => ?_)
  have hzW := hbW.size
  have g0 := hkd.cell 0
  simp at g0
  clear hsz
  go_wp2_with fail
  refine (digestsOf_any _ l _ (hl.mono RCrt.mono (vle_below hbW)) Hv.out).mono ?_
  rintro e w1 ⟨vd, rfl, hb1, od⟩
  have hbl1 := hbW.trans (hb1.mono hzW)
  have hkd1 := hkd.kept hb1
  have hz1 := hbl1.size
  rw [hDs.out] at od
  have rD := RDigs.of_own od (by rw [hdl.out]; omega)
  clear od g0 hkd
  obtain ⟨dA, dc, rfl, hfd⟩ := id rD
  have hzw1 : w.heap.size + 1 ≤ w1.heap.size := by have := hkd1.lt; omega
  obtain ⟨b0, o0, vb, vp, vv, rfl, q0, q1, q2, q3, q4, rb, rp, rvv⟩ := Hel.out K hkl
  obtain ⟨bA, bc, rfl, f1⟩ := id rb
  obtain ⟨pA, pc, rfl, f2⟩ := id rp
  rw [hTl.out] at q1
  have hround := (hF_say (Hv.out l[K] (List.getElem_mem hkl))).2.2
  rw [hTl.out] at hround
  clear hfd rb rp rvv f1 f2
  go_upto_region 2 with fail
  go_cut [6] (fun p w' => ∃ g1, p = .pointer (some ⟨g1, 0, none⟩) ∧ Blk w' g1 37 #[.int .i64 l[K].hdr.author, .int .i64 TR, .slice bA l[K].hdr.batches.length bc, .slice pA l[K].hdr.parents.length pc] ∧ Below w1.heap.size w1 w')
  case first =>
    refine wp_region_pl (fun w' => Below w1.heap.size w1 w') [9] (.q 0 (.q 1 (.q 2 (.q 3 (.alt 4 (.q 5 (.q 6 (.q 7 (.l 8 (.l 9 .nil))))) 8 (.l 4 (.q 5 (.q 6 (.q 7 (.l 9 .nil)))))))))) (by kernel_rfl) (by kernel_rfl) (fun _ _ d _ _ h => by cases d <;> exact h) rfl (by kernel_rfl) ?_ ?_
    · exact below_drew _
    intro W1 hS
    have hkl' : (K : Int) < (l.length : Int) := by omega
    repeat (first
      | (refine pl_q (by assumption) rfl rfl ?_; apply Exists.intro; refine ⟨fun w' hS => ?_, ?_⟩; (· (have hq := (hkd1.kept hS).cell 0; simp at hq; go_simp; exact rfl)); simp only [List.getElem_toArray, List.getElem_cons_zero, List.getElem_cons_succ, Act.put, List.setIfInBounds_toArray, List.set_cons_zero, List.set_cons_succ])
      | (refine pl_qc rfl rfl ?_; apply Exists.intro; refine ⟨fun w' _ => ?_, ?_⟩; (· (go_simp; exact rfl)); simp only [List.getElem_toArray, List.getElem_cons_zero, List.getElem_cons_succ, Act.put, List.setIfInBounds_toArray, List.set_cons_zero, List.set_cons_succ])
      | (refine pl_skip (by assumption) rfl rfl ?_; simp only [List.getElem_toArray, List.getElem_cons_zero, List.getElem_cons_succ, Act.put, List.setIfInBounds_toArray, List.set_cons_zero, List.set_cons_succ])
      | (refine pl_skipl (by assumption) rfl rfl ?_; simp only [List.getElem_toArray, List.getElem_cons_zero, List.getElem_cons_succ, Act.put, List.setIfInBounds_toArray, List.set_cons_zero, List.set_cons_succ]))
    refine pl_alt ?_ ?_
    · first
        | refine pl_do rfl rfl (fun K hK => ?_)
        | refine op_do rfl rfl (fun K hK => ?_)
      try simp only [List.getElem_toArray, List.getElem_cons_zero, List.getElem_cons_succ]
      go_simp
      refine (placeOf_any _ Ds _ k _ (rD.mono RDig.mono (vle_below hS)) (hk.mono (vle_below (hbl1.trans (hS.mono hz1))))).mono ?_
      rintro e w3 ⟨rfl, hb3⟩
      rw [hKI.out]
      have hS3 := hS.trans (hb3.mono hS.size)
      have hq3 := vle_below (hbl1.trans (hS3.mono hz1))
      refine hK.out _ _ (hS3) (fun hS => ?_)
      clear hK K
      try simp only [List.getElem_toArray, List.getElem_cons_zero, List.getElem_cons_succ, Act.put, List.setIfInBounds_toArray, List.set_cons_zero, List.set_cons_succ]
      repeat (first
        | (refine pl_q (by assumption) rfl rfl ?_; apply Exists.intro; refine ⟨fun w' hS => ?_, ?_⟩; (· (have hq := vle_below (hbl1.trans (hS.mono hz1)); have h0 := hq _ _ q0; have h1 := hq _ _ q1; have h2 := hq _ _ q2; have h3 := hq _ _ q3; go_simp; exact rfl)); simp only [List.getElem_toArray, List.getElem_cons_zero, List.getElem_cons_succ, Act.put, List.setIfInBounds_toArray, List.set_cons_zero, List.set_cons_succ])
        | (refine pl_qc rfl rfl ?_; apply Exists.intro; refine ⟨fun w' _ => ?_, ?_⟩; (· (go_simp; exact rfl)); simp only [List.getElem_toArray, List.getElem_cons_zero, List.getElem_cons_succ, Act.put, List.setIfInBounds_toArray, List.set_cons_zero, List.set_cons_succ])
        | (refine pl_skip (by assumption) rfl rfl ?_; simp only [List.getElem_toArray, List.getElem_cons_zero, List.getElem_cons_succ, Act.put, List.setIfInBounds_toArray, List.set_cons_zero, List.set_cons_succ])
        | (refine pl_skipl (by assumption) rfl rfl ?_; simp only [List.getElem_toArray, List.getElem_cons_zero, List.getElem_cons_succ, Act.put, List.setIfInBounds_toArray, List.set_cons_zero, List.set_cons_succ]))
      first
        | refine pl_do rfl rfl (fun K hK => ?_)
        | refine op_do rfl rfl (fun K hK => ?_)
      try simp only [List.getElem_toArray, List.getElem_cons_zero, List.getElem_cons_succ]
      go_simp
      have hn := Blk.new w3 37 #[.int .i64 0, .int .i64 0, .slice none 0 0, .slice none 0 0]
      have hS4 := hS3.trans ((below_one w3 (.cells #[.int .i64 0, .int .i64 0, .slice none 0 0, .slice none 0 0] 37)).mono hS3.size)
      have hz33 := hS3.size
      refine hK.out _ _ (hS4) (fun hS => ?_)
      clear hK K
      try simp only [List.getElem_toArray, List.getElem_cons_zero, List.getElem_cons_succ, Act.put, List.setIfInBounds_toArray, List.set_cons_zero, List.set_cons_succ]
      first
        | refine pl_close rfl rfl rfl (fun K hK => ?_)
        | refine op_close rfl rfl rfl (fun K hK => ?_)
      try simp only [List.getElem_toArray, List.getElem_cons_zero, List.getElem_cons_succ]
      refine wp_store_whole (n := 4) rfl rfl rfl (by kernel_rfl) rfl hn rfl rfl ?_
      intro w5 hB5 hg5
      refine hK.out _ _ ?_
      clear hK K
      try simp only [List.getElem_toArray, List.getElem_cons_zero, List.getElem_cons_succ, Act.put, List.setIfInBounds_toArray, List.set_cons_zero, List.set_cons_succ]
      refine pl_nil ?_
      go_wp2_with fail
      go_meet
      exact ⟨_, rfl, hB5, below_grownBy hS4 hS4.size hg5 (by intro q e; injection e; omega)⟩
    · first
        | refine pl_do rfl rfl (fun K hK => ?_)
        | refine op_do rfl rfl (fun K hK => ?_)
      try simp only [List.getElem_toArray, List.getElem_cons_zero, List.getElem_cons_succ]
      go_simp
      have hn := Blk.new W1 37 #[.int .i64 0, .int .i64 0, .slice none 0 0, .slice none 0 0]
      have hS2 := hS.trans ((below_one W1 (.cells #[.int .i64 0, .int .i64 0, .slice none 0 0, .slice none 0 0] 37)).mono hS.size)
      have hz22 := hS.size
      refine hK.out _ _ (hS2) (fun hS => ?_)
      clear hK K
      try simp only [List.getElem_toArray, List.getElem_cons_zero, List.getElem_cons_succ, Act.put, List.setIfInBounds_toArray, List.set_cons_zero, List.set_cons_succ]
      first
        | refine pl_do rfl rfl (fun K hK => ?_)
        | refine op_do rfl rfl (fun K hK => ?_)
      try simp only [List.getElem_toArray, List.getElem_cons_zero, List.getElem_cons_succ]
      go_simp
      refine (placeOf_any _ Ds _ k _ (rD.mono RDig.mono (vle_below hS2)) (hk.mono (vle_below (hbl1.trans (hS2.mono hz1))))).mono ?_
      rintro e w3 ⟨rfl, hb3⟩
      rw [hKI.out]
      have hS3 := hS2.trans (hb3.mono hS2.size)
      have hq3 := vle_below (hbl1.trans (hS3.mono hz1))
      refine hK.out _ _ (hS3) (fun hS => ?_)
      clear hK K
      try simp only [List.getElem_toArray, List.getElem_cons_zero, List.getElem_cons_succ, Act.put, List.setIfInBounds_toArray, List.set_cons_zero, List.set_cons_succ]
      repeat (first
        | (refine pl_q (by assumption) rfl rfl ?_; apply Exists.intro; refine ⟨fun w' hS => ?_, ?_⟩; (· (have hq := vle_below (hbl1.trans (hS.mono hz1)); have h0 := hq _ _ q0; have h1 := hq _ _ q1; have h2 := hq _ _ q2; have h3 := hq _ _ q3; go_simp; exact rfl)); simp only [List.getElem_toArray, List.getElem_cons_zero, List.getElem_cons_succ, Act.put, List.setIfInBounds_toArray, List.set_cons_zero, List.set_cons_succ])
        | (refine pl_qc rfl rfl ?_; apply Exists.intro; refine ⟨fun w' _ => ?_, ?_⟩; (· (go_simp; exact rfl)); simp only [List.getElem_toArray, List.getElem_cons_zero, List.getElem_cons_succ, Act.put, List.setIfInBounds_toArray, List.set_cons_zero, List.set_cons_succ])
        | (refine pl_skip (by assumption) rfl rfl ?_; simp only [List.getElem_toArray, List.getElem_cons_zero, List.getElem_cons_succ, Act.put, List.setIfInBounds_toArray, List.set_cons_zero, List.set_cons_succ])
        | (refine pl_skipl (by assumption) rfl rfl ?_; simp only [List.getElem_toArray, List.getElem_cons_zero, List.getElem_cons_succ, Act.put, List.setIfInBounds_toArray, List.set_cons_zero, List.set_cons_succ]))
      first
        | refine pl_close rfl rfl rfl (fun K hK => ?_)
        | refine op_close rfl rfl rfl (fun K hK => ?_)
      try simp only [List.getElem_toArray, List.getElem_cons_zero, List.getElem_cons_succ]
      refine wp_store_whole (n := 4) rfl rfl rfl (by kernel_rfl) rfl (hn.kept hb3) rfl rfl ?_
      intro w5 hB5 hg5
      refine hK.out _ _ ?_
      clear hK K
      try simp only [List.getElem_toArray, List.getElem_cons_zero, List.getElem_cons_succ, Act.put, List.setIfInBounds_toArray, List.set_cons_zero, List.set_cons_succ]
      refine pl_nil ?_
      go_wp2_with fail
      go_meet
      exact ⟨_, rfl, hB5, below_grownBy hS3 hS3.size hg5 (by intro q e; injection e; omega)⟩
  case rest =>
    obtain ⟨g1, rfl, hH, hbc⟩ := hcut
    obtain ⟨w2, hw2⟩ : ∃ w2 : World, w2 = wc := ⟨_, rfl⟩
    subst hw2
    have hkdc := hkd1.kept hbc
    have hblc := hbl1.trans (hbc.mono hz1)
    have hzc := hblc.size
    have hltg1 := hH.lt
    have rDc := rD.mono RDig.mono (vle_below hbc)
    have g0 := hkdc.cell 0
    simp at g0
    have hmk : ∀ W', (Instr.makeSlice 146 (.int .i64 (l.length : Int)) (.int .i64 (l.length : Int))).run Tryd.prog W' = .ok (.slice (some ⟨W'.heap.size, 0, none⟩) l.length l.length) (W'.alloc (.cells (madeCells #[.bool false] l.length) 4)) := fun W' => run_make_row' 146 4 (.bool false) 1 Tryd.underlying146 (by kernel_rfl) rfl _ _ _ (by omega) (by omega) W'
    go_upto_region 4 with fail
    refine one_block _ _ _ (fun W => Code.wp _ _ _ _ W) (fun W3 hA hsA hbA => ?_)
    rw [wantC_made] at hA
    have hz3 : w2.heap.size + 1 ≤ W3.heap.size := by omega
    have hkl' : (K : Int) < (l.length : Int) := by omega
    clear hmk hsA hkd1 g0
    go_wp2_with fail
    refine (placeOf_any _ Ds _ k _ (rDc.mono RDig.mono (vle_below hbA)) (hk.mono (vle_below (hblc.trans (hbA.mono hzc))))).mono ?_
    rintro e w4 ⟨rfl, hb4⟩
    rw [hKI.out]
    have hA4 := hA.kept hb4
    clear hA
    have hfit : K + 1 ≤ (wantC (List.replicate l.length false)).size := by rw [wantC_size, List.length_replicate]; omega
    go_wp2_with (refine wpList_store_blkD (n := 1) rfl rfl rfl rfl (by kernel_rfl) rfl hA4 hfit rfl ?_)
    intro w5 hA5 hg5
    rw [wantC_set (by rw [List.length_replicate]; omega)] at hA5
    have hwant := Want.start (k := K) Hg.out (n := l.length) rfl hkl
    have hbl4 := hbA.trans (hb4.mono hbA.size)
    have hbl5 : Below w2.heap.size w2 w5 := below_grownBy hbl4 hbl4.size hg5 (by intro q e; injection e; omega)
    have g0 := (hkdc.kept hbl5).cell 0
    simp at g0
    have hwl : IntKind.i64.wrap ((l.length : Int) - 1) = (l.length : Int) - 1 := by rw [IntKind.wrap_i64]; omega
    clear hA4 hg5 hb4
    go_upto_block 0 with fail
    go_cut [8, 9] (fun _ _ w' => ∃ ws, Want l Ds K ws 0 ∧ Blk w' w2.heap.size 4 (wantC ws) ∧ Below w2.heap.size w2 w')
    case first =>
      go_wp2_with fail
      go_loopw [8, 9] (fun i _ wr => ∃ (m : Nat) (z : Int) (ws : List Bool), i = .int .i64 z ∧ Hid (z = (m : Int) - 1) ∧ -1 ≤ z ∧ z ≤ 399 ∧ m ≤ l.length ∧ Want l Ds K ws m ∧ Blk wr w2.heap.size 4 (wantC ws) ∧ Below w2.heap.size w2 wr) (fun i _ _ => (intOf i + 1).toNat)
      case atStart => exact ⟨l.length, (l.length : Int) - 1, _, rfl, rfl, by omega, by omega, Nat.le_refl _, hwant, hA5, hbl5⟩
      case round =>
        obtain ⟨m, z, ws, rfl, hz, hz0, hz1', hml, hw, hA, hbl⟩ := hrel
        have hzr := hbl.size
        by_cases hm : m = 0
        · subst hm
          have hzn : ¬ (0 : Int) ≤ z := by have := hz.out; omega
          go_wp2
          go_meet
          exact ⟨ws, hw, hA, hbl⟩
        · obtain ⟨n, rfl⟩ : ∃ n, m = n + 1 := ⟨m - 1, by omega⟩
          obtain rfl : z = (n : Int) := by have := hz.out; omega
          have hnl : n < l.length := by omega
          have hwl2 := hw.len
          obtain ⟨Wt, hWt⟩ : ∃ Wt, ws[n]? = some Wt := ⟨ws[n]'(by omega), by simp [show n < ws.length by omega]⟩
          go_wp2_with fail
          obtain ⟨wo, hwo⟩ : ∃ wo : World, wo = wr := ⟨_, rfl⟩
          subst hwo
          have hwz : IntKind.i64.wrap ((n : Int) - 1) = (n : Int) - 1 := by rw [IntKind.wrap_i64]; omega
          have hnl' : (n : Int) < l.length := by omega
          have hA0 := hA.cell n
          rw [wantC_at, hWt] at hA0
          simp at hA0
          obtain ⟨c0, d0, ub, up, uv, eA, p0, p1, p2, p3, p4, sb, sp, sv⟩ := Hel.out n hnl
          injection eA with eA
          injection eA with eb eo _
          subst eb eo
          have hgpar := Lib.hid (fun p (hp : p < l[n].hdr.parents.length) => Hg.out.par n l[n] (by simp [hnl]) _ (List.getElem_mem hp))
          have hcert : l[n]? = some l[n] := by simp [hnl]
          obtain ⟨uA, uc, rfl, uf⟩ := id sp
          obtain ⟨_, hun1, _, huel⟩ := RDigs.at sp
          have Huel := Lib.hid huel
          have g0' := (hkdc.kept hbl).cell 0
          simp at g0'
          have p3' := vle_below (hblc.trans (hbl.mono hzc)) _ _ p3
          clear uf huel sb sp sv p0 p1 p2 p4
          generalize hX : l[n] = x at *
          have hfew : x.hdr.parents.length ≤ 4 := Hg.out.few x (by rw [← hX]; exact List.getElem_mem hnl)
          cases Wt
          · have hnot := Lib.hid (hw.not (show ws[n]? ≠ some true by rw [hWt]; decide))
            clear hX hcert
            go_loopw [9] (fun i wr => i = .int .i64 0 ∧ wr = wo) (fun _ _ => 0)
            case atStart => exact ⟨rfl, rfl⟩
            case round =>
              obtain ⟨rfl, rfl⟩ := hrel
              by_cases hpz : (0 : Int) < (x.hdr.parents.length : Int)
              · go_wp2
                go_roundw
                case rel => exact ⟨n, (n : Int) - 1, ws, rfl, rfl, by omega, by omega, by omega, hnot.out, hA, hbl⟩
                case measure => simp [intOf] <;> omega
              · go_wp2
                go_roundw
                case rel => exact ⟨n, (n : Int) - 1, ws, rfl, rfl, by omega, by omega, by omega, hnot.out, hA, hbl⟩
                case measure => simp [intOf] <;> omega
          · have hst := Lib.hid (WantP.start hw hcert hWt)
            clear hX hcert hA0 g0' p3'
            go_loopw [9] (fun i wr => ∃ (p : Nat) (ws' : List Bool), i = .int .i64 p ∧ p ≤ x.hdr.parents.length ∧ WantP l Ds K ws' n x p ∧ Blk wr w2.heap.size 4 (wantC ws') ∧ Below w2.heap.size w2 wr) (fun i _ => x.hdr.parents.length - (intOf i).toNat)
            case atStart => exact ⟨0, ws, rfl, Nat.zero_le _, hst.out, hA, hbl⟩
            case round =>
              clear hA hbl hst hw hWt hzr
              obtain ⟨p, ws', rfl, hp, hwp, hA, hbl⟩ := hrel
              have hzr := hbl.size
              have g0' := (hkdc.kept hbl).cell 0
              simp at g0'
              have p3' := vle_below (hblc.trans (hbl.mono hzc)) _ _ p3
              have hA0 := hA.cell n
              rw [wantC_at, hwp.on] at hA0
              simp at hA0
              have hwl3 := hwp.want.len
              by_cases hpl : p < x.hdr.parents.length
              · have hpl' : (p : Int) < (x.hdr.parents.length : Int) := by omega
                obtain ⟨e0, f0, dv, rfl, e1, rdv⟩ := Huel.out p hpl
                have e1' := vle_below (hblc.trans (hbl.mono hzc)) _ _ e1
                obtain ⟨q1', q2', _⟩ := hgpar.out p hpl
                have hnx := Lib.hid (hwp.next Hg.out hpl)
                obtain ⟨J, hJ⟩ : ∃ J, Hid (plc Ds (x.hdr.parents[p]'hpl) = J) := ⟨plc Ds (x.hdr.parents[p]'hpl), rfl⟩
                have hJI : Hid (placeI Ds x.hdr.parents[p] = (J : Int)) := by show _ = _; rw [← hJ.out]; unfold plc; omega
                rw [hJ.out] at q2' hnx
                have hJl : J < l.length := by omega
                have hJl' : (J : Int) < (l.length : Int) := by omega
                generalize x.hdr.parents[p] = y at *
                clear e1 q1' hwp
                go_wp2_with fail
                refine (placeOf_any _ Ds _ y _ (rDc.mono RDig.mono (vle_below hbl)) (rdv.mono (vle_below (hblc.trans (hbl.mono hzc))))).mono ?_
                rintro e w6 ⟨rfl, hb6⟩
                rw [hJI.out]
                have hA6 := hA.kept hb6
                have hfit : J + 1 ≤ (wantC ws').size := by rw [wantC_size]; omega
                have hbl6 := hbl.trans (hb6.mono hzr)
                clear hA hA0 g0' p3' e1' rdv
                go_wp2_with (refine wpList_store_blkD (n := 1) rfl rfl rfl rfl (by kernel_rfl) rfl hA6 hfit rfl ?_)
                intro w7 hA7 hg7
                rw [wantC_set (by omega)] at hA7
                have hbl7 : Below w2.heap.size w2 w7 := below_grownBy hbl6 hbl6.size hg7 (by intro q e; injection e; omega)
                go_wp2
                go_roundw
                case rel => exact ⟨p + 1, _, by go_num, by omega, hnx.out, hA7, hbl7⟩
                case measure => simp [intOf] <;> omega
              · have hpl' : ¬ (p : Int) < (x.hdr.parents.length : Int) := by omega
                have hdone := hwp.done (by omega)
                clear hwp
                go_wp2
                go_roundw
                case rel => exact ⟨n, (n : Int) - 1, ws', rfl, rfl, by omega, by omega, by omega, hdone, hA, hbl⟩
                case measure => simp [intOf] <;> omega
    case rest =>
      obtain ⟨ws, hw, hA, hblw⟩ := hcut
      have hzw := hblw.size
      have hHc := hH.kept hblw
      have hkc := hkdc.kept hblw
      have hblc2 := hblc.trans (hblw.mono hzc)
      have hzc2 := hblc2.size
      have hwlen := hw.len
      have hltg := hHc.lt
      have hltA := hA.lt
      clear hwant hA5 g0 hwl hbl5 hbl4 hdl hKI rDc rD hkl'
      go_wp2_with fail
      go_loopw [10, 11, 12, 13] (fun v i _ _ wr => ∃ (q : Nat) (z : Int), i = .int .i64 z ∧ Hid (z = 1 + (q : Int)) ∧ 1 ≤ z ∧ z ≤ TR + 1 ∧ OwnSl 4 (RHdrAt w) 37 wr wc.heap.size v ((docH l ws q).map (hdrAt l)) ∧ Below wc.heap.size wc wr) (fun _ i _ _ _ => (TR + 1 - intOf i).toNat)
      case atStart => exact ⟨0, 1, rfl, rfl, by omega, by omega, OwnSl.nil _ _ _ _ _, Below.refl _ _⟩
      case round =>
        obtain ⟨q, z, rfl, hz, hz0, hzT, hown, hbl⟩ := hrel
        have hzr := hbl.size
        have y1 := (hHc.kept hbl).cell 1
        simp at y1
        by_cases hle : z ≤ TR
        · have hwz : IntKind.i64.wrap (z + 1) = z + 1 := by rw [IntKind.wrap_i64]; omega
          go_wp2_with fail
          obtain ⟨wo, hwo⟩ : ∃ wo : World, wo = wr := ⟨_, rfl⟩
          subst hwo
          go_loopw [10, 12, 13] (fun v i _ wr => ∃ n : Nat, n ≤ 4 ∧ i = .int .i64 n ∧ OwnSl 4 (RHdrAt w) 37 wr wc.heap.size v ((docH l ws q ++ rowN l ws (1 + q) n).map (hdrAt l)) ∧ Below wc.heap.size wc wr) (fun _ i _ _ => 4 - (intOf i).toNat)
          case atStart => exact ⟨0, by omega, rfl, by simpa [rowN] using hown, hbl⟩
          case round =>
            clear hown hbl hzr y1
            obtain ⟨n, hn4, rfl, hown, hbl⟩ := hrel
            have hzr := hbl.size
            by_cases hn : n < 4
            · have hn' : (n : Int) < 4 := by omega
              have g0 := (hkc.kept hbl).cell 0
              simp at g0
              have hll := rowN_len l ws q n hn4
              have hrow := Lib.hid (rowN_succ l ws (1 + q) n)
              have hcl := hblc2.trans (hbl.mono hzc2)
              have hpick : Hid (pickH l ws z n = pickH l ws (1 + q) n) := by show _ = _; rw [hz.out]
              go_wp2_with fail
              refine (certOf_any _ l n z wr (hl.mono RCrt.mono (vle_below hcl))).mono ?_
              rintro e w6 ⟨rfl, hb6⟩
              have hown6 := hown.kept (RHdrAt.mono w) hb6
              have hbl6 := hbl.trans (hb6.mono hzr)
              have hcl6 := hcl.trans (hb6.mono hcl.size)
              have hz6 := hbl6.size
              clear hown g0
              rcases idxI_cases (isCert n z) l with ⟨hneg, _⟩ | ⟨kk, hkk, hpos, _, _⟩
              · have hcI : certI l (n : Int) z = -1 := hneg
                have hnone : pickH l ws z n = none := by unfold pickH; rw [hcI]; exact if_neg (by omega)
                have ho : OwnSl 4 (RHdrAt w) 37 w6 wc.heap.size u10 ((docH l ws q ++ rowN l ws (1 + q) (n + 1)).map (hdrAt l)) := by
                  rw [hrow.out, ← hpick.out, hnone]
                  simpa using hown6
                rw [hcI]
                clear hown6 hneg hcI hnone hrow hpick
                go_wp2
                go_roundw
                case rel => exact ⟨n + 1, by omega, by go_num, ho, hbl6⟩
                case measure => simp [intOf] <;> omega
              · have hcI : certI l (n : Int) z = (kk : Int) := hpos
                have hkw : kk < ws.length := by omega
                obtain ⟨Wt, hWt⟩ : ∃ Wt, ws[kk]? = some Wt := ⟨ws[kk], by simp [hkw]⟩
                have hA0 := (hA.kept hbl6).cell kk
                rw [wantC_at, hWt] at hA0
                simp at hA0
                have hkk' : (kk : Int) < (l.length : Int) := by omega
                have hkk0 : (0 : Int) ≤ (kk : Int) := by omega
                rw [hcI]
                cases Wt
                · have hnone : pickH l ws z n = none := by
                    unfold pickH
                    rw [hcI]
                    exact if_neg (fun h => by have := h.2; simp [hWt] at this)
                  have ho : OwnSl 4 (RHdrAt w) 37 w6 wc.heap.size u10 ((docH l ws q ++ rowN l ws (1 + q) (n + 1)).map (hdrAt l)) := by
                    rw [hrow.out, ← hpick.out, hnone]
                    simpa using hown6
                  clear hown6 hpos hcI hnone hrow hpick hWt
                  go_wp2
                  go_roundw
                  case rel => exact ⟨n + 1, by omega, by go_num, ho, hbl6⟩
                  case measure => simp [intOf] <;> omega
                · have hsome : pickH l ws z n = some kk := by
                    unfold pickH
                    rw [hcI]
                    exact if_pos ⟨hkk0, by simpa using hWt⟩
                  have hnx : Hid ((docH l ws q ++ rowN l ws (1 + q) (n + 1)).map (hdrAt l) = (docH l ws q ++ rowN l ws (1 + q) n).map (hdrAt l) ++ [l[kk].hdr]) := by
                    show _ = _
                    rw [hrow.out, ← hpick.out, hsome]
                    have : hdrAt l kk = l[kk].hdr := by unfold hdrAt; simp [hkk]
                    simp [this]
                  have hLl : Hid (((docH l ws q ++ rowN l ws (1 + q) n).map (hdrAt l)).length ≤ 400) := by show _ ≤ _; rw [List.length_map]; omega
                  obtain ⟨c0, d0, ub, up, uv, eA, p0, p1, p2, p3, p4, sb, sp, sv⟩ := Hel.out kk hkk
                  injection eA with eA
                  injection eA with eb eo _
                  subst eb eo
                  obtain ⟨sA, sc, rfl, sf⟩ := id sb
                  obtain ⟨tA, tc, rfl, tf⟩ := id sp
                  have hq6 := vle_below hcl6
                  have r0 := hq6 _ _ p0
                  have r1 := hq6 _ _ p1
                  have r2 := hq6 _ _ p2
                  have r3 := hq6 _ _ p3
                  have g0 := (hkc.kept hbl6).cell 0
                  simp at g0
                  generalize (docH l ws q ++ rowN l ws (1 + q) n).map (hdrAt l) = L at hown6 hnx hLl
                  clear sf tf sv p0 p1 p2 p3 p4 hsome hpos hcI hrow hpick hWt
                  generalize l[kk].hdr = y at *
                  have hR : RHdrAt w (View.but w6.cell? u10.ownBlock) [.int .i64 y.author, .int .i64 y.round, .slice sA y.batches.length sc, .slice tA y.parents.length tc] y := ⟨_, _, rfl, sb, sp⟩
                  go_wp2_with (at_builtin; go_loud (refine wpList_append_sl1 (n := 140737488355328) (RHdrAt.mono w) y [.int .i64 y.author, .int .i64 y.round, .slice sA y.batches.length sc, .slice tA y.parents.length tc] elemHdr _ _ rfl rfl rfl hown6 hbl6 hz6 rfl rfl rfl rfl hR (Nat.le_refl _) (by have := hLl.out; omega) (by have := hLl.out; omega) ?_))
                  intro v' w7 ho hbl7 _
                  rw [← hnx.out] at ho
                  clear hown6 hR hA0 hnx
                  go_wp2
                  go_roundw
                  case rel => exact ⟨n + 1, by omega, by go_num, ho, hbl7⟩
                  case measure => simp [intOf] <;> omega
            · have hn' : ¬ (n : Int) < 4 := by omega
              have h4n : n = 4 := by omega
              subst h4n
              rw [← docH_succ] at hown
              go_wp2
              go_roundw
              case rel => exact ⟨q + 1, z + 1, rfl, by show _ = _; have := hz.out; omega, by omega, by omega, hown, hbl⟩
              case measure => simp [intOf] <;> omega
        · have hq : TR.toNat = q := by have := hz.out; omega
          have hr := hown.reads (bs := 64) (RHdrAt.mono w) (by have := docH_len l ws q; simp; omega)
          rw [← hq] at hr
          obtain ⟨oA, oc, hof⟩ := hown.form
          obtain ⟨ln, hln⟩ : ∃ ln, Hid (((docH l ws q).map (hdrAt l)).length = ln) := ⟨_, rfl⟩
          rw [hln.out] at hof
          subst hof
          clear hown hln hq
          go_wp2
          go_ret
          exact ⟨_, rfl, hblc2.trans (hbl.mono hzc2), ws, hw, hr⟩
end Go.Proofs.YtedealljhmokoaaDoor

namespace Go.Proofs.YtedealljhmokoaaDoor
open Go.ChangeShapes Go.WideShapes Go.ChangeAt Go.RowKit
set_option linter.unusedVariables false
set_option linter.unusedSimpArgs false
/-- what the document's history answers -/
def DocP (l : List Crt) (k : List UInt8) (L : List (List UInt8)) : Prop := ∃ ws : List Bool, Want l (dsOf hD l) (plc (dsOf hD l) k) ws 0 ∧ L = ((docH l ws (hdrAt l (plc (dsOf hD l) k)).round.toNat).map (hdrAt l)).map hD
theorem his_doc {l : List Crt} {k : List UInt8} {L L' : List (List UInt8)} (hE : foundE l k = 0) (h1 : HisP l k L) (h2 : DocP l k L') : L = L' := by
  obtain ⟨met, ys, hd, hp, hs, rfl⟩ := h1
  obtain ⟨ws, hw, rfl⟩ := h2
  obtain ⟨hdag, hpl⟩ := found_zero hE
  have hg := dag_good hdag
  have hkl : plc (dsOf hD l) k < l.length := by have := place_lt hpl; rwa [dsOf_len] at this
  have htop : hdrAt l (plc (dsOf hD l) k) = l[plc (dsOf hD l) k].hdr := by unfold hdrAt; simp [hkl]
  have hr1 := hg.rnd _ (List.getElem_mem hkl)
  have e := hist_is (top := (hdrAt l (plc (dsOf hD l) k)).round.toNat) hg hw (fun i c hi hc => by
    obtain ⟨c', h3, h4⟩ := Rch.round hg (hw.rch i hi) (ck := l[plc (dsOf hD l) k]) (by simp [hkl])
    rw [hc] at h3
    obtain rfl := Option.some.inj h3
    rw [htop]
    omega) hd hp hs
  rw [e, List.map_map]
  refine List.map_congr_left fun i hi => ?_
  rw [← e] at hi
  have hil : i < l.length := List.mem_range.1 (List.mem_filter.1 (hp.mem_iff.1 hi)).1
  simp only [Function.comp, List.getD_eq_getElem?_getD]
  unfold dsOf hdrAt
  simp [hil]
theorem hdr_at {h : View} {w0 : World} {A : Option Addr} {n c : Nat} {xs : List Hdr} (hr : RSl 4 (RHdrAt w0) 64 h (.slice A n c) xs) : n = xs.length ∧ n ≤ c ∧ n * 64 ≤ 140737488355328 ∧ ∀ k (hk : k < xs.length), ∃ b o vb vp, A = some ⟨b, o, none⟩ ∧ h ⟨b, o + k * 4, none⟩ = some (.int .i64 xs[k].author) ∧ h ⟨b, o + k * 4 + 1, none⟩ = some (.int .i64 xs[k].round) ∧ h ⟨b, o + k * 4 + 2, none⟩ = some vb ∧ h ⟨b, o + k * 4 + 3, none⟩ = some vp ∧ RDigs w0.cell? vb xs[k].batches ∧ RDigs w0.cell? vp xs[k].parents := by
  obtain ⟨A', c', e, h1, _, h2, _, h3⟩ := hr
  injection e with e1 e2 e3
  subst e1 e2 e3
  refine ⟨rfl, h1, h2, fun k hk => ?_⟩
  obtain ⟨b, o, ea, hc⟩ := h3 (by omega)
  obtain ⟨cs, hl, hcell, vb, vp, rfl, q1, q2⟩ := hc k hk
  exact ⟨b, o, vb, vp, ea, hcell 0 (by omega), hcell 1 (by omega), hcell 2 (by omega), hcell 3 (by omega), q1, q2⟩
set_option maxHeartbeats 4000000 in
set_option maxRecDepth 100000 in
theorem historyOfE_any (vl vk : Value) (l : List Crt) (k : List UInt8) (w : World) (hl : RCrts w.cell? vl l) (hk : RBytes w.cell? vk k) :
    Calls Tryd.prog 52 #[.agg #[vl], vk] w fun e w' => ∃ d, e = .returned (.tuple #[d, .int .i64 (foundE l k)]) ∧ HisOut DocP l k (foundE l k) w w' d := by
  obtain ⟨A, c, rfl, hform⟩ := id hl
  obtain ⟨kA, kc, rfl, hform2⟩ := id hk
  clear hform hform2
  obtain ⟨E, hE⟩ : ∃ E, Hid (foundE l k = E) := ⟨_, rfl⟩
  have hz := @found_zero l k
  rw [hE.out] at hz ⊢
  have Hz := Lib.hid hz
  clear hz
  go_enter Tryd.func52, Tryd.ntmps52
  go_upto_region 1 with fail
  refine one_block _ _ _ (fun W => Code.wp _ _ _ _ W) (fun W hkd hsz hbW => ?_)
  have hzW := hbW.size
  have g0 := hkd.cell 0
  simp at g0
  clear hsz
  go_wp2_with fail
  refine (foundIn_any _ _ l k _ (hl.mono RCrt.mono (vle_below hbW)) (hk.mono (vle_below hbW))).mono ?_
  rintro e w1 ⟨cs, rfl, hb1, vb, vp, vv, rfl, rb, rp, rv⟩
  rw [hE.out]
  have hbl1 := hbW.trans (hb1.mono hzW)
  have hkd1 := hkd.kept hb1
  have hz1 := hbl1.size
  obtain ⟨bA, bc, rfl, f1⟩ := id rb
  obtain ⟨pA, pc, rfl, f2⟩ := id rp
  obtain ⟨vA, vc, rfl, f3⟩ := id rv
  clear f1 f2 f3 g0 rb rp rv
  go_upto_region 2 with fail
  refine one_block _ _ _ (fun W => Code.wp _ _ _ _ W) (fun W2 hX hsX hbX => ?_)
  have hbl2 := hbl1.trans (hbX.mono hz1)
  have hkd2 := hkd1.kept hbX
  have hz2 := hbl2.size
  clear hX hsX hkd1
  by_cases hE0 : E = 0
  rotate_left
  · go_wp2
    go_ret2
    exact ⟨_, rfl, hbl2, [], RDigs.nil _, fun _ => rfl, fun h => absurd h hE0⟩
  obtain ⟨hdag, hpl⟩ := Hz.out hE0
  subst hE0
  obtain ⟨hL, hA, h4, hv⟩ := dag_lone hdag
  have hgd := dag_good hdag
  have hkl : plc (dsOf hD l) k < l.length := by have := place_lt hpl; rwa [dsOf_len] at this
  have Hall := Lib.hid (And.intro hgd (And.intro hv (And.intro hpl hkl)))
  clear hgd hv hpl hkl hL hA hdag Hz
  have g0 := hkd2.cell 0
  simp at g0
  go_wp2_with fail
  refine (historyOf_any _ _ l k W2 (hl.mono RCrt.mono (vle_below hbl2)) (hk.mono (vle_below hbl2)) Hall.out.1 Hall.out.2.1 h4 Hall.out.2.2.1 Hall.out.2.2.2).mono ?_
  rintro e w3 ⟨vh, rfl, hb3, ws, hw, hr⟩
  have hbl3 := hbl2.trans (hb3.mono hz2)
  have hz3 := hbl3.size
  have hdl := docH_len l ws (hdrAt l (plc (dsOf hD l) k)).round.toNat
  have HP : Hid (DocP l k (((docH l ws (hdrAt l (plc (dsOf hD l) k)).round.toNat).map (hdrAt l)).map hD)) := ⟨ws, hw, rfl⟩
  have hvalid : Hid (∀ h ∈ (docH l ws (hdrAt l (plc (dsOf hD l) k)).round.toNat).map (hdrAt l), hF h = 0) := fun h hh => by
    obtain ⟨i, hi, rfl⟩ := List.mem_map.1 hh
    have hil : i < l.length := by
      unfold docH rowH at hi
      obtain ⟨r, _, hm⟩ := List.mem_flatMap.1 hi
      obtain ⟨n, _, hp⟩ := List.mem_filterMap.1 hm
      obtain ⟨c, hc, _⟩ := pickH_some hp
      exact (List.getElem?_eq_some_iff.1 hc).1
    have : hdrAt l i = l[i].hdr := by unfold hdrAt; simp [hil]
    rw [this]
    exact Hall.out.2.1 _ (List.getElem_mem hil)
  have hHl : Hid (((docH l ws (hdrAt l (plc (dsOf hD l) k)).round.toNat).map (hdrAt l)).length ≤ 400) := by show _ ≤ _; rw [List.length_map]; omega
  clear hw g0 hdl hkd2
  generalize (docH l ws (hdrAt l (plc (dsOf hD l) k)).round.toNat).map (hdrAt l) = Hs at *
  obtain ⟨hA', hc', rfl, hf⟩ := id hr
  obtain ⟨_, hn1, hn2, hel⟩ := hdr_at hr
  have Hel := Lib.hid hel
  clear hf hel hr
  have hH4 := hHl.out
  go_wp2_with fail
  go_loopw [9, 10, 11] (fun v i _ wr => ∃ j : Nat, j ≤ Hs.length ∧ i = .int .i64 j ∧ OwnSl 1 (RFrom w3.heap.size RDig) 25 wr w3.heap.size v ((Hs.take j).map hD) ∧ Below w3.heap.size w3 wr) (fun _ i _ _ => Hs.length - (intOf i).toNat)
  case atStart => exact ⟨0, Nat.zero_le _, rfl, OwnSl.nil _ _ _ _ _, Below.refl _ _⟩
  case round =>
    obtain ⟨j, hj, rfl, hown, hbl⟩ := hrel
    have hbs := hbl.size
    by_cases hlt : j < Hs.length
    · obtain ⟨b0, o0, ub, up, rfl, q0, q1, q2, q3, sb, sp⟩ := Hel.out j hlt
      have q := vle_below hbl
      have c0 := q _ _ q0; have c1 := q _ _ q1; have c2 := q _ _ q2; have c3 := q _ _ q3
      have hval := Lib.hid (hvalid.out Hs[j] (List.getElem_mem hlt))
      have Hn := Lib.hid (show (Hs.take (j + 1)).map hD = (Hs.take j).map hD ++ [hD Hs[j]] by rw [List.take_succ_eq_append_getElem hlt, List.map_append, List.map_singleton])
      have Hlk := Lib.hid (show ((Hs.take j).map hD).length ≤ 400 by simp; omega)
      obtain ⟨sA, sc, rfl, sf⟩ := id sb
      obtain ⟨tA, tc, rfl, tf⟩ := id sp
      have sb' := sb.mono RDig.mono ((vle_below hb3).trans q)
      have sp' := sp.mono RDig.mono ((vle_below hb3).trans q)
      clear q0 q1 q2 q3 sb sp sf tf
      generalize (Hs.take j).map hD = L at hown Hn Hlk
      generalize Hs[j] = x at *
      obtain ⟨z0, z1, z2⟩ := headF_zero4 hval.out
      go_wp2_with fail
      refine (headerDigestR_any _ _ _ _ x.batches x.parents _ (by omega) (by omega) sb' sp' (by omega)).mono ?_
      rintro e w4 ⟨d, rfl, hb4, hr⟩
      have hr : RBytes (View.from w4.cell? wr.heap.size) d (hD x) := hr
      have hown4 := hown.kept (RFrom.mono RDig.mono) hb4
      have hbl4 := hbl.trans (hb4.mono hbs)
      have hz4 := hbl4.size
      have hR : RFrom w3.heap.size RDig (View.but w4.cell? u9.ownBlock) [d] (hD x) :=
        ⟨d, rfl, hr.mono (from_from_but hbs (fun g hg => (hown.lt g hg).2))⟩
      obtain ⟨A', c', rfl, hform⟩ := id hr
      clear hform c0 c1 c2 c3 sb' sp' hr hown
      go_wp2_with (at_builtin; go_loud (refine wpList_append_sl1 (n := 140737488355328) (RFrom.mono RDig.mono) (hD x) [.slice A' (hD x).length c'] elemDig _ _ rfl rfl rfl hown4 hbl4 hz4 rfl rfl rfl rfl hR (Nat.le_refl _) (by have := Hlk.out; omega) (by have := Hlk.out; omega) ?_))
      intro v' w5 ho hbl5 _
      rw [← Hn.out] at ho
      clear hown4 hR
      go_wp2
      go_roundw
      case rel => exact ⟨j + 1, by omega, by go_num, ho, hbl5⟩
      case measure => simp [intOf] <;> omega
    · have hjl : j = Hs.length := by omega
      subst hjl
      rw [List.take_length] at hown
      have rV := RDigs.of_own hown (by simp; omega)
      obtain ⟨ln, hln⟩ : ∃ ln, Hid ((Hs.map hD).length = ln) := ⟨_, rfl⟩
      obtain ⟨A3, c3, hvf⟩ := hown.form
      rw [hln.out] at hvf
      subst hvf
      clear hown hln
      go_wp2
      go_ret2
      exact ⟨_, rfl, hbl3.trans (hbl.mono hz3), _, rV, fun h => absurd rfl h, fun _ => HP.out⟩
end Go.Proofs.YtedealljhmokoaaDoor

namespace Go.Proofs.YtedealljhmokoaaDoor
open Go.ChangeShapes Go.WideShapes Go.ChangeAt Go.RowKit
set_option linter.unusedVariables false
set_option maxRecDepth 100000 in
theorem opens_crts : OpensTo Tryd.prog 51 (fun h cs (xs : List Crt) => ∃ v, cs = [v] ∧ RCrts h v xs) :=
  opens_sl Tryd.underlying51 (by kernel_rfl) (by decide) (by kernel_rfl) (R := RCrt) opens_crt
section
variable {H : Type} {enc : TypeId × Value → H} {W : World} {base : Nat} {v : Value} {d : DataW H} {p : List MemPlace}
set_option maxRecDepth 100000 in
theorem open_dag (hval : Value.okWide Tryd.prog W .any base 53 v) (h : DataW.Trod enc Tryd.prog W 0 (fun _ => true) true 53 v d p) (hw : ∀ n ∈ DataW.weights Tryd.prog 53 d, n ≤ reachBytes) :
    ∃ (l : List Crt) (x : Value), v = .agg #[x] ∧ RCrts W.cell? x l := by
  obtain ⟨fuel, h⟩ := h
  obtain ⟨hl, hf⟩ := opens_fields Tryd.underlying53 h hw
  obtain ⟨l, v', hd, hb⟩ := hf 0 51 0 1 rfl (by kernel_rfl) opens_crts
  have hl' : v.cells.toList.length = 1 := hl.trans (by kernel_rfl)
  match hcs : v.cells.toList, hl' with
  | [c0], _ =>
    rw [hcs] at hd
    simp at hd
    subst hd
    exact ⟨l, _, agg_of Tryd.underlying53 hval hcs, hb⟩
set_option maxRecDepth 100000 in
theorem open_bytesD (hval : Value.okWide Tryd.prog W .any base 25 v) (h : DataW.Trod enc Tryd.prog W 0 (fun _ => true) true 25 v d p)
    (hw : ∀ n ∈ DataW.weights Tryd.prog 25 d, n ≤ reachBytes) : ∃ b, RBytes W.cell? v b := open_cellD (R := RBytes) Tryd.underlying25 hval h hw opens_bytes
end
end Go.Proofs.YtedealljhmokoaaDoor

namespace Go.Proofs.YtedealljhmokoaaDoor
open Go.ChangeShapes Go.WideShapes Go.ChangeAt Go.RowKit
set_option linter.unusedVariables false
set_option linter.unusedSimpArgs false
theorem his_same {l : List Crt} {k : List UInt8} {E : Int} {L L' : List (List UInt8)} (hE : foundE l k = E) (h1 : E ≠ 0 → L = []) (h2 : E = 0 → HisP l k L) (h3 : E ≠ 0 → L' = []) (h4 : E = 0 → DocP l k L') : L = L' := by
  by_cases h : E = 0
  · exact his_doc (hE.trans h) (h2 h) (h4 h)
  · rw [h1 h, h3 h]
set_option maxHeartbeats 4000000 in
set_option maxRecDepth 100000 in
theorem orderHistories_any (vl vk : Value) (l : List Crt) (k : List UInt8) (w : World) (hl : RCrts w.cell? vl l) (hk : RBytes w.cell? vk k) (hT : Tabs w.cell?) :
    Calls Tryd.prog 14 #[.agg #[vl], vk] w fun e w' => e = .returned (.bool true) ∧ Below w.heap.size w w' := by
  obtain ⟨A, c, rfl, hf0⟩ := id hl
  obtain ⟨kA, kc, rfl, hf1⟩ := id hk
  clear hf0 hf1
  have hlen : l.length * 88 ≤ 140737488355328 := by obtain ⟨_, _, _, _, _, h, _⟩ := hl; exact h
  have hkl := hk.len
  obtain ⟨E, hE⟩ : ∃ E, Hid (foundE l k = E) := ⟨_, rfl⟩
  go_enter Tryd.func14, Tryd.ntmps14
  go_upto_region 1 with fail
  refine one_block _ _ _ (fun W => Code.wp _ _ _ _ W) (fun W hk1 hsz hbW => ?_)
  clear hsz
  have hzW := hbW.size
  have g0 := hk1.cell 0
  simp at g0
  go_wp2_with fail
  refine (dagCopy_any _ l _ (hl.mono RCrt.mono (vle_below hbW))).mono ?_
  rintro e w1 ⟨v1, rfl, hb1, o1⟩
  have hbl1 := hbW.trans (hb1.mono hzW)
  have hz1 := hbl1.size
  obtain ⟨A1, c1, rfl⟩ := o1.form
  have r1 : RCrts w1.cell? _ l := RSl.weak (fun h cs x hr => RCrt.mono _ _ _ _ hr (View.from_le _ _)) (o1.reads (RFrom.mono RCrt.mono) hlen)
  clear o1 g0
  go_wp2_with fail
  refine (octets_any _ k _ (hk.mono (vle_below hbl1))).mono ?_
  rintro e w2 ⟨v2, rfl, hb2, o2⟩
  have hbl2 := hbl1.trans (hb2.mono hz1)
  have hz2 := hbl2.size
  have r2 := o2.reads (bs := 1) hkl
  obtain ⟨A2, c2, rfl⟩ := o2.form
  clear o2
  go_wp2_with fail
  refine (orderHistory_any _ _ l k _ (r1.mono RCrt.mono (vle_below hb2)) r2 (hT.mono (vle_below hbl2))).mono ?_
  rintro e w3 ⟨d3, rfl, hb3, L, rL, hL1, hL2⟩
  rw [hE.out] at hL1 hL2 ⊢
  have hbl3 := hbl2.trans (hb3.mono hz2)
  have hz3 := hbl3.size
  have hk3 := ((hk1.kept hb1).kept hb2).kept hb3
  have g0 := hk3.cell 0
  simp at g0
  obtain ⟨A3, c3, rfl, hf⟩ := id rL
  have HL := Lib.hid (And.intro hL1 hL2)
  clear r1 r2 hf hL1 hL2
  go_wp2_with fail
  refine (historyOfE_any _ _ l k _ (hl.mono RCrt.mono (vle_below hbl3)) (hk.mono (vle_below hbl3))).mono ?_
  rintro e w4 ⟨d4, rfl, hb4, L', rL', hL1, hL2⟩
  rw [hE.out] at hL1 hL2 ⊢
  have hbl4 := hbl3.trans (hb4.mono hz3)
  have hz4 := hbl4.size
  have heq : L = L' := his_same hE.out HL.out.1 HL.out.2 hL1 hL2
  subst heq
  obtain ⟨A4, c4, rfl, hf⟩ := id rL'
  clear hf hL1 hL2 HL g0
  go_wp2_with fail
  refine (sameLists_same _ _ L _ (rL.mono RDig.mono (vle_below hb4)) rL').mono ?_
  rintro e w5 ⟨rfl, hb5⟩
  go_wp2
  go_ret
  exact ⟨rfl, hbl4.trans (hb5.mono hz4)⟩
set_option maxHeartbeats 1000000 in
set_option maxRecDepth 100000 in
theorem orderHistories_open {H : Type} {enc : TypeId × Value → H} (W : World) (hT : Tabs W.cell?) {base : Nat} {v v1 : Value} {d d1 : DataW H} {p p1 : List MemPlace} (hval : Value.okWide Tryd.prog W .any base 53 v) (h : DataW.Trod enc Tryd.prog W 0 (fun _ => true) true 53 v d p)
    (hw : ∀ n ∈ DataW.weights Tryd.prog 53 d, n ≤ reachBytes) (hval1 : Value.okWide Tryd.prog W .any base 25 v1) (h1 : DataW.Trod enc Tryd.prog W 0 (fun _ => true) true 25 v1 d1 p1)
    (hw1 : ∀ n ∈ DataW.weights Tryd.prog 25 d1, n ≤ reachBytes) : Calls Tryd.prog 14 #[v, v1] W fun e w' => e = .returned (.bool true) ∧ Below W.heap.size W w' := by
  obtain ⟨l, x, rfl, hl⟩ := open_dag hval h hw
  obtain ⟨k, hk⟩ := open_bytesD hval1 h1 hw1
  exact orderHistories_any _ _ l k _ hl hk hT
set_option maxRecDepth 100000 in
theorem orderHistories_lifted (os : Os) (started : os.Started) (H : Type) (enc : TypeId × Value → H) :
    ReturnsInHanded {} Tryd.checked os 14 .any (fun w args => (Rows.orderHistoriesSpec.pre enc Tryd.prog Tryd.f14 [] false w args ∧ laidMetH Tryd.prog laid3 w) ∧ sizedMet enc Tryd.prog Tryd.f14 (OpenSpec.ofChange Rows.orderHistoriesSpec) false w args) (Rows.orderHistoriesSpec.post enc Tryd.prog Tryd.f14 false true false false) := by
  refine returnsInHanded_of_change_and (C := Tryd.checked) (X := fun w _ => laidMetH Tryd.prog laid3 w) (fun _ _ _ hh h => h.of_heap hh) own_ started (by kernel_rfl) Tryd.func14
    (ChangeSpec.witness_shaped (enc := enc) (C := Tryd.checked) (os := os) (X := fun w _ => laidMetH Tryd.prog laid3 w) false (World.doorLaid Tryd.prog 400 os) #[.agg #[.slice none 0 0], .slice none 0 0] 8 rfl (World.shaped_of_RefB (by kernel_rfl) (by kernel_rfl)) (by kernel_rfl) (by kernel_rfl) (by kernel_rfl) (door_met os _)) ?_
  intro W base args ds gs before hval0 hW _ hsz hL _
  have hval : ∀ (j : Nat) t v, Tryd.f14.params[j]? = some t → args[j]? = some v → Value.okWide Tryd.prog W .any base t v := hval0
  have hW' := hW
  obtain ⟨p, q, hA, hV, rfl, hfz, hnd⟩ := hW
  obtain ⟨rfl, rfl⟩ := trodVars_none hV
  have hA : DataW.TrodAll enc Tryd.prog W 0 (fun _ => true) true Tryd.f14.params.toList args.toList ds p := hA
  rw [Tryd.params14] at hA hval hsz
  obtain ⟨v0, v1, d0, d1, p0, p1, rfl, rfl, rfl, h0, h1⟩ := trodAll_two hA
  have hs0 : ∀ n ∈ DataW.weights Tryd.prog _ d0, n ≤ reachBytes := fun n hn => by simpa using List.all_eq_true.1 hsz n (DataW.weights_mem_each (j := 0) rfl rfl n hn)
  have hs1 : ∀ n ∈ DataW.weights Tryd.prog _ d1, n ≤ reachBytes := fun n hn => by simpa using List.all_eq_true.1 hsz n (DataW.weights_mem_each (j := 1) rfl rfl n hn)
  refine (orderHistories_open W (of_laid hL) (hval 0 _ _ rfl rfl) h0 hs0 (hval 1 _ _ rfl rfl) h1 hs1).mono fun e W' ⟨he, hb⟩ => ?_
  exact law_close laidOut (b := 4) rfl Tryd.underlying4 rfl (readables _ (by kernel_rfl)) rfl hW' he hb
theorem orderHistories_holds : Rows.OrderHistoriesSaid :=
  OpenClaim.holds_of_wide 14 Tryd.f14 rfl rfl rfl rfl rfl rfl rfl ⟨rfl, rfl, rfl, rfl, rfl⟩ rfl rfl rfl rfl rfl (by kernel_rfl) Tryd.func14 (by kernel_rfl)
    (of_decide_eq_true (by kernel_rfl)) (by unfold Func.isWrapper; first | (rw [if_pos (by decide +kernel)]; kernel_rfl) | (rw [if_neg (by decide +kernel)]; exact ⟨rfl, rfl⟩))
    (fun os started H enc _ => orderHistories_lifted os started H enc)
theorem orderHistories_card : Rows.OrderHistoriesCardSaid :=
  Claim7.holds_tied_plain_at .later [] [.widerDeep, .data, .data] true Rows.orderHistoriesCard.stood.harness false
    orderHistories_holds (fun _ h => by cases h) (by kernel_rfl) (fun _ h => by cases h) orderHistories_row_tie rfl ⟨rfl, rfl⟩ (by kernel_rfl) rfl
    (fun f fn hf hfn => by
      obtain rfl : f = 14 := Option.some.inj ((show Tryd.prog.funcNamed "sheaves/sheaveslaw.OrderHistories" = some 14 by kernel_rfl).symm.trans hf) |>.symm
      obtain rfl : fn = Tryd.f14 := (Option.some.inj (Tryd.func14.symm.trans hfn)).symm
      exact ⟨by kernel_rfl, fun j t ht => by
        have hall : (Tryd.f14.params.toList.all fun u => !Tryd.prog.wantsStandIn u) = true := by kernel_rfl
        have := List.all_eq_true.1 hall t (by simpa using Array.mem_of_getElem? ht)
        exact (show Tryd.prog.wantsStandIn t = false by simpa using this)⟩)
    (by kernel_rfl)
end Go.Proofs.YtedealljhmokoaaDoor
