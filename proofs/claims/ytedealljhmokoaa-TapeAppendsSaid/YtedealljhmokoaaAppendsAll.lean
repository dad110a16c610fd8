/- The law TapeAppends: tape.Append answers what the document's TapeAppended answers, for every tape and message, and changes none of them: no condition. -/
import Derived.Test.YtedealljhmokoaaCopy
import Derived.Lib.ConvBytes
import Derived.Test.YtedealljhmokoaaHead
import Derived.Test.YtedealljhmokoaaChg2
import Derived.Test.YtedealljhmokoaaBatch
import Derived.Deep.DeepCutAuto
import Derived.Deep.CutBlock
import Derived.Test.YtedealljhmokoaaHead2
import Derived.Test.YtedealljhmokoaaRec
import Derived.Test.YtedealljhmokoaaClone
import Derived.Test.YtedealljhmokoaaStr
import Derived.Test.YtedealljhmokoaaBlk
import Derived.Test.YtedealljhmokoaaNum
import Derived.Test.YtedealljhmokoaaSealAdd
import Derived.Test.YtedealljhmokoaaPlan3
import Derived.Test.YtedealljhmokoaaOpenMsg
namespace Go.Proofs.Ytedealljhmokoaa
open Go.ChangeShapes Go.WideShapes Go.ChangeAt Go.RowKit
set_option linter.unusedVariables false
def sbytes (s : ByteArray) : List UInt8 := s.data.toList
theorem sbytes_len (s : ByteArray) : (sbytes s).length = s.size := by unfold sbytes; rw [Array.length_toList]; rfl
section
variable {P : Program} (w : World)
theorem run_firstCells_str (n : Nat) (s : ByteArray) (size : Nat) (hn : n = s.size) : (Builtin.firstCells size n (.string s)).run P w = .ok ((sbytes s).map encB).toArray w := by
  subst hn
  obtain ⟨⟨l⟩⟩ := s
  simp [Builtin.firstCells, sbytes]
  intro a _
  rfl
theorem run_append_str (t u ty e : TypeId) (i : TypeInfo) (z : Value) (base : Nat) (ht : P.underlying t = some (.slice e)) (hu : P.underlying u = some .string) (hi : P.info? e = some i) (hz : i.zero = some z)
    (hsize : i.size = 1) (hby : i.bytes = 1) (hzs : z.cells.size = 1) (v : Value) (n : Nat) (xs : List Value) (hown : w.ownsRow base e 1 v n xs) (s : ByteArray)
    (hbytes : n + s.size ≤ 140737488355328) (hbase : base ≤ w.heap.size) :
    ∃ v' w', (Builtin.append_ #[t, u] ty #[v, .string s]).run P w = .ok v' w' ∧ w'.ownsRow base e 1 v' (n + s.size) (xs ++ (sbytes s).map encB) ∧ w.grownBy w' v.ownBlock := by
  obtain ⟨news, hnews⟩ : ∃ news, news = (sbytes s).map encB := ⟨_, rfl⟩
  have hl : news.length = s.size := by rw [hnews, List.length_map, sbytes_len]
  have h1 : ∀ u ∈ news, u.oneCell' = true := fun u hu => by rw [hnews] at hu; obtain ⟨x, _, rfl⟩ := List.mem_map.1 hu; rfl
  have hfs : ∀ w : World, (Builtin.firstCells 1 s.size (.string s)).run P w = .ok news.toArray w := fun w => by rw [hnews]; exact run_firstCells_str w s.size s 1 rfl
  rw [← hnews]
  clear hnews
  have hm0 : s.size = s.size := rfl
  obtain ⟨m, hm'⟩ : ∃ m, s.size = m := ⟨_, rfl⟩
  rw [hm'] at hl hfs hbytes ⊢
  have hm0 := hm'
  have h63 : n + m ≤ maxLen := le_maxLen hbytes
  have hsmall : n + m ≤ 9223372036854775807 := by omega
  have hlen : (xs ++ news).length = (n + m) * 1 := by rw [List.length_append, hown.1, hl, Nat.add_mul]; omega
  have grown : ∀ (old : Nat), old < n + m → ∀ (row : Option Nat),
      (w.drew.alloc (.cells (xs.toArray ++ news.toArray ++ Builtin.zeroCells z.cells (grownCap w (n + m) old e - (n + m))) e)).ownsRow base e 1
        (.slice (some ⟨w.heap.size, 0, none⟩) (n + m) (grownCap w (n + m) old e)) (n + m) (xs ++ news) ∧
      w.grownBy (w.drew.alloc (.cells (xs.toArray ++ news.toArray ++ Builtin.zeroCells z.cells (grownCap w (n + m) old e - (n + m))) e)) row := by
    intro old ho row
    have hge := grownCap_ge w (n + m) old e
    have hcm : grownCap w (n + m) old e ≤ maxLen := grownCap_le_maxLen w (n + m) old e h63
    refine ⟨⟨hlen, .inr ⟨w.heap.size, _, _, rfl, hbase, heap_alloc_new w.drew _, hge, hcm, ?_, ?_⟩⟩, ⟨rfl, rfl, rfl, by simp, fun k hk _ => Below.heap_alloc w.drew _ k hk⟩⟩
    · simp only [Array.size_append, List.size_toArray, size_zeroCells, hzs, hown.1, hl]
      omega
    · simp only [Array.toList_append, List.append_assoc]
      rw [← List.append_assoc, ← hlen]
      exact List.take_left
  rcases hown.2 with ⟨rfl, rfl⟩ | ⟨g, cap, cur, rfl, hbg, hg, hnc, hcm, hcs, htake⟩
  · have hx : xs = [] := List.eq_nil_of_length_eq_zero (by simpa using hown.1)
    subst hx
    by_cases hm : m = 0
    · subst hm
      have hn : news = [] := List.eq_nil_of_length_eq_zero (by simpa using hl)
      subst hn
      refine ⟨.slice none 0 0, w, ?_, World.ownsRow_nil w base e 1, ⟨rfl, rfl, rfl, Nat.le_refl _, fun _ _ _ => rfl⟩⟩
      simp [Builtin.append_, run_underlying ht, run_underlying hu, sizeOf, typeInfo, hi, Builtin.lenOf, hsize, hm0, hfs, storeCells]
    · have hgr := grown 0 (by omega) (Value.ownBlock (.slice none 0 0))
      simp only [Nat.zero_add, List.nil_append] at hgr ⊢
      refine ⟨_, _, ?_, hgr.1, hgr.2⟩
      have h63' : ¬ (9223372036854775807 < (m : Int)) := by omega
      have h48' : ¬ (281474976710656 < Builtin.nextslicecap m 0 * i.bytes) := by rw [nextslicecap_zero (by omega), hby]; omega
      have hfn : (Builtin.firstCells 1 0 (.slice none 0 0)).run P w.drew = .ok #[] w.drew := by simp [Builtin.firstCells]
      simp [Builtin.append_, run_underlying ht, run_underlying hu, sizeOf, typeInfo, zeroValue, hi, hz, Builtin.lenOf, hm, hfn, h63', h48', Question.forced, newRow, grownCap, hsize, hfs, hm0]
  · by_cases hroom : n + m ≤ cap
    · have hfit : n * 1 + news.length ≤ cur.size := by rw [hl, hcs]; omega
      have hst := run_storeCells_at P g (n * 1) e news 0 cur w hg (by simpa using hfit) h1
      simp only [Nat.add_zero, Nat.mul_one] at hst
      refine ⟨_, w.setRow g (cur.toList.take (n * 1) ++ news ++ cur.toList.drop (n * 1 + news.length)).toArray, ?_, ⟨hlen, .inr ⟨g, cap, _, rfl, hbg, setRow_heap w g cur _ e _ hg, hroom, hcm, ?_, ?_⟩⟩, ⟨rfl, rfl, rfl, by simp [World.setRow], fun k _ hk => setRow_other w g k _ (fun e => hk (by simp [Value.ownBlock, e]))⟩⟩
      · simp [Builtin.append_, run_underlying ht, run_underlying hu, sizeOf, typeInfo, hi, Builtin.lenOf, hroom, hfs, Addr.add_lit, hst, hm0, hsize]
      · simp only [List.size_toArray, List.length_append, List.length_take, List.length_drop, Array.length_toList]
        omega
      · rw [htake, ← hlen]
        exact List.take_left
    · have holds : ∀ j u, xs[j]? = some u → w.cell? ((⟨g, 0, none⟩ : Addr).add j) = some u := hown.cells (g := g) rfl
      have hgr := grown cap (by omega) (Value.ownBlock (.slice (some ⟨g, 0, none⟩) n cap))
      refine ⟨_, _, ?_, hgr.1, hgr.2⟩
      have h63' : ¬ (9223372036854775807 < ((n : Int) + (m : Int))) := by omega
      have h48' : ¬ (281474976710656 < Builtin.nextslicecap (n + m) cap * i.bytes) := by
        have := growslice_fits (need := n + m) (old := cap) (bytes := i.bytes) (by omega) (by rw [hby]; omega)
        rw [hby] at this ⊢; omega
      have hfo := run_firstCells_some (P := P) w.drew 1 n ⟨g, 0, none⟩ n cap xs (by rw [hown.1]) (by simpa using holds)
      simp [Builtin.append_, run_underlying ht, run_underlying hu, sizeOf, typeInfo, zeroValue, hi, hz, Builtin.lenOf, hroom, h63', h48', Question.forced, newRow, grownCap, hsize, hfs, hfo, hm0]
      rw [← Array.append_assoc, show xs.toArray ++ news.toArray = (xs ++ news).toArray by simp]
end
theorem wpList_append_str {P : Program} {wr : World} {ops : Array Oper} {rest : List Oper} {o : Oper} {a : Act} {Q : Exit → Act → World → Prop} {t u e : TypeId} {base n : Nat} {v : Value} {xs : List UInt8} {W : World} (s : ByteArray)
    (hE : Elem1 P t e 1) (hu : P.underlying u = some .string) (x y : Operand) (hgd : o.guard = none)
    (ho : o.op = .call { callee := .builtin .append, args := #[x, y], argTypes := #[t, u] })
    (hs : a.eval x = v) (hy : a.eval y = .string s) (hown : OwnVec encB e wr base v xs) (hbl : Below base W wr) (hbase : base ≤ wr.heap.size)
    (hc : n ≤ 140737488355328) (hn : xs.length + s.size ≤ n)
    (h : ∀ v' w', OwnVec encB e w' base v' (xs ++ sbytes s) → Below base W w' → wr.grownBy w' v.ownBlock → wpList P ops Q rest (a.put o.dst v') w') : wpList P ops Q (o :: rest) a wr := by
  obtain ⟨ht, i, z, hi, hz0, hz1, hz2, hzs⟩ := hE
  obtain ⟨v', w', hr, hro, hg⟩ := run_append_str (P := P) wr t u o.type e i z base ht hu hi hz0 hz1 hz2 hzs v xs.length (xs.map encB) hown.own s (Nat.le_trans hn hc) hbase
  refine wpList_plain hgd fun _ hK => ?_
  unfold Oper.wp execOp
  simp [ho, resolve, invoke, builtin, hs, hy, hr, Result.andThen, Oper.upon]
  refine hK _ _ (h v' w' ⟨?_⟩ (hbl.grown hg hbase (fun g hg => (hown.own.lt g hg).1)) hg)
  rw [List.map_append, List.length_append, sbytes_len]
  exact hro
theorem bytesWorld_below (w : World) (e : TypeId) (s : ByteArray) : Below w.heap.size w (Lib.bytesWorld w e s) :=
  ⟨rfl, rfl, rfl, by rw [Lib.bytesWorld_size]; omega, fun k hk => Lib.bytesWorld_at_old w e s k hk⟩
theorem bytesWorld_reads (w : World) (e : TypeId) (s : ByteArray) (hn : s.size ≤ 140737488355328) : RBytes (Lib.bytesWorld w e s).cell? (.slice (some ⟨w.heap.size, 0, none⟩) s.size (grownCap w s.size 0 e)) (sbytes s) := by
  refine ⟨_, _, by rw [sbytes_len], by rw [sbytes_len]; exact grownCap_ge _ _ _ _, grownCap_le_maxLen w _ _ e (le_maxLen hn), by rw [sbytes_len]; omega, (fun h => by cases h), fun hp => ⟨w.heap.size, 0, rfl, fun i hi => ?_⟩⟩
  rw [sbytes_len] at hi
  rw [Nat.zero_add, Lib.bytesWorld_cell w e s i hi]
  simp only [encB, sbytes, List.getD, Array.getElem?_toList]
  rw [Array.getElem?_eq_getElem (by exact hi)]
  simp
theorem wpList_convert_bytes {P : Program} {wr : World} {ops : Array Oper} {rest : List Oper} {o : Oper} {a : Act} {Q : Exit → Act → World → Prop} {src dst e : TypeId} (s : ByteArray)
    (hs : P.underlying src = some .string) (hd : P.underlying dst = some (.slice e)) (he : P.underlying e = some (.int .u8)) (hgd : o.guard = none) (y : Operand) (ho : o.op = .convert src dst y) (hy : a.eval y = .string s)
    (hn : s.size ≤ 140737488355328)
    (h : ∀ v' w', RBytes w'.cell? v' (sbytes s) → Below wr.heap.size wr w' → wpList P ops Q rest (a.put o.dst v') w') : wpList P ops Q (o :: rest) a wr := by
  have hr := Lib.run_convert_string_bytes (P := P) wr src dst e s hs hd he
  refine wpList_plain hgd fun _ hK => ?_
  unfold Oper.wp execOp
  simp [ho, resolve, hy, hr, Result.andThen, Oper.upon]
  exact hK _ _ (h _ _ (bytesWorld_reads wr e s hn) (bytesWorld_below wr e s))
end Go.Proofs.Ytedealljhmokoaa

namespace Go.Proofs.Ytedealljhmokoaa
open Go.ChangeShapes Go.WideShapes Go.ChangeAt Go.RowKit
set_option linter.unusedVariables false
set_option linter.unusedSimpArgs false
def byteI (n : Int) : UInt8 := UInt8.ofNat (n % 256).toNat
theorem byteI_wrap (n : Int) : IntKind.u8.wrap n = ((byteI n).toNat : Int) := by
  rw [IntKind.wrap_u8]; unfold byteI; rw [UInt8.toNat_ofNat']; omega
theorem byteI_mod (n : Int) : byteI (n % 256) = byteI n := by unfold byteI; rw [Int.emod_emod]
def wideB (n : Int) : List UInt8 := [byteI (n / 65536), byteI (n / 256), byteI n]
theorem byBlk {α : Type} {enc : α → Value} {bs : Nat} {w : World} {g : Nat} {t : TypeId} {xs : List α} (hb : Blk w g t (xs.map enc).toArray) (h1 : xs.length ≤ 140737488355328) (h2 : xs.length * bs ≤ 140737488355328) : RVec enc bs w.cell? (.slice (some ⟨g, 0, none⟩) xs.length xs.length) xs :=
  ⟨_, _, rfl, Nat.le_refl _, le_maxLen h1, h2, (fun h => by cases h), fun _ => ⟨g, 0, rfl, fun i hi => by rw [Nat.zero_add, hb.cell]; simp [hi]⟩⟩
/-- blocks that hold no bytes stay as they are -/
def Keeps (w w' : World) : Prop := ∀ b T cs, T ≠ 5 → Blk w b T cs → Blk w' b T cs
theorem Keeps.refl (w : World) : Keeps w w := fun _ _ _ _ h => h
theorem Keeps.trans {a b c : World} (h : Keeps a b) (k : Keeps b c) : Keeps a c := fun x T cs hT hb => k x T cs hT (h x T cs hT hb)
theorem keeps_below {w w' : World} (h : Below w.heap.size w w') : Keeps w w' := fun _ _ _ _ hb => hb.kept h
theorem keeps_alloc (w : World) (o : Obj) : Keeps w (w.alloc o) := keeps_below (below_one _ _)
theorem keeps_grown {w w' : World} {B : Nat} {v : Value} {xs : List UInt8} (ho : OwnB w B v xs) (hg : w.grownBy w' v.ownBlock) : Keeps w w' := fun b T cs hT hb => by
  refine hb.grown hg (fun e => ?_)
  rcases ho.own.2 with ⟨rfl, _⟩ | ⟨g, cap, cur, rfl, _, h3, _⟩
  · cases e
  · have e1 : b = g := by
      have := e.symm
      simp [Value.ownBlock] at this
      exact this.symm
    subst e1
    unfold Blk at hb
    rw [h3] at hb
    injection hb with hb
    injection hb with _ hb
    exact hT hb.symm
set_option maxHeartbeats 1000000 in
set_option maxRecDepth 100000 in
theorem wide_any (v : Value) (n : Int) (xs : List UInt8) (B : Nat) (w : World) (ho : OwnB w B v xs) (hB : B ≤ w.heap.size) (h0 : 0 ≤ n) (hn : n ≤ 140737488355328) (hsz : xs.length + 3 ≤ 140737488355328) :
    Calls Try.prog 31 #[v, .int .i64 n] w fun e w' => ∃ v', e = .returned v' ∧ Below B w w' ∧ Keeps w w' ∧ OwnB w' B v' (xs ++ wideB n) ∧ w.grownBy w' v.ownBlock := by
  obtain ⟨A, c, rfl⟩ := ho.form
  have u0 := byteI_wrap (n / 65536)
  have u1 := byteI_wrap (n / 256)
  have u2 := byteI_wrap n
  have hW : Hid (wideB n = [byteI (n / 65536), byteI (n / 256), byteI n]) := rfl
  generalize byteI (n / 65536) = U0 at u0 hW
  generalize byteI (n / 256) = U1 at u1 hW
  generalize byteI n = U2 at u2 hW
  generalize wideB n = Wb at hW ⊢
  go_enter Try.func31, Try.ntmps31
  go_wp2_with (at_builtin; first
    | (refine wpList_append_vec (n := 140737488355328) (W := w) (ys := [U0, U1, U2]) elemByte encB_one _ _ rfl rfl rfl (ho.alloc _) ((Below.refl B w).alloc hB _) (le_alloc _ hB) rfl (byBlk (xs := [U0, U1, U2]) (Blk.new _ _ _) (by simp) (by simp)) (by decide) (by simp; omega) (by simp; omega) ?_))
  intro v1 w1 ho1 hb1 hg1
  have hk := (keeps_alloc w (.cells #[encB U0, encB U1, encB U2] 5)).trans (keeps_grown (ho.alloc _) hg1)
  have hg2 := grownBy_trans (World.grownBy_alloc w (.cells #[encB U0, encB U1, encB U2] 5) (Value.slice A xs.length c).ownBlock) hg1
  clear hg1 ho
  go_wp2
  go_ret
  exact ⟨_, rfl, hb1, hk, by rw [hW.out]; exact ho1, hg2⟩
/-- a list of digests behind its length -/
def digsB (l : List (List UInt8)) : List UInt8 := byteI l.length :: l.flatten
theorem flat_take (l : List (List UInt8)) {k : Nat} (hk : k < l.length) : (l.take (k + 1)).flatten = (l.take k).flatten ++ l[k] ∧ ((l.take k).flatten).length + l[k].length ≤ l.flatten.length := by
  have e : (l.take (k + 1)).flatten = (l.take k).flatten ++ l[k] := by
    rw [List.take_succ_eq_append_getElem hk, List.flatten_append, List.flatten_singleton]
  refine ⟨e, ?_⟩
  have h2 : l.flatten = (l.take (k + 1)).flatten ++ (l.drop (k + 1)).flatten := by rw [← List.flatten_append, List.take_append_drop]
  rw [h2, List.length_append, e, List.length_append]
  omega
set_option maxHeartbeats 2000000 in
set_option maxRecDepth 100000 in
theorem putDigests_any (w0 : World) (v vl : Value) (xs : List UInt8) (l : List (List UInt8)) (w : World) (hbl : Below w0.heap.size w0 w) (ho : OwnB w w0.heap.size v xs) (hv : RDigs w0.cell? vl l) (hsz : xs.length + 1 + l.flatten.length ≤ 140737488355328) :
    Calls Try.prog 65 #[v, vl] w fun e w' => ∃ v', e = .returned v' ∧ Below w0.heap.size w0 w' ∧ Keeps w w' ∧ OwnB w' w0.heap.size v' (xs ++ digsB l) := by
  obtain ⟨oA, oc, rfl⟩ := ho.form
  obtain ⟨A, c, rfl, _⟩ := id hv
  obtain ⟨_, hcap, hlen, hel⟩ := hv.at
  have Hel := Lib.hid hel
  clear hel hv
  have hz := hbl.size
  have e0 := byteI_wrap l.length
  have hD : Hid (digsB l = byteI l.length :: l.flatten) := rfl
  generalize byteI l.length = U0 at e0 hD
  generalize digsB l = Db at hD ⊢
  go_enter Try.func65, Try.ntmps65
  go_wp2_with (at_builtin; first
    | (refine wpList_append_vec (n := 140737488355328) (W := w0) (ys := [U0]) elemByte encB_one _ _ rfl rfl rfl (ho.alloc _) (hbl.alloc hz _) (le_alloc _ hz) rfl (byBlk (xs := [U0]) (Blk.new _ _ _) (by simp) (by simp)) (by decide) (by simp; omega) (by simp; omega) ?_))
  intro v1 w1 ho1 hb1 hg1
  have hk1 := (keeps_alloc w (.cells #[encB U0] 5)).trans (keeps_grown (ho.alloc _) hg1)
  clear hg1 ho
  obtain ⟨Y, hY⟩ : ∃ Y, Hid (xs ++ [U0] = Y) := ⟨_, rfl⟩
  have hYl : Y.length = xs.length + 1 := by rw [← hY.out]; simp
  rw [hY.out] at ho1
  go_wp2
  go_loopw [0, 15] (fun v i wr => ∃ k : Nat, k ≤ l.length ∧ i = .int .i64 k ∧ OwnB wr w0.heap.size v (Y ++ (l.take k).flatten) ∧ Below w0.heap.size w0 wr ∧ Keeps w wr) (fun _ i _ => l.length - (intOf i).toNat)
  case atStart => exact ⟨0, Nat.zero_le _, rfl, by simpa using ho1, hb1, hk1⟩
  case round =>
    clear ho1 hb1 hk1 hbl hz
    obtain ⟨k, hk, rfl, hown, hbl, hkp⟩ := hrel
    have hz := hbl.size
    by_cases hlt : k < l.length
    · obtain ⟨b0, o0, d, rfl, q0, hd⟩ := Hel.out k hlt
      have c0 := vle_below hbl _ _ q0
      obtain ⟨dA, dc, rfl, _⟩ := id hd
      have Hd := Lib.hid (hd.mono (vle_below hbl))
      obtain ⟨hn, hnl⟩ := flat_take l hlt
      have Hn := Lib.hid hn
      clear hd q0 hn
      generalize (l.take k).flatten = Z at hown Hn hnl
      generalize l[k] = p at Hd Hn hnl c0
      go_wp2_with (at_builtin; go_loud (refine wpList_append_vec (n := 140737488355328) (W := w0) (ys := p) elemByte encB_one _ _ rfl rfl rfl hown hbl hz rfl Hd.out (by decide) (by simp; omega) (by simp; omega) ?_))
      intro v2 w2 ho2 hb2 hg2
      have hk2 := hkp.trans (keeps_grown hown hg2)
      clear hg2 hown
      go_wp2
      go_roundw
      case rel => exact ⟨k + 1, by omega, by go_num, by rw [Hn.out]; simpa using ho2, hb2, hk2⟩
      case measure => simp [intOf]; omega
    · have hkl : k = l.length := by omega
      subst hkl
      rw [List.take_length] at hown
      have hfin : OwnB wr w0.heap.size u0 (xs ++ Db) := by rw [hD.out]; rw [← hY.out, List.append_assoc] at hown; exact hown
      go_wp2
      go_ret
      exact ⟨_, rfl, hbl, hkp, hfin⟩
end Go.Proofs.Ytedealljhmokoaa

namespace Go.Proofs.Ytedealljhmokoaa
open Go.ChangeShapes Go.WideShapes Go.ChangeAt Go.RowKit
set_option linter.unusedVariables false
set_option linter.unusedSimpArgs false
theorem wp_append_by {P : Program} {wr : World} {o : Oper} {a : Act} {K : Act → World → Prop} {Q : Exit → Act → World → Prop} {t e : TypeId} {base n : Nat} {v vy : Value} {xs ys : List UInt8} {W : World}
    (hE : Elem1 P t e 1) (s y : Operand)
    (ho : o.op = .call { callee := .builtin .append, args := #[s, y], argTypes := #[t, t] })
    (hs : a.eval s = v) (hown : OwnVec encB e wr base v xs) (hbl : Below base W wr) (hbase : base ≤ wr.heap.size)
    (hx : a.eval y = vy) (hy : RBytes wr.cell? vy ys) (hc : n ≤ 140737488355328) (hn : xs.length + ys.length ≤ n)
    (h : ∀ v' w', OwnVec encB e w' base v' (xs ++ ys) → Below base W w' → wr.grownBy w' v.ownBlock → K (a.put o.dst v') w') : o.wp P a wr K Q := by
  obtain ⟨ht, i, z, hi, hz0, hz1, hz2, hzs⟩ := hE
  obtain ⟨A, c, rfl, _⟩ := id hy
  obtain ⟨_, _, _, hl, hA, hcell⟩ := hy.src
  refine wp_append_any s y t ho base e i z 1 1 ht hi hz0 hz1 hz2 hzs (by decide) v xs.length _ hs hown.own A ys.length c (ys.map encB) hx hl hA hcell (fun u hu => by obtain ⟨x, _, rfl⟩ := List.mem_map.1 hu; exact encB_one x) (le_maxLen (Nat.le_trans hn hc)) (by omega) hbase (fun v' w' ho hg => h v' w' ⟨?_⟩ (hbl.grown hg hbase (fun g hg => (hown.own.lt g hg).1)) hg)
  simpa using ho
theorem byte_row (w : World) (u : UInt8) : RBytes (w.alloc (.cells #[.int .u8 u.toNat] 5)).cell? (.slice (some ⟨w.heap.size, 0, none⟩) 1 1) [u] := byBlk (enc := encB) (bs := 1) (xs := [u]) (Blk.new w 5 #[encB u]) (by simp) (by simp)
def headerB (a r : Int) (b p : List (List UInt8)) : List UInt8 := ((byteI a :: wideB r) ++ digsB b) ++ digsB p
set_option maxHeartbeats 2000000 in
set_option maxRecDepth 100000 in
theorem putHeader_any (w0 : World) (v : Value) (xs : List UInt8) (a r : Int) (vb vp : Value) (b p : List (List UInt8)) (w : World) (hbl : Below w0.heap.size w0 w) (ho : OwnB w w0.heap.size v xs) (hr0 : 0 ≤ r) (hr1 : r ≤ 140737488355328) (hb : RDigs w0.cell? vb b) (hp : RDigs w0.cell? vp p) (hsz : xs.length + 6 + b.flatten.length + p.flatten.length ≤ 140737488355328) :
    Calls Try.prog 30 #[v, .agg #[.int .i64 a, .int .i64 r, vb, vp]] w fun e w' => ∃ v', e = .returned v' ∧ Below w0.heap.size w0 w' ∧ Keeps w w' ∧ OwnB w' w0.heap.size v' (xs ++ headerB a r b p) := by
  obtain ⟨oA, oc, rfl⟩ := ho.form
  have hz := hbl.size
  have e0 := byteI_wrap a
  have hD : Hid (headerB a r b p = ((byteI a :: wideB r) ++ digsB b) ++ digsB p) := rfl
  generalize byteI a = U0 at e0 hD
  generalize headerB a r b p = Db at hD ⊢
  have hwl : (wideB r).length = 3 := rfl
  have hbl1 : (digsB b).length = 1 + b.flatten.length := by show (_ :: _).length = _; rw [List.length_cons]; omega
  generalize hWr : wideB r = Wr at hwl hD
  generalize hBd : digsB b = Bd at hbl1 hD
  go_enter Try.func30, Try.ntmps30
  go_wp2
  refine one_block _ _ _ (fun W => (Code.region _ _ _).wp _ _ _ W) (fun W hk hszW hblW => ?_)
  have hkp : Keeps w W := keeps_below hblW
  have ho := ho.kept hblW
  have hbl := hbl.trans (hblW.mono hz)
  have hz := hbl.size
  refine wp_region_pl0 (fun w' => Below W.heap.size W w') (fun w' => Blk w' w.heap.size 27 #[.int .i64 a, .int .i64 r, vb, vp]) [15] (.q 0 (.q 1 (.q 2 (.q 3 (.q 6 (.q 7 (.q 9 (.q 10 (.q 12 (.q 13 (.l 4 (.l 5 (.l 8 (.l 11 (.l 14 (.qc 15 .nil)))))))))))))))) (by kernel_rfl) (by kernel_rfl) (fun _ _ d _ _ h => by cases d <;> exact h) rfl (by kernel_rfl) ?_ ?_
  · exact ⟨below_drew _, hk⟩
  intro W1 hS0 hS
  have ho := ho.kept hS0
  have hkp := hkp.trans (keeps_below hS0)
  have hbl := hbl.trans (hS0.mono hz)
  have hz := hbl.size
  clear hS0 hk
  repeat (first
    | (refine pl_q (by assumption) rfl rfl ?_; apply Exists.intro; refine ⟨fun w' hS => ?_, ?_⟩; (· (have h0 := hS.cell 0; have h1 := hS.cell 1; have h2 := hS.cell 2; have h3 := hS.cell 3; simp at h0 h1 h2 h3; go_simp; exact rfl)); simp only [List.getElem_toArray, List.getElem_cons_zero, List.getElem_cons_succ, Act.put, List.setIfInBounds_toArray, List.set_cons_zero, List.set_cons_succ])
    | (refine pl_qc rfl rfl ?_; apply Exists.intro; refine ⟨fun w' _ => ?_, ?_⟩; (· (go_simp; exact rfl)); simp only [List.getElem_toArray, List.getElem_cons_zero, List.getElem_cons_succ, Act.put, List.setIfInBounds_toArray, List.set_cons_zero, List.set_cons_succ])
    | (refine pl_skip (by assumption) rfl rfl ?_; simp only [List.getElem_toArray, List.getElem_cons_zero, List.getElem_cons_succ, Act.put, List.setIfInBounds_toArray, List.set_cons_zero, List.set_cons_succ])
    | (refine pl_skipl (by assumption) rfl rfl ?_; simp only [List.getElem_toArray, List.getElem_cons_zero, List.getElem_cons_succ, Act.put, List.setIfInBounds_toArray, List.set_cons_zero, List.set_cons_succ]))
  first
    | refine pl_do rfl rfl (fun K hK => ?_)
    | refine op_do rfl rfl (fun K hK => ?_)
  try simp only [List.getElem_toArray, List.getElem_cons_zero, List.getElem_cons_succ]
  go_simp
  refine hK.out _ _ (hS.alloc _) (fun hS => ?_)
  clear hK K
  try simp only [List.getElem_toArray, List.getElem_cons_zero, List.getElem_cons_succ, Act.put, List.setIfInBounds_toArray, List.set_cons_zero, List.set_cons_succ]
  repeat (first
    | (refine pl_q (by assumption) rfl rfl ?_; apply Exists.intro; refine ⟨fun w' hS => ?_, ?_⟩; (· (have h0 := hS.cell 0; have h1 := hS.cell 1; have h2 := hS.cell 2; have h3 := hS.cell 3; simp at h0 h1 h2 h3; go_simp; exact rfl)); simp only [List.getElem_toArray, List.getElem_cons_zero, List.getElem_cons_succ, Act.put, List.setIfInBounds_toArray, List.set_cons_zero, List.set_cons_succ])
    | (refine pl_qc rfl rfl ?_; apply Exists.intro; refine ⟨fun w' _ => ?_, ?_⟩; (· (go_simp; exact rfl)); simp only [List.getElem_toArray, List.getElem_cons_zero, List.getElem_cons_succ, Act.put, List.setIfInBounds_toArray, List.set_cons_zero, List.set_cons_succ])
    | (refine pl_skip (by assumption) rfl rfl ?_; simp only [List.getElem_toArray, List.getElem_cons_zero, List.getElem_cons_succ, Act.put, List.setIfInBounds_toArray, List.set_cons_zero, List.set_cons_succ])
    | (refine pl_skipl (by assumption) rfl rfl ?_; simp only [List.getElem_toArray, List.getElem_cons_zero, List.getElem_cons_succ, Act.put, List.setIfInBounds_toArray, List.set_cons_zero, List.set_cons_succ]))
  first
    | refine pl_do rfl rfl (fun K hK => ?_)
    | refine op_do rfl rfl (fun K hK => ?_)
  try simp only [List.getElem_toArray, List.getElem_cons_zero, List.getElem_cons_succ]
  have hrow := byte_row W1 U0
  have hoa := ho.alloc (.cells #[.int .u8 U0.toNat] 5)
  refine wp_append_by (n := 140737488355328) (W := w0) (xs := xs) (ys := [U0]) (v := .slice oA xs.length oc) (vy := .slice (some ⟨W1.heap.size, 0, none⟩) 1 1) elemByte _ _ rfl rfl hoa (hbl.alloc hz _) (le_alloc _ hz) rfl hrow (by decide) (by simp; omega) ?_
  intro v1 w1 o1 b1 g1
  have k0 := keeps_grown hoa g1
  have k1 := (keeps_alloc W1 (.cells #[.int .u8 U0.toNat] 5)).trans k0
  have z1 := b1.size
  clear g1 hoa hrow
  refine hK.out _ _ (k0 _ _ _ (by decide) hS) (fun hS => ?_)
  clear hK K
  try simp only [List.getElem_toArray, List.getElem_cons_zero, List.getElem_cons_succ, Act.put, List.setIfInBounds_toArray, List.set_cons_zero, List.set_cons_succ]
  repeat (first
    | (refine pl_q (by assumption) rfl rfl ?_; apply Exists.intro; refine ⟨fun w' hS => ?_, ?_⟩; (· (have h0 := hS.cell 0; have h1 := hS.cell 1; have h2 := hS.cell 2; have h3 := hS.cell 3; simp at h0 h1 h2 h3; go_simp; exact rfl)); simp only [List.getElem_toArray, List.getElem_cons_zero, List.getElem_cons_succ, Act.put, List.setIfInBounds_toArray, List.set_cons_zero, List.set_cons_succ])
    | (refine pl_qc rfl rfl ?_; apply Exists.intro; refine ⟨fun w' _ => ?_, ?_⟩; (· (go_simp; exact rfl)); simp only [List.getElem_toArray, List.getElem_cons_zero, List.getElem_cons_succ, Act.put, List.setIfInBounds_toArray, List.set_cons_zero, List.set_cons_succ])
    | (refine pl_skip (by assumption) rfl rfl ?_; simp only [List.getElem_toArray, List.getElem_cons_zero, List.getElem_cons_succ, Act.put, List.setIfInBounds_toArray, List.set_cons_zero, List.set_cons_succ])
    | (refine pl_skipl (by assumption) rfl rfl ?_; simp only [List.getElem_toArray, List.getElem_cons_zero, List.getElem_cons_succ, Act.put, List.setIfInBounds_toArray, List.set_cons_zero, List.set_cons_succ]))
  first
    | refine pl_do rfl rfl (fun K hK => ?_)
    | refine op_do rfl rfl (fun K hK => ?_)
  try simp only [List.getElem_toArray, List.getElem_cons_zero, List.getElem_cons_succ]
  go_simp
  refine (wide_any v1 r (xs ++ [U0]) _ _ o1 z1 hr0 hr1 (by simp; omega)).mono ?_
  rintro e w2 ⟨v2, rfl, b2, k2, o2, _⟩
  rw [hWr] at o2
  have b2 := b1.trans b2
  clear o1 b1
  refine hK.out _ _ (k2 _ _ _ (by decide) hS) (fun hS => ?_)
  clear hK K
  try simp only [List.getElem_toArray, List.getElem_cons_zero, List.getElem_cons_succ, Act.put, List.setIfInBounds_toArray, List.set_cons_zero, List.set_cons_succ]
  repeat (first
    | (refine pl_q (by assumption) rfl rfl ?_; apply Exists.intro; refine ⟨fun w' hS => ?_, ?_⟩; (· (have h0 := hS.cell 0; have h1 := hS.cell 1; have h2 := hS.cell 2; have h3 := hS.cell 3; simp at h0 h1 h2 h3; go_simp; exact rfl)); simp only [List.getElem_toArray, List.getElem_cons_zero, List.getElem_cons_succ, Act.put, List.setIfInBounds_toArray, List.set_cons_zero, List.set_cons_succ])
    | (refine pl_qc rfl rfl ?_; apply Exists.intro; refine ⟨fun w' _ => ?_, ?_⟩; (· (go_simp; exact rfl)); simp only [List.getElem_toArray, List.getElem_cons_zero, List.getElem_cons_succ, Act.put, List.setIfInBounds_toArray, List.set_cons_zero, List.set_cons_succ])
    | (refine pl_skip (by assumption) rfl rfl ?_; simp only [List.getElem_toArray, List.getElem_cons_zero, List.getElem_cons_succ, Act.put, List.setIfInBounds_toArray, List.set_cons_zero, List.set_cons_succ])
    | (refine pl_skipl (by assumption) rfl rfl ?_; simp only [List.getElem_toArray, List.getElem_cons_zero, List.getElem_cons_succ, Act.put, List.setIfInBounds_toArray, List.set_cons_zero, List.set_cons_succ]))
  first
    | refine pl_do rfl rfl (fun K hK => ?_)
    | refine op_do rfl rfl (fun K hK => ?_)
  try simp only [List.getElem_toArray, List.getElem_cons_zero, List.getElem_cons_succ]
  go_simp
  refine (putDigests_any w0 v2 vb _ b _ b2 o2 hb (by simp only [List.length_append, List.length_cons, List.length_nil]; omega)).mono ?_
  rintro e w3 ⟨v3, rfl, b3, k3, o3⟩
  rw [hBd] at o3
  clear o2 b2
  refine hK.out _ _ (k3 _ _ _ (by decide) hS) (fun hS => ?_)
  clear hK K
  try simp only [List.getElem_toArray, List.getElem_cons_zero, List.getElem_cons_succ, Act.put, List.setIfInBounds_toArray, List.set_cons_zero, List.set_cons_succ]
  repeat (first
    | (refine pl_q (by assumption) rfl rfl ?_; apply Exists.intro; refine ⟨fun w' hS => ?_, ?_⟩; (· (have h0 := hS.cell 0; have h1 := hS.cell 1; have h2 := hS.cell 2; have h3 := hS.cell 3; simp at h0 h1 h2 h3; go_simp; exact rfl)); simp only [List.getElem_toArray, List.getElem_cons_zero, List.getElem_cons_succ, Act.put, List.setIfInBounds_toArray, List.set_cons_zero, List.set_cons_succ])
    | (refine pl_qc rfl rfl ?_; apply Exists.intro; refine ⟨fun w' _ => ?_, ?_⟩; (· (go_simp; exact rfl)); simp only [List.getElem_toArray, List.getElem_cons_zero, List.getElem_cons_succ, Act.put, List.setIfInBounds_toArray, List.set_cons_zero, List.set_cons_succ])
    | (refine pl_skip (by assumption) rfl rfl ?_; simp only [List.getElem_toArray, List.getElem_cons_zero, List.getElem_cons_succ, Act.put, List.setIfInBounds_toArray, List.set_cons_zero, List.set_cons_succ])
    | (refine pl_skipl (by assumption) rfl rfl ?_; simp only [List.getElem_toArray, List.getElem_cons_zero, List.getElem_cons_succ, Act.put, List.setIfInBounds_toArray, List.set_cons_zero, List.set_cons_succ]))
  first
    | refine pl_do rfl rfl (fun K hK => ?_)
    | refine op_do rfl rfl (fun K hK => ?_)
  try simp only [List.getElem_toArray, List.getElem_cons_zero, List.getElem_cons_succ]
  go_simp
  refine (putDigests_any w0 v3 vp _ p _ b3 o3 hp (by simp only [List.length_append, List.length_cons, List.length_nil]; omega)).mono ?_
  rintro e w4 ⟨v4, rfl, b4, k4, o4⟩
  clear o3 b3
  refine hK.out _ _ (k4 _ _ _ (by decide) hS) (fun hS => ?_)
  clear hK K
  try simp only [List.getElem_toArray, List.getElem_cons_zero, List.getElem_cons_succ, Act.put, List.setIfInBounds_toArray, List.set_cons_zero, List.set_cons_succ]
  repeat (first
    | (refine pl_q (by assumption) rfl rfl ?_; apply Exists.intro; refine ⟨fun w' hS => ?_, ?_⟩; (· (have h0 := hS.cell 0; have h1 := hS.cell 1; have h2 := hS.cell 2; have h3 := hS.cell 3; simp at h0 h1 h2 h3; go_simp; exact rfl)); simp only [List.getElem_toArray, List.getElem_cons_zero, List.getElem_cons_succ, Act.put, List.setIfInBounds_toArray, List.set_cons_zero, List.set_cons_succ])
    | (refine pl_qc rfl rfl ?_; apply Exists.intro; refine ⟨fun w' _ => ?_, ?_⟩; (· (go_simp; exact rfl)); simp only [List.getElem_toArray, List.getElem_cons_zero, List.getElem_cons_succ, Act.put, List.setIfInBounds_toArray, List.set_cons_zero, List.set_cons_succ])
    | (refine pl_skip (by assumption) rfl rfl ?_; simp only [List.getElem_toArray, List.getElem_cons_zero, List.getElem_cons_succ, Act.put, List.setIfInBounds_toArray, List.set_cons_zero, List.set_cons_succ])
    | (refine pl_skipl (by assumption) rfl rfl ?_; simp only [List.getElem_toArray, List.getElem_cons_zero, List.getElem_cons_succ, Act.put, List.setIfInBounds_toArray, List.set_cons_zero, List.set_cons_succ]))
  refine pl_nil ?_
  go_wp2
  go_ret
  exact ⟨_, rfl, b4, (((hkp.trans k1).trans k2).trans k3).trans k4, by rw [hD.out]; simpa using o4⟩
end Go.Proofs.Ytedealljhmokoaa

namespace Go.Proofs.Ytedealljhmokoaa
open Go.ChangeShapes Go.WideShapes Go.ChangeAt Go.RowKit
set_option linter.unusedVariables false
set_option linter.unusedSimpArgs false
/-- nothing has turned but v's row and new blocks, and v' lies in v's row or in a new block -/
structure GrL (w w' : World) (v v' : Value) : Prop where
  gr : w.grownBy w' v.ownBlock
  loc : ∀ q, v'.ownBlock = some q → v.ownBlock = some q ∨ w.heap.size ≤ q
theorem GrL.refl (w : World) (v : Value) : GrL w w v v := ⟨grownBy_refl _ _, fun _ h => .inl h⟩
theorem GrL.trans {a b c : World} {v v1 v2 : Value} (h : GrL a b v v1) (k : GrL b c v1 v2) : GrL a c v v2 := by
  refine ⟨⟨k.gr.os.trans h.gr.os, k.gr.tape.trans h.gr.tape, k.gr.output.trans h.gr.output, Nat.le_trans h.gr.size k.gr.size, fun i hi hne => ?_⟩, fun q hq => ?_⟩
  · refine (k.gr.block i (Nat.lt_of_lt_of_le hi h.gr.size) (fun e => ?_)).trans (h.gr.block i hi hne)
    rcases h.loc i e.symm with q | q
    · exact hne q.symm
    · omega
  · rcases k.loc q hq with e | e
    · exact h.loc q e
    · exact .inr (Nat.le_trans h.gr.size e)
theorem GrL.below {a b c : World} {v v' : Value} (h : Below a.heap.size a b) (k : GrL b c v v') : GrL a c v v' :=
  ⟨grownBy_trans (grownBy_below _ h) k.gr, fun q hq => (k.loc q hq).imp id fun e => Nat.le_trans h.size e⟩
theorem GrL.cell {w w' : World} {v v' : Value} (h : GrL w w' v v') {g i : Nat} {u : Value} (hc : w.cell? ⟨g, i, none⟩ = some u) (hne : ¬ (some g = v.ownBlock)) : w'.cell? ⟨g, i, none⟩ = some u := h.gr.cell hc hne
theorem GrL.blk {w w' : World} {v v' : Value} (h : GrL w w' v v') {g : Nat} {t : TypeId} {cs : Array Value} (hb : Blk w g t cs) (hne : some g ≠ v.ownBlock) : Blk w' g t cs := hb.grown h.gr hne
set_option maxHeartbeats 1000000 in
set_option maxRecDepth 100000 in
theorem wideG_any (v : Value) (n : Int) (xs : List UInt8) (B : Nat) (w : World) (ho : OwnB w B v xs) (hB : B ≤ w.heap.size) (h0 : 0 ≤ n) (hn : n ≤ 140737488355328) (hsz : xs.length + 3 ≤ 140737488355328) :
    Calls Try.prog 31 #[v, .int .i64 n] w fun e w' => ∃ v', e = .returned v' ∧ Below B w w' ∧ Keeps w w' ∧ OwnB w' B v' (xs ++ wideB n) ∧ GrL w w' v v' := by
  obtain ⟨A, c, rfl⟩ := ho.form
  have u0 := byteI_wrap (n / 65536)
  have u1 := byteI_wrap (n / 256)
  have u2 := byteI_wrap n
  have hW : Hid (wideB n = [byteI (n / 65536), byteI (n / 256), byteI n]) := rfl
  generalize byteI (n / 65536) = U0 at u0 hW
  generalize byteI (n / 256) = U1 at u1 hW
  generalize byteI n = U2 at u2 hW
  generalize wideB n = Wb at hW ⊢
  go_enter Try.func31, Try.ntmps31
  go_wp2_with (at_builtin; first
    | (refine wpList_append_at (n := 140737488355328) (ys := [U0, U1, U2]) elemByte encB_one _ _ rfl rfl rfl (ho.alloc _) (le_alloc _ hB) rfl (byBlk (xs := [U0, U1, U2]) (Blk.new _ _ _) (by simp) (by simp)) (by decide) (by simp; omega) (by simp; omega) ?_))
  intro v1 w1 ho1 hg1 hloc
  have hb1 : Below B w w1 := ((Below.refl B w).alloc hB _).grown hg1 (le_alloc _ hB) (fun g hg => (ho.own.lt g hg).1)
  have hk := (keeps_alloc w (.cells #[encB U0, encB U1, encB U2] 5)).trans (keeps_grown (ho.alloc _) hg1)
  have hg2 : GrL w w1 (.slice A xs.length c) v1 := GrL.below (below_one w (.cells #[encB U0, encB U1, encB U2] 5)) ⟨hg1, fun q hq => by first | simpa using hloc q hq | simpa using hloc (by simp) q hq⟩
  clear hg1 ho hloc
  go_wp2
  go_ret
  exact ⟨_, rfl, hb1, hk, by rw [hW.out]; exact ho1, hg2⟩
set_option maxHeartbeats 2000000 in
set_option maxRecDepth 100000 in
theorem putDigestsG_any (w0 : World) (v vl : Value) (xs : List UInt8) (l : List (List UInt8)) (w : World) (hbl : Below w0.heap.size w0 w) (ho : OwnB w w0.heap.size v xs) (hv : RDigs w0.cell? vl l) (hne : ∀ k (hk : k < l.length), 0 < l[k].length) (hsz : xs.length + 1 + l.flatten.length ≤ 140737488355328) :
    Calls Try.prog 65 #[v, vl] w fun e w' => ∃ v', e = .returned v' ∧ Below w0.heap.size w0 w' ∧ Keeps w w' ∧ OwnB w' w0.heap.size v' (xs ++ digsB l) ∧ GrL w w' v v' := by
  obtain ⟨oA, oc, rfl⟩ := ho.form
  obtain ⟨A, c, rfl, _⟩ := id hv
  obtain ⟨_, hcap, hlen, hel⟩ := hv.at
  have Hel := Lib.hid hel
  have Hne := Lib.hid hne
  clear hel hv hne
  have hz := hbl.size
  have e0 := byteI_wrap l.length
  have hD : Hid (digsB l = byteI l.length :: l.flatten) := rfl
  generalize byteI l.length = U0 at e0 hD
  generalize digsB l = Db at hD ⊢
  go_enter Try.func65, Try.ntmps65
  go_wp2_with (at_builtin; first
    | (refine wpList_append_at (n := 140737488355328) (ys := [U0]) elemByte encB_one _ _ rfl rfl rfl (ho.alloc _) (le_alloc _ hz) rfl (byBlk (xs := [U0]) (Blk.new _ _ _) (by simp) (by simp)) (by decide) (by simp; omega) (by simp; omega) ?_))
  intro v1 w1 ho1 hg1 hloc
  have hb1 : Below w0.heap.size w0 w1 := (hbl.alloc hz _).grown hg1 (le_alloc _ hz) (fun g hg => (ho.own.lt g hg).1)
  have hr1 : GrL w w1 (.slice oA xs.length oc) v1 := GrL.below (below_one w (.cells #[encB U0] 5)) ⟨hg1, fun q hq => by first | simpa using hloc q hq | simpa using hloc (by simp) q hq⟩
  clear hloc
  have hk1 := (keeps_alloc w (.cells #[encB U0] 5)).trans (keeps_grown (ho.alloc _) hg1)
  clear hg1 ho
  obtain ⟨Y, hY⟩ : ∃ Y, Hid (xs ++ [U0] = Y) := ⟨_, rfl⟩
  have hYl : Y.length = xs.length + 1 := by rw [← hY.out]; simp
  rw [hY.out] at ho1
  go_wp2
  go_loopw [0, 15] (fun v i wr => ∃ k : Nat, k ≤ l.length ∧ i = .int .i64 k ∧ OwnB wr w0.heap.size v (Y ++ (l.take k).flatten) ∧ Below w0.heap.size w0 wr ∧ Keeps w wr ∧ GrL w wr (.slice oA xs.length oc) v) (fun _ i _ => l.length - (intOf i).toNat)
  case atStart => exact ⟨0, Nat.zero_le _, rfl, by simpa using ho1, hb1, hk1, hr1⟩
  case round =>
    clear ho1 hb1 hk1 hr1 hbl hz
    obtain ⟨k, hk, rfl, hown, hbl, hkp, hrl⟩ := hrel
    have hz := hbl.size
    by_cases hlt : k < l.length
    · obtain ⟨b0, o0, d, rfl, q0, hd⟩ := Hel.out k hlt
      have c0 := vle_below hbl _ _ q0
      obtain ⟨dA, dc, rfl, _⟩ := id hd
      have Hd := Lib.hid (hd.mono (vle_below hbl))
      obtain ⟨hn, hnl⟩ := flat_take l hlt
      have Hn := Lib.hid hn
      have hpos := Hne.out k hlt
      clear hd q0 hn
      generalize (l.take k).flatten = Z at hown Hn hnl
      generalize l[k] = p at Hd Hn hnl c0 hpos
      go_wp2_with (at_builtin; go_loud (refine wpList_append_at (n := 140737488355328) (ys := p) elemByte encB_one _ _ rfl rfl rfl hown hz rfl Hd.out (by decide) (by simp; omega) (by simp; omega) ?_))
      intro v2 w2 ho2 hg2 hloc
      have hb2 : Below w0.heap.size w0 w2 := hbl.grown hg2 hz (fun g hg => (hown.own.lt g hg).1)
      have hr2 := hrl.trans ⟨hg2, fun q hq => by first | simpa using hloc hpos q hq | simpa using hloc q hq⟩
      clear hloc hrl
      have hk2 := hkp.trans (keeps_grown hown hg2)
      clear hg2 hown
      go_wp2
      go_roundw
      case rel => exact ⟨k + 1, by omega, by go_num, by rw [Hn.out]; simpa using ho2, hb2, hk2, hr2⟩
      case measure => simp [intOf]; omega
    · have hkl : k = l.length := by omega
      subst hkl
      rw [List.take_length] at hown
      have hfin : OwnB wr w0.heap.size u0 (xs ++ Db) := by rw [hD.out]; rw [← hY.out, List.append_assoc] at hown; exact hown
      go_wp2
      go_ret
      exact ⟨_, rfl, hbl, hkp, hfin, hrl⟩
set_option maxHeartbeats 2000000 in
set_option maxRecDepth 100000 in
theorem putHeaderG_any (w0 : World) (v : Value) (xs : List UInt8) (a r : Int) (vb vp : Value) (b p : List (List UInt8)) (w : World) (hbl : Below w0.heap.size w0 w) (ho : OwnB w w0.heap.size v xs) (hr0 : 0 ≤ r) (hr1 : r ≤ 140737488355328) (hb : RDigs w0.cell? vb b) (hp : RDigs w0.cell? vp p) (hne : ∀ k (hk : k < b.length), 0 < b[k].length) (hne2 : ∀ k (hk : k < p.length), 0 < p[k].length) (hsz : xs.length + 6 + b.flatten.length + p.flatten.length ≤ 140737488355328) :
    Calls Try.prog 30 #[v, .agg #[.int .i64 a, .int .i64 r, vb, vp]] w fun e w' => ∃ v', e = .returned v' ∧ Below w0.heap.size w0 w' ∧ Keeps w w' ∧ OwnB w' w0.heap.size v' (xs ++ headerB a r b p) ∧ GrL w w' v v' := by
  obtain ⟨oA, oc, rfl⟩ := ho.form
  have hz := hbl.size
  have e0 := byteI_wrap a
  have hD : Hid (headerB a r b p = ((byteI a :: wideB r) ++ digsB b) ++ digsB p) := rfl
  generalize byteI a = U0 at e0 hD
  generalize headerB a r b p = Db at hD ⊢
  have hwl : (wideB r).length = 3 := rfl
  have hbl1 : (digsB b).length = 1 + b.flatten.length := by show (_ :: _).length = _; rw [List.length_cons]; omega
  generalize hWr : wideB r = Wr at hwl hD
  generalize hBd : digsB b = Bd at hbl1 hD
  go_enter Try.func30, Try.ntmps30
  go_wp2
  refine one_block _ _ _ (fun W => (Code.region _ _ _).wp _ _ _ W) (fun W hk hszW hblW => ?_)
  have hkp : Keeps w W := keeps_below hblW
  have ho := ho.kept hblW
  have gq0 : GrL w W (.slice oA xs.length oc) (.slice oA xs.length oc) := GrL.below hblW (GrL.refl _ _)
  have hbl := hbl.trans (hblW.mono hz)
  have hz := hbl.size
  refine wp_region_pl0 (fun w' => Below W.heap.size W w') (fun w' => Blk w' w.heap.size 27 #[.int .i64 a, .int .i64 r, vb, vp]) [15] (.q 0 (.q 1 (.q 2 (.q 3 (.q 6 (.q 7 (.q 9 (.q 10 (.q 12 (.q 13 (.l 4 (.l 5 (.l 8 (.l 11 (.l 14 (.qc 15 .nil)))))))))))))))) (by kernel_rfl) (by kernel_rfl) (fun _ _ d _ _ h => by cases d <;> exact h) rfl (by kernel_rfl) ?_ ?_
  · exact ⟨below_drew _, hk⟩
  intro W1 hS0 hS
  have ho := ho.kept hS0
  have gq0 := gq0.trans (GrL.below hS0 (GrL.refl _ _))
  have hkp := hkp.trans (keeps_below hS0)
  have hbl := hbl.trans (hS0.mono hz)
  have hz := hbl.size
  clear hS0 hk
  repeat (first
    | (refine pl_q (by assumption) rfl rfl ?_; apply Exists.intro; refine ⟨fun w' hS => ?_, ?_⟩; (· (have h0 := hS.cell 0; have h1 := hS.cell 1; have h2 := hS.cell 2; have h3 := hS.cell 3; simp at h0 h1 h2 h3; go_simp; exact rfl)); simp only [List.getElem_toArray, List.getElem_cons_zero, List.getElem_cons_succ, Act.put, List.setIfInBounds_toArray, List.set_cons_zero, List.set_cons_succ])
    | (refine pl_qc rfl rfl ?_; apply Exists.intro; refine ⟨fun w' _ => ?_, ?_⟩; (· (go_simp; exact rfl)); simp only [List.getElem_toArray, List.getElem_cons_zero, List.getElem_cons_succ, Act.put, List.setIfInBounds_toArray, List.set_cons_zero, List.set_cons_succ])
    | (refine pl_skip (by assumption) rfl rfl ?_; simp only [List.getElem_toArray, List.getElem_cons_zero, List.getElem_cons_succ, Act.put, List.setIfInBounds_toArray, List.set_cons_zero, List.set_cons_succ])
    | (refine pl_skipl (by assumption) rfl rfl ?_; simp only [List.getElem_toArray, List.getElem_cons_zero, List.getElem_cons_succ, Act.put, List.setIfInBounds_toArray, List.set_cons_zero, List.set_cons_succ]))
  first
    | refine pl_do rfl rfl (fun K hK => ?_)
    | refine op_do rfl rfl (fun K hK => ?_)
  try simp only [List.getElem_toArray, List.getElem_cons_zero, List.getElem_cons_succ]
  go_simp
  refine hK.out _ _ (hS.alloc _) (fun hS => ?_)
  clear hK K
  try simp only [List.getElem_toArray, List.getElem_cons_zero, List.getElem_cons_succ, Act.put, List.setIfInBounds_toArray, List.set_cons_zero, List.set_cons_succ]
  repeat (first
    | (refine pl_q (by assumption) rfl rfl ?_; apply Exists.intro; refine ⟨fun w' hS => ?_, ?_⟩; (· (have h0 := hS.cell 0; have h1 := hS.cell 1; have h2 := hS.cell 2; have h3 := hS.cell 3; simp at h0 h1 h2 h3; go_simp; exact rfl)); simp only [List.getElem_toArray, List.getElem_cons_zero, List.getElem_cons_succ, Act.put, List.setIfInBounds_toArray, List.set_cons_zero, List.set_cons_succ])
    | (refine pl_qc rfl rfl ?_; apply Exists.intro; refine ⟨fun w' _ => ?_, ?_⟩; (· (go_simp; exact rfl)); simp only [List.getElem_toArray, List.getElem_cons_zero, List.getElem_cons_succ, Act.put, List.setIfInBounds_toArray, List.set_cons_zero, List.set_cons_succ])
    | (refine pl_skip (by assumption) rfl rfl ?_; simp only [List.getElem_toArray, List.getElem_cons_zero, List.getElem_cons_succ, Act.put, List.setIfInBounds_toArray, List.set_cons_zero, List.set_cons_succ])
    | (refine pl_skipl (by assumption) rfl rfl ?_; simp only [List.getElem_toArray, List.getElem_cons_zero, List.getElem_cons_succ, Act.put, List.setIfInBounds_toArray, List.set_cons_zero, List.set_cons_succ]))
  first
    | refine pl_do rfl rfl (fun K hK => ?_)
    | refine op_do rfl rfl (fun K hK => ?_)
  try simp only [List.getElem_toArray, List.getElem_cons_zero, List.getElem_cons_succ]
  have hrow := byte_row W1 U0
  have hoa := ho.alloc (.cells #[.int .u8 U0.toNat] 5)
  refine wp_append_at (n := 140737488355328) (xs := xs) (ys := [U0]) (v := .slice oA xs.length oc) (vy := .slice (some ⟨W1.heap.size, 0, none⟩) 1 1) elemByte encB_one _ _ rfl rfl hoa (le_alloc _ hz) rfl hrow (by decide) (by simp; omega) (by simp; omega) ?_
  intro v1 w1 o1 g1 hloc
  have b1 : Below w0.heap.size w0 w1 := (hbl.alloc hz _).grown g1 (le_alloc _ hz) (fun g hg => (ho.own.lt g hg).1)
  have gq1 := gq0.trans (GrL.below (below_one W1 (.cells #[.int .u8 U0.toNat] 5)) ⟨g1, hloc (by simp)⟩)
  clear hloc
  have k0 := keeps_grown hoa g1
  have k1 := (keeps_alloc W1 (.cells #[.int .u8 U0.toNat] 5)).trans k0
  have z1 := b1.size
  clear g1 hoa hrow
  refine hK.out _ _ (k0 _ _ _ (by decide) hS) (fun hS => ?_)
  clear hK K
  try simp only [List.getElem_toArray, List.getElem_cons_zero, List.getElem_cons_succ, Act.put, List.setIfInBounds_toArray, List.set_cons_zero, List.set_cons_succ]
  repeat (first
    | (refine pl_q (by assumption) rfl rfl ?_; apply Exists.intro; refine ⟨fun w' hS => ?_, ?_⟩; (· (have h0 := hS.cell 0; have h1 := hS.cell 1; have h2 := hS.cell 2; have h3 := hS.cell 3; simp at h0 h1 h2 h3; go_simp; exact rfl)); simp only [List.getElem_toArray, List.getElem_cons_zero, List.getElem_cons_succ, Act.put, List.setIfInBounds_toArray, List.set_cons_zero, List.set_cons_succ])
    | (refine pl_qc rfl rfl ?_; apply Exists.intro; refine ⟨fun w' _ => ?_, ?_⟩; (· (go_simp; exact rfl)); simp only [List.getElem_toArray, List.getElem_cons_zero, List.getElem_cons_succ, Act.put, List.setIfInBounds_toArray, List.set_cons_zero, List.set_cons_succ])
    | (refine pl_skip (by assumption) rfl rfl ?_; simp only [List.getElem_toArray, List.getElem_cons_zero, List.getElem_cons_succ, Act.put, List.setIfInBounds_toArray, List.set_cons_zero, List.set_cons_succ])
    | (refine pl_skipl (by assumption) rfl rfl ?_; simp only [List.getElem_toArray, List.getElem_cons_zero, List.getElem_cons_succ, Act.put, List.setIfInBounds_toArray, List.set_cons_zero, List.set_cons_succ]))
  first
    | refine pl_do rfl rfl (fun K hK => ?_)
    | refine op_do rfl rfl (fun K hK => ?_)
  try simp only [List.getElem_toArray, List.getElem_cons_zero, List.getElem_cons_succ]
  go_simp
  refine (wideG_any v1 r (xs ++ [U0]) _ _ o1 z1 hr0 hr1 (by simp; omega)).mono ?_
  rintro e w2 ⟨v2, rfl, b2, k2, o2, g2⟩
  have gq2 := gq1.trans g2
  clear g2 gq1
  rw [hWr] at o2
  have b2 := b1.trans b2
  clear o1 b1
  refine hK.out _ _ (k2 _ _ _ (by decide) hS) (fun hS => ?_)
  clear hK K
  try simp only [List.getElem_toArray, List.getElem_cons_zero, List.getElem_cons_succ, Act.put, List.setIfInBounds_toArray, List.set_cons_zero, List.set_cons_succ]
  repeat (first
    | (refine pl_q (by assumption) rfl rfl ?_; apply Exists.intro; refine ⟨fun w' hS => ?_, ?_⟩; (· (have h0 := hS.cell 0; have h1 := hS.cell 1; have h2 := hS.cell 2; have h3 := hS.cell 3; simp at h0 h1 h2 h3; go_simp; exact rfl)); simp only [List.getElem_toArray, List.getElem_cons_zero, List.getElem_cons_succ, Act.put, List.setIfInBounds_toArray, List.set_cons_zero, List.set_cons_succ])
    | (refine pl_qc rfl rfl ?_; apply Exists.intro; refine ⟨fun w' _ => ?_, ?_⟩; (· (go_simp; exact rfl)); simp only [List.getElem_toArray, List.getElem_cons_zero, List.getElem_cons_succ, Act.put, List.setIfInBounds_toArray, List.set_cons_zero, List.set_cons_succ])
    | (refine pl_skip (by assumption) rfl rfl ?_; simp only [List.getElem_toArray, List.getElem_cons_zero, List.getElem_cons_succ, Act.put, List.setIfInBounds_toArray, List.set_cons_zero, List.set_cons_succ])
    | (refine pl_skipl (by assumption) rfl rfl ?_; simp only [List.getElem_toArray, List.getElem_cons_zero, List.getElem_cons_succ, Act.put, List.setIfInBounds_toArray, List.set_cons_zero, List.set_cons_succ]))
  first
    | refine pl_do rfl rfl (fun K hK => ?_)
    | refine op_do rfl rfl (fun K hK => ?_)
  try simp only [List.getElem_toArray, List.getElem_cons_zero, List.getElem_cons_succ]
  go_simp
  refine (putDigestsG_any w0 v2 vb _ b _ b2 o2 hb hne (by simp only [List.length_append, List.length_cons, List.length_nil]; omega)).mono ?_
  rintro e w3 ⟨v3, rfl, b3, k3, o3, g3⟩
  have gq3 := gq2.trans g3
  clear g3 gq2
  rw [hBd] at o3
  clear o2 b2
  refine hK.out _ _ (k3 _ _ _ (by decide) hS) (fun hS => ?_)
  clear hK K
  try simp only [List.getElem_toArray, List.getElem_cons_zero, List.getElem_cons_succ, Act.put, List.setIfInBounds_toArray, List.set_cons_zero, List.set_cons_succ]
  repeat (first
    | (refine pl_q (by assumption) rfl rfl ?_; apply Exists.intro; refine ⟨fun w' hS => ?_, ?_⟩; (· (have h0 := hS.cell 0; have h1 := hS.cell 1; have h2 := hS.cell 2; have h3 := hS.cell 3; simp at h0 h1 h2 h3; go_simp; exact rfl)); simp only [List.getElem_toArray, List.getElem_cons_zero, List.getElem_cons_succ, Act.put, List.setIfInBounds_toArray, List.set_cons_zero, List.set_cons_succ])
    | (refine pl_qc rfl rfl ?_; apply Exists.intro; refine ⟨fun w' _ => ?_, ?_⟩; (· (go_simp; exact rfl)); simp only [List.getElem_toArray, List.getElem_cons_zero, List.getElem_cons_succ, Act.put, List.setIfInBounds_toArray, List.set_cons_zero, List.set_cons_succ])
    | (refine pl_skip (by assumption) rfl rfl ?_; simp only [List.getElem_toArray, List.getElem_cons_zero, List.getElem_cons_succ, Act.put, List.setIfInBounds_toArray, List.set_cons_zero, List.set_cons_succ])
    | (refine pl_skipl (by assumption) rfl rfl ?_; simp only [List.getElem_toArray, List.getElem_cons_zero, List.getElem_cons_succ, Act.put, List.setIfInBounds_toArray, List.set_cons_zero, List.set_cons_succ]))
  first
    | refine pl_do rfl rfl (fun K hK => ?_)
    | refine op_do rfl rfl (fun K hK => ?_)
  try simp only [List.getElem_toArray, List.getElem_cons_zero, List.getElem_cons_succ]
  go_simp
  refine (putDigestsG_any w0 v3 vp _ p _ b3 o3 hp hne2 (by simp only [List.length_append, List.length_cons, List.length_nil]; omega)).mono ?_
  rintro e w4 ⟨v4, rfl, b4, k4, o4, g4⟩
  have gq4 := gq3.trans g4
  clear g4 gq3
  clear o3 b3
  refine hK.out _ _ (k4 _ _ _ (by decide) hS) (fun hS => ?_)
  clear hK K
  try simp only [List.getElem_toArray, List.getElem_cons_zero, List.getElem_cons_succ, Act.put, List.setIfInBounds_toArray, List.set_cons_zero, List.set_cons_succ]
  repeat (first
    | (refine pl_q (by assumption) rfl rfl ?_; apply Exists.intro; refine ⟨fun w' hS => ?_, ?_⟩; (· (have h0 := hS.cell 0; have h1 := hS.cell 1; have h2 := hS.cell 2; have h3 := hS.cell 3; simp at h0 h1 h2 h3; go_simp; exact rfl)); simp only [List.getElem_toArray, List.getElem_cons_zero, List.getElem_cons_succ, Act.put, List.setIfInBounds_toArray, List.set_cons_zero, List.set_cons_succ])
    | (refine pl_qc rfl rfl ?_; apply Exists.intro; refine ⟨fun w' _ => ?_, ?_⟩; (· (go_simp; exact rfl)); simp only [List.getElem_toArray, List.getElem_cons_zero, List.getElem_cons_succ, Act.put, List.setIfInBounds_toArray, List.set_cons_zero, List.set_cons_succ])
    | (refine pl_skip (by assumption) rfl rfl ?_; simp only [List.getElem_toArray, List.getElem_cons_zero, List.getElem_cons_succ, Act.put, List.setIfInBounds_toArray, List.set_cons_zero, List.set_cons_succ])
    | (refine pl_skipl (by assumption) rfl rfl ?_; simp only [List.getElem_toArray, List.getElem_cons_zero, List.getElem_cons_succ, Act.put, List.setIfInBounds_toArray, List.set_cons_zero, List.set_cons_succ]))
  refine pl_nil ?_
  go_wp2
  go_ret
  exact ⟨_, rfl, b4, (((hkp.trans k1).trans k2).trans k3).trans k4, by rw [hD.out]; simpa using o4, gq4⟩
end Go.Proofs.Ytedealljhmokoaa

namespace Go.Proofs.Ytedealljhmokoaa
open Go.ChangeShapes Go.WideShapes Go.ChangeAt Go.RowKit
set_option linter.unusedVariables false
set_option linter.unusedSimpArgs false
/-- 'append(out, x)', x in a block of one byte: and where the row lies then -/
theorem wp_append_b1 {P : Program} {wr : World} {o : Oper} {a : Act} {K : Act → World → Prop} {Q : Exit → Act → World → Prop} {t e : TypeId} {base n : Nat} {v : Value} {xs : List UInt8} {W : World} (u : UInt8)
    (hE : Elem1 P t e 1) (s y : Operand)
    (ho : o.op = .call { callee := .builtin .append, args := #[s, y], argTypes := #[t, t] })
    (hs : a.eval s = v) (hown : OwnVec encB e wr base v xs) (hbl : Below base W wr) (hbase : base ≤ wr.heap.size)
    {gy : Nat} (hx : a.eval y = .slice (some ⟨gy, 0, none⟩) 1 1) (hcu : wr.cell? ⟨gy, 0, none⟩ = some (encB u)) (hc : n ≤ 140737488355328) (hn : xs.length + 1 ≤ n)
    (h : ∀ v' w', OwnVec encB e w' base v' (xs ++ [u]) → Below base W w' → wr.grownBy w' v.ownBlock → (v'.ownBlock = v.ownBlock ∨ v'.ownBlock = some wr.heap.size) → K (a.put o.dst v') w') : o.wp P a wr K Q := by
  obtain ⟨ht, i, z, hi, hz0, hz1, hz2, hzs⟩ := hE
  have hnews : ∀ j u', [encB u][j]? = some u' → wr.cell? ((⟨gy, 0, none⟩ : Addr).add j) = some u' := fun j u' hu => by
    cases j with
    | zero => simp at hu; subst hu; rw [add_off]; exact hcu
    | succ j => simp at hu
  have h1' : ∀ u' ∈ [encB u], u'.oneCell' = true := fun u' hu => by rw [List.mem_singleton.1 hu]; rfl
  obtain ⟨v', w', hr, hro, hg⟩ := run_append_any (P := P) wr base t o.type e i z 1 1 ht hi hz0 hz1 hz2 hzs (by decide) v xs.length (xs.map encB) hown.own (some ⟨gy, 0, none⟩) 1 1 [encB u] rfl (fun h => by cases h)
    (fun ad had => by obtain rfl := Option.some.inj had; exact hnews) h1' (le_maxLen (Nat.le_trans hn hc)) (by omega) hbase
  have hloc := append_loc (P := P) wr base t o.type e i z 1 1 ht hi hz0 hz1 hz2 v xs.length (xs.map encB) hown.own ⟨gy, 0, none⟩ 1 1 [encB u] rfl hnews h1' (by decide) (Nat.le_trans hn hc) (by omega) hr
  unfold Oper.wp execOp
  simp [ho, resolve, invoke, builtin, hs, hx, hr, Result.andThen, Oper.upon]
  refine h v' w' ⟨?_⟩ (hbl.grown hg hbase (fun g hg => (hown.own.lt g hg).1)) hg hloc
  simpa using hro
theorem byte_alloc (w : World) (u : UInt8) (R : World → Prop) (h : ∀ W, W.cell? ⟨w.heap.size, 0, none⟩ = some (encB u) → W.heap.size = w.heap.size + 1 → Below w.heap.size w W → R W) : R (w.alloc (.cells #[.int .u8 u.toNat] 5)) :=
  h _ ((Blk.new w 5 #[encB u]).cell 0) (by simp) (below_one _ _)
theorem ne_new {w : World} {B : Nat} {v : Value} {xs : List UInt8} (ho : OwnB w B v xs) : ¬ (some w.heap.size = v.ownBlock) := fun e => by
  have := (ho.own.lt _ e.symm).2; omega
theorem ne_loc {g n : Nat} {v v' : Value} (h : ¬ (some g = v.ownBlock)) (hl : v'.ownBlock = v.ownBlock ∨ v'.ownBlock = some n) (hg : g < n) : ¬ (some g = v'.ownBlock) := fun e => by
  rcases hl with hl | hl
  · exact h (e.trans hl)
  · rw [hl] at e; injection e with e; omega
def textsB (l : List ByteArray) : List UInt8 := (l.map fun s => byteI s.size :: sbytes s).flatten
def batchB (a n : Int) (l : List ByteArray) : List UInt8 := ((byteI a :: wideB n) ++ [byteI l.length]) ++ textsB l
theorem texts_take (l : List ByteArray) {k : Nat} (hk : k < l.length) : textsB (l.take (k + 1)) = textsB (l.take k) ++ ([byteI l[k].size] ++ sbytes l[k]) := by
  unfold textsB
  rw [List.take_succ_eq_append_getElem hk, List.map_append, List.flatten_append, List.map_singleton, List.flatten_singleton]
  rfl
theorem texts_len (l : List ByteArray) {k : Nat} (hk : k < l.length) : (textsB (l.take k)).length + 1 + l[k].size ≤ (textsB l).length := by
  have h2 : textsB l = textsB (l.take (k + 1)) ++ textsB (l.drop (k + 1)) := by
    unfold textsB
    rw [← List.flatten_append, ← List.map_append, List.take_append_drop]
  rw [h2, texts_take l hk]
  simp only [List.length_append, List.length_cons, List.length_nil, sbytes_len]
  omega
set_option maxHeartbeats 4000000 in
set_option maxRecDepth 100000 in
theorem putBatch_any (w0 : World) (v : Value) (xs : List UInt8) (a n : Int) (vl : Value) (l : List ByteArray) (w : World) (hbl : Below w0.heap.size w0 w) (ho : OwnB w w0.heap.size v xs) (hr0 : 0 ≤ n) (hr1 : n ≤ 140737488355328) (hl : RTexts w0.cell? vl l) (hsz : xs.length + 5 + (textsB l).length ≤ 140737488355328) :
    Calls Try.prog 29 #[v, .agg #[.int .i64 a, .int .i64 n, vl]] w fun e w' => ∃ v', e = .returned v' ∧ Below w0.heap.size w0 w' ∧ Keeps w w' ∧ OwnB w' w0.heap.size v' (xs ++ batchB a n l) := by
  obtain ⟨oA, oc, rfl⟩ := ho.form
  obtain ⟨A, c, rfl, hlen, hel⟩ := hl.form
  have Hel := Lib.hid hel
  clear hel hl
  have hz := hbl.size
  have e0 := byteI_wrap a
  have e1 := byteI_wrap l.length
  have hD : Hid (batchB a n l = ((byteI a :: wideB n) ++ [byteI l.length]) ++ textsB l) := rfl
  generalize byteI a = U0 at e0 hD
  generalize byteI l.length = U1 at e1 hD
  generalize batchB a n l = Db at hD ⊢
  have hwl : (wideB n).length = 3 := rfl
  generalize hWr : wideB n = Wr at hwl hD
  obtain ⟨Y, hY⟩ : ∃ Y, Hid (xs ++ [U0] ++ Wr ++ [U1] = Y) := ⟨_, rfl⟩
  have hYl : Y.length = xs.length + 5 := by rw [← hY.out]; simp only [List.length_append, List.length_cons, List.length_nil]; omega
  go_enter Try.func29, Try.ntmps29
  go_upto_region 1 with fail
  refine one_block _ _ _ (fun W => Code.wp _ _ _ _ W) (fun W hk hszW hblW => ?_)
  have hkp : Keeps w W := keeps_below hblW
  have ho := ho.kept hblW
  have hbl := hbl.trans (hblW.mono hz)
  have hz := hbl.size
  go_cut [0] (fun v w' => Blk w' w.heap.size 24 #[.int .i64 a, .int .i64 n, .slice A l.length c] ∧ Keeps w w' ∧ Below w0.heap.size w0 w' ∧ OwnB w' w0.heap.size v Y)
  case first =>
    refine wp_region_pl0 (fun w' => Below W.heap.size W w') (fun w' => Blk w' w.heap.size 24 #[.int .i64 a, .int .i64 n, .slice A l.length c]) [15] (.q 0 (.q 1 (.q 2 (.q 3 (.q 6 (.q 7 (.q 9 (.q 10 (.q 11 (.q 12 (.alt 4 (.alt 5 (.alt 8 (.l 13 (.l 14 (.qc 15 .nil))) 13 (.l 8 (.l 14 (.qc 15 .nil)))) 13 (.l 5 (.l 8 (.l 14 (.qc 15 .nil))))) 13 (.l 4 (.l 5 (.l 8 (.l 14 (.qc 15 .nil)))))))))))))))) (by kernel_rfl) (by kernel_rfl) (fun _ _ d _ _ h => by cases d <;> exact h) rfl (by kernel_rfl) ?_ ?_
    · exact ⟨below_drew _, hk⟩
    intro W1 hS0 hS
    have ho := ho.kept hS0
    have hkp := hkp.trans (keeps_below hS0)
    have hbl := hbl.trans (hS0.mono hz)
    have hz := hbl.size
    clear hS0 hk
    -- ORDERS
    repeat (first
      | (refine pl_q (by assumption) rfl rfl ?_; apply Exists.intro; refine ⟨fun w' hS => ?_, ?_⟩; (· (have h0 := hS.cell 0; have h1 := hS.cell 1; have h2 := hS.cell 2; simp at h0 h1 h2; go_simp; exact rfl)); simp only [List.getElem_toArray, List.getElem_cons_zero, List.getElem_cons_succ, Act.put, List.setIfInBounds_toArray, List.set_cons_zero, List.set_cons_succ])
      | (refine pl_qc rfl rfl ?_; apply Exists.intro; refine ⟨fun w' _ => ?_, ?_⟩; (· (go_simp; exact rfl)); simp only [List.getElem_toArray, List.getElem_cons_zero, List.getElem_cons_succ, Act.put, List.setIfInBounds_toArray, List.set_cons_zero, List.set_cons_succ])
      | (refine pl_skip (by assumption) rfl rfl ?_; simp only [List.getElem_toArray, List.getElem_cons_zero, List.getElem_cons_succ, Act.put, List.setIfInBounds_toArray, List.set_cons_zero, List.set_cons_succ])
      | (refine pl_skipl (by assumption) rfl rfl ?_; simp only [List.getElem_toArray, List.getElem_cons_zero, List.getElem_cons_succ, Act.put, List.setIfInBounds_toArray, List.set_cons_zero, List.set_cons_succ]))
    refine pl_alt ?_ ?_
    ·
      first
        | refine pl_do rfl rfl (fun K hK => ?_)
        | refine op_do rfl rfl (fun K hK => ?_)
      try simp only [List.getElem_toArray, List.getElem_cons_zero, List.getElem_cons_succ]
      go_simp
      refine byte_alloc _ U0 (fun W => K _ W) (fun wn cA zn bn => ?_)
      refine hK.out _ _ (hS.kept bn) (fun hS => ?_)
      clear hK K
      try simp only [List.getElem_toArray, List.getElem_cons_zero, List.getElem_cons_succ, Act.put, List.setIfInBounds_toArray, List.set_cons_zero, List.set_cons_succ]
      have ho := ho.kept bn
      have hkp := hkp.trans (keeps_below bn)
      have hbl := hbl.trans (bn.mono hz)
      have hz := hbl.size
      have hgt := Nat.lt_of_succ_le (Nat.le_of_eq zn.symm)
      clear bn zn
      refine pl_alt ?_ ?_
      ·
        first
          | refine pl_do rfl rfl (fun K hK => ?_)
          | refine op_do rfl rfl (fun K hK => ?_)
        try simp only [List.getElem_toArray, List.getElem_cons_zero, List.getElem_cons_succ]
        refine wp_append_b1 (n := 140737488355328) (W := w0) (xs := xs) U0 elemByte _ _ rfl rfl ho hbl hz rfl cA (by decide) (by omega) (fun v1 wn on bn gn ln => ?_)
        refine hK.out _ _ (keeps_grown ho gn _ _ _ (by decide) hS) (fun hS => ?_)
        clear hK K
        try simp only [List.getElem_toArray, List.getElem_cons_zero, List.getElem_cons_succ, Act.put, List.setIfInBounds_toArray, List.set_cons_zero, List.set_cons_succ]
        have hkp := hkp.trans (keeps_grown ho gn)
        have ho := on
        have hbl := bn
        have hz := hbl.size
        clear gn on bn ln cA
        refine pl_alt ?_ ?_
        ·
          first
            | refine pl_do rfl rfl (fun K hK => ?_)
            | refine op_do rfl rfl (fun K hK => ?_)
          try simp only [List.getElem_toArray, List.getElem_cons_zero, List.getElem_cons_succ]
          go_simp
          refine (wide_any v1 n (xs ++ [U0]) _ _ ho hz hr0 hr1 (by simp; omega)).mono ?_
          rintro e wn ⟨v2, rfl, bn, kn, on, gn⟩
          rw [hWr] at on
          refine hK.out _ _ (kn _ _ _ (by decide) hS) (fun hS => ?_)
          clear hK K
          try simp only [List.getElem_toArray, List.getElem_cons_zero, List.getElem_cons_succ, Act.put, List.setIfInBounds_toArray, List.set_cons_zero, List.set_cons_succ]
          have hkp := hkp.trans kn
          have hbl := hbl.trans bn
          have hz := hbl.size
          have ho := on
          clear gn on bn kn
          first
            | refine pl_do rfl rfl (fun K hK => ?_)
            | refine op_do rfl rfl (fun K hK => ?_)
          try simp only [List.getElem_toArray, List.getElem_cons_zero, List.getElem_cons_succ]
          go_simp
          refine byte_alloc _ U1 (fun W => K _ W) (fun wn cD zn bn => ?_)
          refine hK.out _ _ (hS.kept bn) (fun hS => ?_)
          clear hK K
          try simp only [List.getElem_toArray, List.getElem_cons_zero, List.getElem_cons_succ, Act.put, List.setIfInBounds_toArray, List.set_cons_zero, List.set_cons_succ]
          have hneD := ne_new ho
          have ho := ho.kept bn
          have hkp := hkp.trans (keeps_below bn)
          have hbl := hbl.trans (bn.mono hz)
          have hz := hbl.size
          have hgt := Nat.lt_of_succ_le (Nat.le_of_eq zn.symm)
          clear bn zn
          first
            | refine pl_do rfl rfl (fun K hK => ?_)
            | refine op_do rfl rfl (fun K hK => ?_)
          try simp only [List.getElem_toArray, List.getElem_cons_zero, List.getElem_cons_succ]
          refine wp_append_b1 (n := 140737488355328) (W := w0) (xs := xs ++ [U0] ++ Wr) U1 elemByte _ _ rfl rfl ho hbl hz rfl cD (by decide) (by simp only [List.length_append, List.length_cons, List.length_nil]; omega) (fun v3 wn on bn gn ln => ?_)
          refine hK.out _ _ (keeps_grown ho gn _ _ _ (by decide) hS) (fun hS => ?_)
          clear hK K
          try simp only [List.getElem_toArray, List.getElem_cons_zero, List.getElem_cons_succ, Act.put, List.setIfInBounds_toArray, List.set_cons_zero, List.set_cons_succ]
          have hkp := hkp.trans (keeps_grown ho gn)
          repeat (first
            | (refine pl_q (by assumption) rfl rfl ?_; apply Exists.intro; refine ⟨fun w' hS => ?_, ?_⟩; (· (have h0 := hS.cell 0; have h1 := hS.cell 1; have h2 := hS.cell 2; simp at h0 h1 h2; go_simp; exact rfl)); simp only [List.getElem_toArray, List.getElem_cons_zero, List.getElem_cons_succ, Act.put, List.setIfInBounds_toArray, List.set_cons_zero, List.set_cons_succ])
            | (refine pl_qc rfl rfl ?_; apply Exists.intro; refine ⟨fun w' _ => ?_, ?_⟩; (· (go_simp; exact rfl)); simp only [List.getElem_toArray, List.getElem_cons_zero, List.getElem_cons_succ, Act.put, List.setIfInBounds_toArray, List.set_cons_zero, List.set_cons_succ])
            | (refine pl_skip (by assumption) rfl rfl ?_; simp only [List.getElem_toArray, List.getElem_cons_zero, List.getElem_cons_succ, Act.put, List.setIfInBounds_toArray, List.set_cons_zero, List.set_cons_succ])
            | (refine pl_skipl (by assumption) rfl rfl ?_; simp only [List.getElem_toArray, List.getElem_cons_zero, List.getElem_cons_succ, Act.put, List.setIfInBounds_toArray, List.set_cons_zero, List.set_cons_succ]))
          refine pl_nil ?_
          go_wp2
          go_meet
          exact ⟨hS, hkp, bn, by rw [hY.out] at on; exact on⟩
        ·
          first
            | refine pl_do rfl rfl (fun K hK => ?_)
            | refine op_do rfl rfl (fun K hK => ?_)
          try simp only [List.getElem_toArray, List.getElem_cons_zero, List.getElem_cons_succ]
          go_simp
          refine byte_alloc _ U1 (fun W => K _ W) (fun wn cD zn bn => ?_)
          refine hK.out _ _ (hS.kept bn) (fun hS => ?_)
          clear hK K
          try simp only [List.getElem_toArray, List.getElem_cons_zero, List.getElem_cons_succ, Act.put, List.setIfInBounds_toArray, List.set_cons_zero, List.set_cons_succ]
          have hneD := ne_new ho
          have ho := ho.kept bn
          have hkp := hkp.trans (keeps_below bn)
          have hbl := hbl.trans (bn.mono hz)
          have hz := hbl.size
          have hgt := Nat.lt_of_succ_le (Nat.le_of_eq zn.symm)
          clear bn zn
          first
            | refine pl_do rfl rfl (fun K hK => ?_)
            | refine op_do rfl rfl (fun K hK => ?_)
          try simp only [List.getElem_toArray, List.getElem_cons_zero, List.getElem_cons_succ]
          go_simp
          refine (wide_any v1 n (xs ++ [U0]) _ _ ho hz hr0 hr1 (by simp; omega)).mono ?_
          rintro e wn ⟨v2, rfl, bn, kn, on, gn⟩
          rw [hWr] at on
          refine hK.out _ _ (kn _ _ _ (by decide) hS) (fun hS => ?_)
          clear hK K
          try simp only [List.getElem_toArray, List.getElem_cons_zero, List.getElem_cons_succ, Act.put, List.setIfInBounds_toArray, List.set_cons_zero, List.set_cons_succ]
          have hkp := hkp.trans kn
          have hbl := hbl.trans bn
          have hz := hbl.size
          have cD := gn.cell cD hneD
          have ho := on
          clear gn on bn kn
          first
            | refine pl_do rfl rfl (fun K hK => ?_)
            | refine op_do rfl rfl (fun K hK => ?_)
          try simp only [List.getElem_toArray, List.getElem_cons_zero, List.getElem_cons_succ]
          refine wp_append_b1 (n := 140737488355328) (W := w0) (xs := xs ++ [U0] ++ Wr) U1 elemByte _ _ rfl rfl ho hbl hz rfl cD (by decide) (by simp only [List.length_append, List.length_cons, List.length_nil]; omega) (fun v3 wn on bn gn ln => ?_)
          refine hK.out _ _ (keeps_grown ho gn _ _ _ (by decide) hS) (fun hS => ?_)
          clear hK K
          try simp only [List.getElem_toArray, List.getElem_cons_zero, List.getElem_cons_succ, Act.put, List.setIfInBounds_toArray, List.set_cons_zero, List.set_cons_succ]
          have hkp := hkp.trans (keeps_grown ho gn)
          repeat (first
            | (refine pl_q (by assumption) rfl rfl ?_; apply Exists.intro; refine ⟨fun w' hS => ?_, ?_⟩; (· (have h0 := hS.cell 0; have h1 := hS.cell 1; have h2 := hS.cell 2; simp at h0 h1 h2; go_simp; exact rfl)); simp only [List.getElem_toArray, List.getElem_cons_zero, List.getElem_cons_succ, Act.put, List.setIfInBounds_toArray, List.set_cons_zero, List.set_cons_succ])
            | (refine pl_qc rfl rfl ?_; apply Exists.intro; refine ⟨fun w' _ => ?_, ?_⟩; (· (go_simp; exact rfl)); simp only [List.getElem_toArray, List.getElem_cons_zero, List.getElem_cons_succ, Act.put, List.setIfInBounds_toArray, List.set_cons_zero, List.set_cons_succ])
            | (refine pl_skip (by assumption) rfl rfl ?_; simp only [List.getElem_toArray, List.getElem_cons_zero, List.getElem_cons_succ, Act.put, List.setIfInBounds_toArray, List.set_cons_zero, List.set_cons_succ])
            | (refine pl_skipl (by assumption) rfl rfl ?_; simp only [List.getElem_toArray, List.getElem_cons_zero, List.getElem_cons_succ, Act.put, List.setIfInBounds_toArray, List.set_cons_zero, List.set_cons_succ]))
          refine pl_nil ?_
          go_wp2
          go_meet
          exact ⟨hS, hkp, bn, by rw [hY.out] at on; exact on⟩
      ·
        first
          | refine pl_do rfl rfl (fun K hK => ?_)
          | refine op_do rfl rfl (fun K hK => ?_)
        try simp only [List.getElem_toArray, List.getElem_cons_zero, List.getElem_cons_succ]
        go_simp
        refine byte_alloc _ U1 (fun W => K _ W) (fun wn cD zn bn => ?_)
        refine hK.out _ _ (hS.kept bn) (fun hS => ?_)
        clear hK K
        try simp only [List.getElem_toArray, List.getElem_cons_zero, List.getElem_cons_succ, Act.put, List.setIfInBounds_toArray, List.set_cons_zero, List.set_cons_succ]
        have cA := vle_below bn _ _ cA
        have hneD := ne_new ho
        have ho := ho.kept bn
        have hkp := hkp.trans (keeps_below bn)
        have hbl := hbl.trans (bn.mono hz)
        have hz := hbl.size
        have hgt := Nat.lt_of_succ_le (Nat.le_of_eq zn.symm)
        clear bn zn
        first
          | refine pl_do rfl rfl (fun K hK => ?_)
          | refine op_do rfl rfl (fun K hK => ?_)
        try simp only [List.getElem_toArray, List.getElem_cons_zero, List.getElem_cons_succ]
        refine wp_append_b1 (n := 140737488355328) (W := w0) (xs := xs) U0 elemByte _ _ rfl rfl ho hbl hz rfl cA (by decide) (by omega) (fun v1 wn on bn gn ln => ?_)
        refine hK.out _ _ (keeps_grown ho gn _ _ _ (by decide) hS) (fun hS => ?_)
        clear hK K
        try simp only [List.getElem_toArray, List.getElem_cons_zero, List.getElem_cons_succ, Act.put, List.setIfInBounds_toArray, List.set_cons_zero, List.set_cons_succ]
        have hkp := hkp.trans (keeps_grown ho gn)
        have cD := gn.cell cD hneD
        have hneD := ne_loc hneD ln (by omega)
        have ho := on
        have hbl := bn
        have hz := hbl.size
        clear gn on bn ln cA
        first
          | refine pl_do rfl rfl (fun K hK => ?_)
          | refine op_do rfl rfl (fun K hK => ?_)
        try simp only [List.getElem_toArray, List.getElem_cons_zero, List.getElem_cons_succ]
        go_simp
        refine (wide_any v1 n (xs ++ [U0]) _ _ ho hz hr0 hr1 (by simp; omega)).mono ?_
        rintro e wn ⟨v2, rfl, bn, kn, on, gn⟩
        rw [hWr] at on
        refine hK.out _ _ (kn _ _ _ (by decide) hS) (fun hS => ?_)
        clear hK K
        try simp only [List.getElem_toArray, List.getElem_cons_zero, List.getElem_cons_succ, Act.put, List.setIfInBounds_toArray, List.set_cons_zero, List.set_cons_succ]
        have hkp := hkp.trans kn
        have hbl := hbl.trans bn
        have hz := hbl.size
        have cD := gn.cell cD hneD
        have ho := on
        clear gn on bn kn
        first
          | refine pl_do rfl rfl (fun K hK => ?_)
          | refine op_do rfl rfl (fun K hK => ?_)
        try simp only [List.getElem_toArray, List.getElem_cons_zero, List.getElem_cons_succ]
        refine wp_append_b1 (n := 140737488355328) (W := w0) (xs := xs ++ [U0] ++ Wr) U1 elemByte _ _ rfl rfl ho hbl hz rfl cD (by decide) (by simp only [List.length_append, List.length_cons, List.length_nil]; omega) (fun v3 wn on bn gn ln => ?_)
        refine hK.out _ _ (keeps_grown ho gn _ _ _ (by decide) hS) (fun hS => ?_)
        clear hK K
        try simp only [List.getElem_toArray, List.getElem_cons_zero, List.getElem_cons_succ, Act.put, List.setIfInBounds_toArray, List.set_cons_zero, List.set_cons_succ]
        have hkp := hkp.trans (keeps_grown ho gn)
        repeat (first
          | (refine pl_q (by assumption) rfl rfl ?_; apply Exists.intro; refine ⟨fun w' hS => ?_, ?_⟩; (· (have h0 := hS.cell 0; have h1 := hS.cell 1; have h2 := hS.cell 2; simp at h0 h1 h2; go_simp; exact rfl)); simp only [List.getElem_toArray, List.getElem_cons_zero, List.getElem_cons_succ, Act.put, List.setIfInBounds_toArray, List.set_cons_zero, List.set_cons_succ])
          | (refine pl_qc rfl rfl ?_; apply Exists.intro; refine ⟨fun w' _ => ?_, ?_⟩; (· (go_simp; exact rfl)); simp only [List.getElem_toArray, List.getElem_cons_zero, List.getElem_cons_succ, Act.put, List.setIfInBounds_toArray, List.set_cons_zero, List.set_cons_succ])
          | (refine pl_skip (by assumption) rfl rfl ?_; simp only [List.getElem_toArray, List.getElem_cons_zero, List.getElem_cons_succ, Act.put, List.setIfInBounds_toArray, List.set_cons_zero, List.set_cons_succ])
          | (refine pl_skipl (by assumption) rfl rfl ?_; simp only [List.getElem_toArray, List.getElem_cons_zero, List.getElem_cons_succ, Act.put, List.setIfInBounds_toArray, List.set_cons_zero, List.set_cons_succ]))
        refine pl_nil ?_
        go_wp2
        go_meet
        exact ⟨hS, hkp, bn, by rw [hY.out] at on; exact on⟩
    ·
      first
        | refine pl_do rfl rfl (fun K hK => ?_)
        | refine op_do rfl rfl (fun K hK => ?_)
      try simp only [List.getElem_toArray, List.getElem_cons_zero, List.getElem_cons_succ]
      go_simp
      refine byte_alloc _ U1 (fun W => K _ W) (fun wn cD zn bn => ?_)
      refine hK.out _ _ (hS.kept bn) (fun hS => ?_)
      clear hK K
      try simp only [List.getElem_toArray, List.getElem_cons_zero, List.getElem_cons_succ, Act.put, List.setIfInBounds_toArray, List.set_cons_zero, List.set_cons_succ]
      have hneD := ne_new ho
      have ho := ho.kept bn
      have hkp := hkp.trans (keeps_below bn)
      have hbl := hbl.trans (bn.mono hz)
      have hz := hbl.size
      have hgt := Nat.lt_of_succ_le (Nat.le_of_eq zn.symm)
      clear bn zn
      first
        | refine pl_do rfl rfl (fun K hK => ?_)
        | refine op_do rfl rfl (fun K hK => ?_)
      try simp only [List.getElem_toArray, List.getElem_cons_zero, List.getElem_cons_succ]
      go_simp
      refine byte_alloc _ U0 (fun W => K _ W) (fun wn cA zn bn => ?_)
      refine hK.out _ _ (hS.kept bn) (fun hS => ?_)
      clear hK K
      try simp only [List.getElem_toArray, List.getElem_cons_zero, List.getElem_cons_succ, Act.put, List.setIfInBounds_toArray, List.set_cons_zero, List.set_cons_succ]
      have cD := vle_below bn _ _ cD
      have ho := ho.kept bn
      have hkp := hkp.trans (keeps_below bn)
      have hbl := hbl.trans (bn.mono hz)
      have hz := hbl.size
      have hgt := Nat.lt_of_succ_le (Nat.le_of_eq zn.symm)
      clear bn zn
      first
        | refine pl_do rfl rfl (fun K hK => ?_)
        | refine op_do rfl rfl (fun K hK => ?_)
      try simp only [List.getElem_toArray, List.getElem_cons_zero, List.getElem_cons_succ]
      refine wp_append_b1 (n := 140737488355328) (W := w0) (xs := xs) U0 elemByte _ _ rfl rfl ho hbl hz rfl cA (by decide) (by omega) (fun v1 wn on bn gn ln => ?_)
      refine hK.out _ _ (keeps_grown ho gn _ _ _ (by decide) hS) (fun hS => ?_)
      clear hK K
      try simp only [List.getElem_toArray, List.getElem_cons_zero, List.getElem_cons_succ, Act.put, List.setIfInBounds_toArray, List.set_cons_zero, List.set_cons_succ]
      have hkp := hkp.trans (keeps_grown ho gn)
      have cD := gn.cell cD hneD
      have hneD := ne_loc hneD ln (by omega)
      have ho := on
      have hbl := bn
      have hz := hbl.size
      clear gn on bn ln cA
      first
        | refine pl_do rfl rfl (fun K hK => ?_)
        | refine op_do rfl rfl (fun K hK => ?_)
      try simp only [List.getElem_toArray, List.getElem_cons_zero, List.getElem_cons_succ]
      go_simp
      refine (wide_any v1 n (xs ++ [U0]) _ _ ho hz hr0 hr1 (by simp; omega)).mono ?_
      rintro e wn ⟨v2, rfl, bn, kn, on, gn⟩
      rw [hWr] at on
      refine hK.out _ _ (kn _ _ _ (by decide) hS) (fun hS => ?_)
      clear hK K
      try simp only [List.getElem_toArray, List.getElem_cons_zero, List.getElem_cons_succ, Act.put, List.setIfInBounds_toArray, List.set_cons_zero, List.set_cons_succ]
      have hkp := hkp.trans kn
      have hbl := hbl.trans bn
      have hz := hbl.size
      have cD := gn.cell cD hneD
      have ho := on
      clear gn on bn kn
      first
        | refine pl_do rfl rfl (fun K hK => ?_)
        | refine op_do rfl rfl (fun K hK => ?_)
      try simp only [List.getElem_toArray, List.getElem_cons_zero, List.getElem_cons_succ]
      refine wp_append_b1 (n := 140737488355328) (W := w0) (xs := xs ++ [U0] ++ Wr) U1 elemByte _ _ rfl rfl ho hbl hz rfl cD (by decide) (by simp only [List.length_append, List.length_cons, List.length_nil]; omega) (fun v3 wn on bn gn ln => ?_)
      refine hK.out _ _ (keeps_grown ho gn _ _ _ (by decide) hS) (fun hS => ?_)
      clear hK K
      try simp only [List.getElem_toArray, List.getElem_cons_zero, List.getElem_cons_succ, Act.put, List.setIfInBounds_toArray, List.set_cons_zero, List.set_cons_succ]
      have hkp := hkp.trans (keeps_grown ho gn)
      repeat (first
        | (refine pl_q (by assumption) rfl rfl ?_; apply Exists.intro; refine ⟨fun w' hS => ?_, ?_⟩; (· (have h0 := hS.cell 0; have h1 := hS.cell 1; have h2 := hS.cell 2; simp at h0 h1 h2; go_simp; exact rfl)); simp only [List.getElem_toArray, List.getElem_cons_zero, List.getElem_cons_succ, Act.put, List.setIfInBounds_toArray, List.set_cons_zero, List.set_cons_succ])
        | (refine pl_qc rfl rfl ?_; apply Exists.intro; refine ⟨fun w' _ => ?_, ?_⟩; (· (go_simp; exact rfl)); simp only [List.getElem_toArray, List.getElem_cons_zero, List.getElem_cons_succ, Act.put, List.setIfInBounds_toArray, List.set_cons_zero, List.set_cons_succ])
        | (refine pl_skip (by assumption) rfl rfl ?_; simp only [List.getElem_toArray, List.getElem_cons_zero, List.getElem_cons_succ, Act.put, List.setIfInBounds_toArray, List.set_cons_zero, List.set_cons_succ])
        | (refine pl_skipl (by assumption) rfl rfl ?_; simp only [List.getElem_toArray, List.getElem_cons_zero, List.getElem_cons_succ, Act.put, List.setIfInBounds_toArray, List.set_cons_zero, List.set_cons_succ]))
      refine pl_nil ?_
      go_wp2
      go_meet
      exact ⟨hS, hkp, bn, by rw [hY.out] at on; exact on⟩
    -- END ORDERS
  case rest =>
    clear ho hbl hz hkp
    obtain ⟨hk2, hkp, hbl, ho⟩ := hcut
    obtain ⟨yA, yc, rfl⟩ := ho.form
    have c2 := hk2.cell 2
    simp at c2
    have c2 : wc.cell? ⟨w.heap.size, 2, none⟩ = some (.slice A l.length c) := c2
    clear hk2 hk hblW
    go_wp2
    go_loopw [0, 25] (fun v i wr => ∃ k : Nat, k ≤ l.length ∧ i = .int .i64 k ∧ OwnB wr w0.heap.size v (Y ++ textsB (l.take k)) ∧ Below w0.heap.size w0 wr ∧ Keeps w wr) (fun _ i _ => l.length - (intOf i).toNat)
    case atStart => exact ⟨0, Nat.zero_le _, rfl, by simpa [textsB] using ho, hbl, hkp⟩
    case round =>
      clear ho hbl hkp c2
      obtain ⟨k, hk, rfl, hown, hbl, hkp⟩ := hrel
      have hz := hbl.size
      by_cases hlt : k < l.length
      · obtain ⟨b0, o0, rfl, q0⟩ := Hel.out k hlt
        have c0 := vle_below hbl _ _ q0
        have hnl := texts_len l hlt
        have Hn := Lib.hid (texts_take l hlt)
        have e2 := byteI_wrap l[k].size
        clear q0
        generalize byteI l[k].size = U2 at e2 Hn
        generalize textsB (l.take k) = Z at hown Hn hnl
        generalize l[k] = p at Hn hnl c0 e2
        go_wp2_with (at_builtin; first
          | (refine wpList_append_vec (n := 140737488355328) (W := w0) (ys := [U2]) elemByte encB_one _ _ rfl rfl rfl (hown.alloc _) (hbl.alloc hz _) (le_alloc _ hz) rfl (byBlk (xs := [U2]) (Blk.new _ _ _) (by simp) (by simp)) (by decide) (by simp; omega) (by simp; omega) ?_))
        intro v1 w1 o1 b1 g1
        have k1 := (keeps_alloc wr (.cells #[encB U2] 5)).trans (keeps_grown (hown.alloc _) g1)
        have z1 := b1.size
        clear g1 hown
        go_wp2_with (at_builtin; go_loud (refine wpList_append_str (n := 140737488355328) (W := w0) p elemByte Try.underlying9 _ _ rfl rfl rfl rfl o1 b1 z1 (by decide) (by simp only [List.length_append, List.length_cons, List.length_nil]; omega) ?_))
        intro v2 w2 o2 b2 g2
        have k2 := (hkp.trans k1).trans (keeps_grown o1 g2)
        clear g2 o1
        go_wp2
        go_roundw
        case rel => exact ⟨k + 1, by omega, by go_num, by rw [Hn.out]; simpa using o2, b2, k2⟩
        case measure => simp [intOf]; omega
      · have hkl : k = l.length := by omega
        subst hkl
        rw [List.take_length] at hown
        have hfin : OwnB wr w0.heap.size u0 (xs ++ Db) := by rw [hD.out]; rw [← hY.out] at hown; simpa using hown
        go_wp2
        go_ret
        exact ⟨_, rfl, hbl, hkp, hfin⟩
end Go.Proofs.Ytedealljhmokoaa

namespace Go.Proofs.Ytedealljhmokoaa
open Go.ChangeShapes Go.WideShapes Go.ChangeAt Go.RowKit
set_option linter.unusedVariables false
set_option linter.unusedSimpArgs false
theorem one_cell {h : View} {g : Nat} {u : UInt8} (hc : h ⟨g, 0, none⟩ = some (encB u)) : RBytes h (.slice (some ⟨g, 0, none⟩) 1 1) [u] :=
  ⟨_, _, rfl, by simp, by decide, by simp, (fun h => by cases h), fun _ => ⟨g, 0, rfl, fun i hi => by
    have : i = 0 := by simp at hi; exact hi
    subst this; simpa using hc⟩⟩
set_option maxHeartbeats 1000000 in
set_option maxRecDepth 100000 in
theorem three_any (n : Int) (w : World) (h0 : 0 ≤ n) (hn : n ≤ 140737488355328) :
    Calls Try.prog 35 #[.int .i64 n] w fun e w' => ∃ v', e = .returned v' ∧ Below w.heap.size w w' ∧ OwnB w' w.heap.size v' (wideB n) := by
  have d0 : Int.tdiv n 65536 = n / 65536 := Int.tdiv_eq_ediv_of_nonneg h0
  have d1 : Int.tdiv n 256 = n / 256 := Int.tdiv_eq_ediv_of_nonneg h0
  have d2 : Int.tmod (n / 256) 256 = (n / 256) % 256 := Int.tmod_eq_emod_of_nonneg (by omega)
  have d3 : Int.tmod n 256 = n % 256 := Int.tmod_eq_emod_of_nonneg h0
  have u0 := byteI_wrap (n / 65536)
  have u1 := byteI_wrap (n / 256 % 256)
  have u2 := byteI_wrap (n % 256)
  rw [byteI_mod] at u1 u2
  have hW : Hid (wideB n = [byteI (n / 65536), byteI (n / 256), byteI n]) := rfl
  generalize byteI (n / 65536) = U0 at u0 hW
  generalize byteI (n / 256) = U1 at u1 hW
  generalize byteI n = U2 at u2 hW
  generalize wideB n = Wb at hW ⊢
  go_enter Try.func35, Try.ntmps35
  go_wp2
  go_ret
  refine ⟨_, rfl, below_one _ _, ?_⟩
  rw [hW.out]
  exact OwnVec.lit (xs := [U0, U1, U2]) (Blk.new _ _ _) (Nat.le_refl _) rfl (by decide)
set_option maxHeartbeats 4000000 in
set_option maxRecDepth 100000 in
theorem batchBytes_any (a n : Int) (vl : Value) (l : List ByteArray) (w : World) (hr0 : 0 ≤ n) (hr1 : n ≤ 140737488355328) (hl : RTexts w.cell? vl l) (hsz : 5 + (textsB l).length ≤ 140737488355328) :
    Calls Try.prog 33 #[.agg #[.int .i64 a, .int .i64 n, vl]] w fun e w' => ∃ v', e = .returned v' ∧ Below w.heap.size w w' ∧ OwnB w' w.heap.size v' (batchB a n l) := by
  obtain ⟨A, c, rfl, hlen, hel⟩ := hl.form
  have Hel := Lib.hid hel
  clear hel hl
  have e0 := byteI_wrap a
  have e1 := byteI_wrap l.length
  have hD : Hid (batchB a n l = ((byteI a :: wideB n) ++ [byteI l.length]) ++ textsB l) := rfl
  generalize byteI a = U0 at e0 hD
  generalize byteI l.length = U1 at e1 hD
  generalize batchB a n l = Db at hD ⊢
  have hwl : (wideB n).length = 3 := rfl
  generalize hWr : wideB n = Wr at hwl hD
  obtain ⟨Y, hY⟩ : ∃ Y, Hid ([U0] ++ Wr ++ [U1] = Y) := ⟨_, rfl⟩
  have hYl : Y.length = 5 := by rw [← hY.out]; simp only [List.length_append, List.length_cons, List.length_nil]; omega
  go_enter Try.func33, Try.ntmps33
  go_upto_region 1 with fail
  refine one_block _ _ _ (fun W => Code.wp _ _ _ _ W) (fun W hk hszW hblW0 => ?_)
  clear hszW
  go_cut [3] (fun v w' => OwnB w' W.heap.size v ([U0] ++ Wr) ∧ Below W.heap.size W w')
  case first =>
    refine wp_region_pl (fun w' => Below W.heap.size W w') [8] (.q 0 (.q 1 (.q 2 (.q 4 (.q 5 (.alt 3 (.l 6 (.l 7 (.qc 8 .nil))) 6 (.l 3 (.l 7 (.qc 8 .nil))))))))) (by kernel_rfl) (by kernel_rfl) (fun _ _ d _ _ h => by cases d <;> exact h) rfl (by kernel_rfl) ?_ ?_
    · exact below_drew _
    intro W1 hS
    repeat (first
      | (refine pl_q (by assumption) rfl rfl ?_; apply Exists.intro; refine ⟨fun w' hS => ?_, ?_⟩; (· (have hq := hk.kept hS; have h0 := hq.cell 0; have h1 := hq.cell 1; have h2 := hq.cell 2; simp at h0 h1 h2; go_simp; exact rfl)); simp only [List.getElem_toArray, List.getElem_cons_zero, List.getElem_cons_succ, Act.put, List.setIfInBounds_toArray, List.set_cons_zero, List.set_cons_succ])
      | (refine pl_qc rfl rfl ?_; apply Exists.intro; refine ⟨fun w' _ => ?_, ?_⟩; (· (go_simp; exact rfl)); simp only [List.getElem_toArray, List.getElem_cons_zero, List.getElem_cons_succ, Act.put, List.setIfInBounds_toArray, List.set_cons_zero, List.set_cons_succ])
      | (refine pl_skip (by assumption) rfl rfl ?_; simp only [List.getElem_toArray, List.getElem_cons_zero, List.getElem_cons_succ, Act.put, List.setIfInBounds_toArray, List.set_cons_zero, List.set_cons_succ])
      | (refine pl_skipl (by assumption) rfl rfl ?_; simp only [List.getElem_toArray, List.getElem_cons_zero, List.getElem_cons_succ, Act.put, List.setIfInBounds_toArray, List.set_cons_zero, List.set_cons_succ]))
    refine pl_alt ?_ ?_
    · first
        | refine pl_do rfl rfl (fun K hK => ?_)
        | refine op_do rfl rfl (fun K hK => ?_)
      try simp only [List.getElem_toArray, List.getElem_cons_zero, List.getElem_cons_succ]
      go_simp
      refine byte_alloc _ U0 (fun W => K _ W) (fun w2 cA _ b2 => ?_)
      have b2 := hS.trans (b2.mono hS.size)
      refine hK.out _ _ (b2) (fun hS => ?_)
      clear hK K
      try simp only [List.getElem_toArray, List.getElem_cons_zero, List.getElem_cons_succ, Act.put, List.setIfInBounds_toArray, List.set_cons_zero, List.set_cons_succ]
      repeat (first
        | (refine pl_q (by assumption) rfl rfl ?_; apply Exists.intro; refine ⟨fun w' hS => ?_, ?_⟩; (· (have hq := hk.kept hS; have h0 := hq.cell 0; have h1 := hq.cell 1; have h2 := hq.cell 2; simp at h0 h1 h2; go_simp; exact rfl)); simp only [List.getElem_toArray, List.getElem_cons_zero, List.getElem_cons_succ, Act.put, List.setIfInBounds_toArray, List.set_cons_zero, List.set_cons_succ])
        | (refine pl_qc rfl rfl ?_; apply Exists.intro; refine ⟨fun w' _ => ?_, ?_⟩; (· (go_simp; exact rfl)); simp only [List.getElem_toArray, List.getElem_cons_zero, List.getElem_cons_succ, Act.put, List.setIfInBounds_toArray, List.set_cons_zero, List.set_cons_succ])
        | (refine pl_skip (by assumption) rfl rfl ?_; simp only [List.getElem_toArray, List.getElem_cons_zero, List.getElem_cons_succ, Act.put, List.setIfInBounds_toArray, List.set_cons_zero, List.set_cons_succ])
        | (refine pl_skipl (by assumption) rfl rfl ?_; simp only [List.getElem_toArray, List.getElem_cons_zero, List.getElem_cons_succ, Act.put, List.setIfInBounds_toArray, List.set_cons_zero, List.set_cons_succ]))
      first
        | refine pl_do rfl rfl (fun K hK => ?_)
        | refine op_do rfl rfl (fun K hK => ?_)
      try simp only [List.getElem_toArray, List.getElem_cons_zero, List.getElem_cons_succ]
      go_simp
      refine (three_any n _ hr0 hr1).mono ?_
      rintro e w3 ⟨v3, rfl, b3, o3⟩
      rw [hWr] at o3
      have cA := vle_below b3 _ _ cA
      have b3 := b2.trans (b3.mono b2.size)
      refine hK.out _ _ (b3) (fun hS => ?_)
      clear hK K
      try simp only [List.getElem_toArray, List.getElem_cons_zero, List.getElem_cons_succ, Act.put, List.setIfInBounds_toArray, List.set_cons_zero, List.set_cons_succ]
      repeat (first
        | (refine pl_q (by assumption) rfl rfl ?_; apply Exists.intro; refine ⟨fun w' hS => ?_, ?_⟩; (· (have hq := hk.kept hS; have h0 := hq.cell 0; have h1 := hq.cell 1; have h2 := hq.cell 2; simp at h0 h1 h2; go_simp; exact rfl)); simp only [List.getElem_toArray, List.getElem_cons_zero, List.getElem_cons_succ, Act.put, List.setIfInBounds_toArray, List.set_cons_zero, List.set_cons_succ])
        | (refine pl_qc rfl rfl ?_; apply Exists.intro; refine ⟨fun w' _ => ?_, ?_⟩; (· (go_simp; exact rfl)); simp only [List.getElem_toArray, List.getElem_cons_zero, List.getElem_cons_succ, Act.put, List.setIfInBounds_toArray, List.set_cons_zero, List.set_cons_succ])
        | (refine pl_skip (by assumption) rfl rfl ?_; simp only [List.getElem_toArray, List.getElem_cons_zero, List.getElem_cons_succ, Act.put, List.setIfInBounds_toArray, List.set_cons_zero, List.set_cons_succ])
        | (refine pl_skipl (by assumption) rfl rfl ?_; simp only [List.getElem_toArray, List.getElem_cons_zero, List.getElem_cons_succ, Act.put, List.setIfInBounds_toArray, List.set_cons_zero, List.set_cons_succ]))
      first
        | refine pl_do rfl rfl (fun K hK => ?_)
        | refine op_do rfl rfl (fun K hK => ?_)
      try simp only [List.getElem_toArray, List.getElem_cons_zero, List.getElem_cons_succ]
      go_simp
      refine (joined_any _ _ [U0] Wr _ (one_cell cA) (o3.reads (by rw [hwl]; decide)) 140737488355328 (Nat.le_refl _) (by rw [hwl]; simp)).mono ?_
      rintro e w4 ⟨v4, rfl, b4, o4⟩
      have b5 := b3.trans (b4.mono b3.size)
      refine hK.out _ _ (b5) (fun hS => ?_)
      clear hK K
      try simp only [List.getElem_toArray, List.getElem_cons_zero, List.getElem_cons_succ, Act.put, List.setIfInBounds_toArray, List.set_cons_zero, List.set_cons_succ]
      repeat (first
        | (refine pl_q (by assumption) rfl rfl ?_; apply Exists.intro; refine ⟨fun w' hS => ?_, ?_⟩; (· (skip; go_simp; exact rfl)); simp only [List.getElem_toArray, List.getElem_cons_zero, List.getElem_cons_succ, Act.put, List.setIfInBounds_toArray, List.set_cons_zero, List.set_cons_succ])
        | (refine pl_qc rfl rfl ?_; apply Exists.intro; refine ⟨fun w' _ => ?_, ?_⟩; (· (go_simp; exact rfl)); simp only [List.getElem_toArray, List.getElem_cons_zero, List.getElem_cons_succ, Act.put, List.setIfInBounds_toArray, List.set_cons_zero, List.set_cons_succ])
        | (refine pl_skip (by assumption) rfl rfl ?_; simp only [List.getElem_toArray, List.getElem_cons_zero, List.getElem_cons_succ, Act.put, List.setIfInBounds_toArray, List.set_cons_zero, List.set_cons_succ])
        | (refine pl_skipl (by assumption) rfl rfl ?_; simp only [List.getElem_toArray, List.getElem_cons_zero, List.getElem_cons_succ, Act.put, List.setIfInBounds_toArray, List.set_cons_zero, List.set_cons_succ]))
      refine pl_nil ?_
      go_wp2
      go_meet
      exact ⟨o4.base b3.size, b5⟩
    · first
        | refine pl_do rfl rfl (fun K hK => ?_)
        | refine op_do rfl rfl (fun K hK => ?_)
      try simp only [List.getElem_toArray, List.getElem_cons_zero, List.getElem_cons_succ]
      go_simp
      refine (three_any n _ hr0 hr1).mono ?_
      rintro e w2 ⟨v3, rfl, b2, o3⟩
      rw [hWr] at o3
      have b2 := hS.trans (b2.mono hS.size)
      refine hK.out _ _ (b2) (fun hS => ?_)
      clear hK K
      try simp only [List.getElem_toArray, List.getElem_cons_zero, List.getElem_cons_succ, Act.put, List.setIfInBounds_toArray, List.set_cons_zero, List.set_cons_succ]
      repeat (first
        | (refine pl_q (by assumption) rfl rfl ?_; apply Exists.intro; refine ⟨fun w' hS => ?_, ?_⟩; (· (have hq := hk.kept hS; have h0 := hq.cell 0; have h1 := hq.cell 1; have h2 := hq.cell 2; simp at h0 h1 h2; go_simp; exact rfl)); simp only [List.getElem_toArray, List.getElem_cons_zero, List.getElem_cons_succ, Act.put, List.setIfInBounds_toArray, List.set_cons_zero, List.set_cons_succ])
        | (refine pl_qc rfl rfl ?_; apply Exists.intro; refine ⟨fun w' _ => ?_, ?_⟩; (· (go_simp; exact rfl)); simp only [List.getElem_toArray, List.getElem_cons_zero, List.getElem_cons_succ, Act.put, List.setIfInBounds_toArray, List.set_cons_zero, List.set_cons_succ])
        | (refine pl_skip (by assumption) rfl rfl ?_; simp only [List.getElem_toArray, List.getElem_cons_zero, List.getElem_cons_succ, Act.put, List.setIfInBounds_toArray, List.set_cons_zero, List.set_cons_succ])
        | (refine pl_skipl (by assumption) rfl rfl ?_; simp only [List.getElem_toArray, List.getElem_cons_zero, List.getElem_cons_succ, Act.put, List.setIfInBounds_toArray, List.set_cons_zero, List.set_cons_succ]))
      first
        | refine pl_do rfl rfl (fun K hK => ?_)
        | refine op_do rfl rfl (fun K hK => ?_)
      try simp only [List.getElem_toArray, List.getElem_cons_zero, List.getElem_cons_succ]
      go_simp
      refine byte_alloc _ U0 (fun W => K _ W) (fun w3 cA _ b3 => ?_)
      have o3 := o3.kept b3
      have b3 := b2.trans (b3.mono b2.size)
      refine hK.out _ _ (b3) (fun hS => ?_)
      clear hK K
      try simp only [List.getElem_toArray, List.getElem_cons_zero, List.getElem_cons_succ, Act.put, List.setIfInBounds_toArray, List.set_cons_zero, List.set_cons_succ]
      repeat (first
        | (refine pl_q (by assumption) rfl rfl ?_; apply Exists.intro; refine ⟨fun w' hS => ?_, ?_⟩; (· (have hq := hk.kept hS; have h0 := hq.cell 0; have h1 := hq.cell 1; have h2 := hq.cell 2; simp at h0 h1 h2; go_simp; exact rfl)); simp only [List.getElem_toArray, List.getElem_cons_zero, List.getElem_cons_succ, Act.put, List.setIfInBounds_toArray, List.set_cons_zero, List.set_cons_succ])
        | (refine pl_qc rfl rfl ?_; apply Exists.intro; refine ⟨fun w' _ => ?_, ?_⟩; (· (go_simp; exact rfl)); simp only [List.getElem_toArray, List.getElem_cons_zero, List.getElem_cons_succ, Act.put, List.setIfInBounds_toArray, List.set_cons_zero, List.set_cons_succ])
        | (refine pl_skip (by assumption) rfl rfl ?_; simp only [List.getElem_toArray, List.getElem_cons_zero, List.getElem_cons_succ, Act.put, List.setIfInBounds_toArray, List.set_cons_zero, List.set_cons_succ])
        | (refine pl_skipl (by assumption) rfl rfl ?_; simp only [List.getElem_toArray, List.getElem_cons_zero, List.getElem_cons_succ, Act.put, List.setIfInBounds_toArray, List.set_cons_zero, List.set_cons_succ]))
      first
        | refine pl_do rfl rfl (fun K hK => ?_)
        | refine op_do rfl rfl (fun K hK => ?_)
      try simp only [List.getElem_toArray, List.getElem_cons_zero, List.getElem_cons_succ]
      go_simp
      refine (joined_any _ _ [U0] Wr _ (one_cell cA) (o3.reads (by rw [hwl]; decide)) 140737488355328 (Nat.le_refl _) (by rw [hwl]; simp)).mono ?_
      rintro e w4 ⟨v4, rfl, b4, o4⟩
      have b5 := b3.trans (b4.mono b3.size)
      refine hK.out _ _ (b5) (fun hS => ?_)
      clear hK K
      try simp only [List.getElem_toArray, List.getElem_cons_zero, List.getElem_cons_succ, Act.put, List.setIfInBounds_toArray, List.set_cons_zero, List.set_cons_succ]
      repeat (first
        | (refine pl_q (by assumption) rfl rfl ?_; apply Exists.intro; refine ⟨fun w' hS => ?_, ?_⟩; (· (skip; go_simp; exact rfl)); simp only [List.getElem_toArray, List.getElem_cons_zero, List.getElem_cons_succ, Act.put, List.setIfInBounds_toArray, List.set_cons_zero, List.set_cons_succ])
        | (refine pl_qc rfl rfl ?_; apply Exists.intro; refine ⟨fun w' _ => ?_, ?_⟩; (· (go_simp; exact rfl)); simp only [List.getElem_toArray, List.getElem_cons_zero, List.getElem_cons_succ, Act.put, List.setIfInBounds_toArray, List.set_cons_zero, List.set_cons_succ])
        | (refine pl_skip (by assumption) rfl rfl ?_; simp only [List.getElem_toArray, List.getElem_cons_zero, List.getElem_cons_succ, Act.put, List.setIfInBounds_toArray, List.set_cons_zero, List.set_cons_succ])
        | (refine pl_skipl (by assumption) rfl rfl ?_; simp only [List.getElem_toArray, List.getElem_cons_zero, List.getElem_cons_succ, Act.put, List.setIfInBounds_toArray, List.set_cons_zero, List.set_cons_succ]))
      refine pl_nil ?_
      go_wp2
      go_meet
      exact ⟨o4.base b3.size, b5⟩
  case rest =>
    obtain ⟨ho, hbl⟩ := hcut
    obtain ⟨yA, yc, rfl⟩ := ho.form
    have hz := hbl.size
    have c2 := (hk.kept hbl).cell 2
    simp at c2
    go_wp2_with (at_builtin; first
      | (refine wpList_append_vec (n := 140737488355328) (W := W) (ys := [U1]) elemByte encB_one _ _ rfl rfl rfl (ho.alloc _) (hbl.alloc hz _) (le_alloc _ hz) rfl (byBlk (xs := [U1]) (Blk.new _ _ _) (by simp) (by simp)) (by decide) (by simp [hwl]) (by simp [hwl]) ?_))
    intro v1 w1 o1 b1 g1
    clear g1 ho hbl hz c2
    have o1 : OwnB w1 W.heap.size v1 Y := by rw [← hY.out]; simpa using o1
    go_wp2
    go_loopw [3, 4] (fun v i wr => ∃ k : Nat, k ≤ l.length ∧ i = .int .i64 k ∧ OwnB wr W.heap.size v (Y ++ textsB (l.take k)) ∧ Below W.heap.size W wr) (fun _ i _ => l.length - (intOf i).toNat)
    case atStart => exact ⟨0, Nat.zero_le _, rfl, by simpa [textsB] using o1, b1⟩
    case round =>
      clear o1 b1
      obtain ⟨k, hk', rfl, hown, hbl⟩ := hrel
      have hz := hbl.size
      have c2 := (hk.kept hbl).cell 2
      simp at c2
      by_cases hlt : k < l.length
      · obtain ⟨b0, o0, rfl, q0⟩ := Hel.out k hlt
        have q0 : W.cell? ⟨b0, o0 + k, none⟩ = some (.string l[k]) := vle_below hblW0 _ _ q0
        have c0 := vle_below hbl _ _ q0
        have hnl := texts_len l hlt
        have Hn := Lib.hid (texts_take l hlt)
        have e2 := byteI_wrap l[k].size
        generalize byteI l[k].size = U2 at e2 Hn
        generalize textsB (l.take k) = Z at hown Hn hnl
        generalize l[k] = p at Hn hnl c0 e2 q0
        go_wp2_with (at_builtin; first
          | (refine wpList_append_vec (n := 140737488355328) (W := W) (ys := [U2]) elemByte encB_one _ _ rfl rfl rfl (hown.alloc _) (hbl.alloc hz _) (le_alloc _ hz) rfl (byBlk (xs := [U2]) (Blk.new _ _ _) (by simp) (by simp)) (by decide) (by simp; omega) (by simp; omega) ?_))
        intro v1 w1 o1 b1 g1
        have z1 := b1.size
        have d2 := (hk.kept b1).cell 2
        simp at d2
        have d0 := vle_below b1 _ _ q0
        obtain ⟨xA, xc, rfl⟩ := o1.form
        clear g1 hown c2 c0
        have hpn : p.size ≤ 140737488355328 := by omega
        go_wp2_with (refine wpList_convert_bytes p Try.underlying9 Try.underlying28 Try.underlying5 rfl _ rfl rfl hpn ?_)
        intro v2 w2 r2 b2
        have hxl : (Z ++ [U2]).length ≤ (textsB l).length := by simp only [List.length_append, List.length_cons, List.length_nil]; omega
        obtain ⟨F, hF⟩ : ∃ F, Hid (Y ++ (Z ++ [U2]) = F) := ⟨_, rfl⟩
        have hFl : F.length = 5 + (Z.length + 1) := by rw [← hF.out]; simp only [List.length_append, List.length_cons, List.length_nil]; omega
        have hsl := sbytes_len p
        have hr1 := (o1.kept b2)
        rw [hF.out] at hr1
        have hr2 := hr1.reads (bs := 1) (by omega)
        have hjl : F.length + (sbytes p).length ≤ 140737488355328 := by omega
        clear d0 d2 q0 hr1
        rw [hFl] at hr2
        go_wp2_with fail
        refine (joined_any _ _ F (sbytes p) _ hr2 r2 140737488355328 (Nat.le_refl _) hjl).mono ?_
        rintro e w3 ⟨v3, rfl, b3, o3⟩
        have b2 := b1.trans (b2.mono z1)
        have o3 := o3.base b2.size
        have b3 := b2.trans (b3.mono b2.size)
        go_wp2_with fail
        go_roundw
        case rel => exact ⟨k + 1, by omega, by go_num, by rw [Hn.out]; rw [← hF.out] at o3; simpa using o3, b3⟩
        case measure => simp [intOf]; omega
      · have hkl : k = l.length := by omega
        subst hkl
        rw [List.take_length] at hown
        have hfin : OwnB wr W.heap.size u3 Db := by rw [hD.out]; rw [← hY.out] at hown; simpa using hown
        go_wp2
        go_ret
        exact ⟨_, rfl, hblW0.trans (hbl.mono hblW0.size), hfin.base hblW0.size⟩
end Go.Proofs.Ytedealljhmokoaa

namespace Go.Proofs.Ytedealljhmokoaa
open Go.ChangeShapes Go.WideShapes Go.ChangeAt Go.RowKit
set_option linter.unusedVariables false
set_option linter.unusedSimpArgs false
set_option maxHeartbeats 4000000 in
set_option maxRecDepth 100000 in
theorem headerBytes_any (a n : Int) (vb vp : Value) (b p : List (List UInt8)) (w : World) (hr0 : 0 ≤ n) (hr1 : n ≤ 140737488355328) (hb : RDigs w.cell? vb b) (hp : RDigs w.cell? vp p) (hsz : 6 + b.flatten.length + p.flatten.length ≤ 140737488355328) :
    Calls Try.prog 34 #[.agg #[.int .i64 a, .int .i64 n, vb, vp]] w fun e w' => ∃ v', e = .returned v' ∧ Below w.heap.size w w' ∧ OwnB w' w.heap.size v' (headerB a n b p) := by
  obtain ⟨bA, bc, rfl, _⟩ := id hb
  obtain ⟨pA, pc, rfl, _⟩ := id hp
  obtain ⟨_, hbcap, hblen, hbel⟩ := hb.at
  obtain ⟨_, hpcap, hplen, hpel⟩ := hp.at
  have Hbl := Lib.hid hbel
  have Hpl := Lib.hid hpel
  clear hbel hpel hb hp
  have e0 := byteI_wrap a
  have e1 := byteI_wrap b.length
  have e2 := byteI_wrap p.length
  have hD : Hid (headerB a n b p = ((byteI a :: wideB n) ++ (byteI b.length :: b.flatten)) ++ (byteI p.length :: p.flatten)) := rfl
  generalize byteI a = U0 at e0 hD
  generalize byteI b.length = U1 at e1 hD
  generalize byteI p.length = U2 at e2 hD
  generalize headerB a n b p = Db at hD ⊢
  have hwl : (wideB n).length = 3 := rfl
  generalize hWr : wideB n = Wr at hwl hD
  obtain ⟨Y, hY⟩ : ∃ Y, Hid ([U0] ++ Wr ++ [U1] = Y) := ⟨_, rfl⟩
  have hYl : Y.length = 5 := by rw [← hY.out]; simp only [List.length_append, List.length_cons, List.length_nil]; omega
  obtain ⟨nb, hnb⟩ : ∃ n, Hid (b.flatten.length = n) := ⟨_, rfl⟩
  obtain ⟨np, hnp⟩ : ∃ n, Hid (p.flatten.length = n) := ⟨_, rfl⟩
  have hsz : 6 + nb + np ≤ 140737488355328 := by rw [← hnb.out, ← hnp.out]; exact hsz
  go_enter Try.func34, Try.ntmps34
  go_upto_region 1 with fail
  refine one_block _ _ _ (fun W => Code.wp _ _ _ _ W) (fun W hk hszW hblW0 => ?_)
  clear hszW
  go_cut [3] (fun v w' => OwnB w' W.heap.size v ([U0] ++ Wr) ∧ Below W.heap.size W w')
  case first =>
    refine wp_region_pl (fun w' => Below W.heap.size W w') [8] (.q 0 (.q 1 (.q 2 (.q 4 (.q 5 (.alt 3 (.l 6 (.l 7 (.qc 8 .nil))) 6 (.l 3 (.l 7 (.qc 8 .nil))))))))) (by kernel_rfl) (by kernel_rfl) (fun _ _ d _ _ h => by cases d <;> exact h) rfl (by kernel_rfl) ?_ ?_
    · exact below_drew _
    intro W1 hS
    repeat (first
      | (refine pl_q (by assumption) rfl rfl ?_; apply Exists.intro; refine ⟨fun w' hS => ?_, ?_⟩; (· (have hq := hk.kept hS; have h0 := hq.cell 0; have h1 := hq.cell 1; have h2 := hq.cell 2; have h3 := hq.cell 3; simp at h0 h1 h2 h3; go_simp; exact rfl)); simp only [List.getElem_toArray, List.getElem_cons_zero, List.getElem_cons_succ, Act.put, List.setIfInBounds_toArray, List.set_cons_zero, List.set_cons_succ])
      | (refine pl_qc rfl rfl ?_; apply Exists.intro; refine ⟨fun w' _ => ?_, ?_⟩; (· (go_simp; exact rfl)); simp only [List.getElem_toArray, List.getElem_cons_zero, List.getElem_cons_succ, Act.put, List.setIfInBounds_toArray, List.set_cons_zero, List.set_cons_succ])
      | (refine pl_skip (by assumption) rfl rfl ?_; simp only [List.getElem_toArray, List.getElem_cons_zero, List.getElem_cons_succ, Act.put, List.setIfInBounds_toArray, List.set_cons_zero, List.set_cons_succ])
      | (refine pl_skipl (by assumption) rfl rfl ?_; simp only [List.getElem_toArray, List.getElem_cons_zero, List.getElem_cons_succ, Act.put, List.setIfInBounds_toArray, List.set_cons_zero, List.set_cons_succ]))
    refine pl_alt ?_ ?_
    · first
        | refine pl_do rfl rfl (fun K hK => ?_)
        | refine op_do rfl rfl (fun K hK => ?_)
      try simp only [List.getElem_toArray, List.getElem_cons_zero, List.getElem_cons_succ]
      go_simp
      refine byte_alloc _ U0 (fun W => K _ W) (fun w2 cA _ b2 => ?_)
      have b2 := hS.trans (b2.mono hS.size)
      refine hK.out _ _ (b2) (fun hS => ?_)
      clear hK K
      try simp only [List.getElem_toArray, List.getElem_cons_zero, List.getElem_cons_succ, Act.put, List.setIfInBounds_toArray, List.set_cons_zero, List.set_cons_succ]
      repeat (first
        | (refine pl_q (by assumption) rfl rfl ?_; apply Exists.intro; refine ⟨fun w' hS => ?_, ?_⟩; (· (have hq := hk.kept hS; have h0 := hq.cell 0; have h1 := hq.cell 1; have h2 := hq.cell 2; have h3 := hq.cell 3; simp at h0 h1 h2 h3; go_simp; exact rfl)); simp only [List.getElem_toArray, List.getElem_cons_zero, List.getElem_cons_succ, Act.put, List.setIfInBounds_toArray, List.set_cons_zero, List.set_cons_succ])
        | (refine pl_qc rfl rfl ?_; apply Exists.intro; refine ⟨fun w' _ => ?_, ?_⟩; (· (go_simp; exact rfl)); simp only [List.getElem_toArray, List.getElem_cons_zero, List.getElem_cons_succ, Act.put, List.setIfInBounds_toArray, List.set_cons_zero, List.set_cons_succ])
        | (refine pl_skip (by assumption) rfl rfl ?_; simp only [List.getElem_toArray, List.getElem_cons_zero, List.getElem_cons_succ, Act.put, List.setIfInBounds_toArray, List.set_cons_zero, List.set_cons_succ])
        | (refine pl_skipl (by assumption) rfl rfl ?_; simp only [List.getElem_toArray, List.getElem_cons_zero, List.getElem_cons_succ, Act.put, List.setIfInBounds_toArray, List.set_cons_zero, List.set_cons_succ]))
      first
        | refine pl_do rfl rfl (fun K hK => ?_)
        | refine op_do rfl rfl (fun K hK => ?_)
      try simp only [List.getElem_toArray, List.getElem_cons_zero, List.getElem_cons_succ]
      go_simp
      refine (three_any n _ hr0 hr1).mono ?_
      rintro e w3 ⟨v3, rfl, b3, o3⟩
      rw [hWr] at o3
      have cA := vle_below b3 _ _ cA
      have b3 := b2.trans (b3.mono b2.size)
      refine hK.out _ _ (b3) (fun hS => ?_)
      clear hK K
      try simp only [List.getElem_toArray, List.getElem_cons_zero, List.getElem_cons_succ, Act.put, List.setIfInBounds_toArray, List.set_cons_zero, List.set_cons_succ]
      repeat (first
        | (refine pl_q (by assumption) rfl rfl ?_; apply Exists.intro; refine ⟨fun w' hS => ?_, ?_⟩; (· (have hq := hk.kept hS; have h0 := hq.cell 0; have h1 := hq.cell 1; have h2 := hq.cell 2; have h3 := hq.cell 3; simp at h0 h1 h2 h3; go_simp; exact rfl)); simp only [List.getElem_toArray, List.getElem_cons_zero, List.getElem_cons_succ, Act.put, List.setIfInBounds_toArray, List.set_cons_zero, List.set_cons_succ])
        | (refine pl_qc rfl rfl ?_; apply Exists.intro; refine ⟨fun w' _ => ?_, ?_⟩; (· (go_simp; exact rfl)); simp only [List.getElem_toArray, List.getElem_cons_zero, List.getElem_cons_succ, Act.put, List.setIfInBounds_toArray, List.set_cons_zero, List.set_cons_succ])
        | (refine pl_skip (by assumption) rfl rfl ?_; simp only [List.getElem_toArray, List.getElem_cons_zero, List.getElem_cons_succ, Act.put, List.setIfInBounds_toArray, List.set_cons_zero, List.set_cons_succ])
        | (refine pl_skipl (by assumption) rfl rfl ?_; simp only [List.getElem_toArray, List.getElem_cons_zero, List.getElem_cons_succ, Act.put, List.setIfInBounds_toArray, List.set_cons_zero, List.set_cons_succ]))
      first
        | refine pl_do rfl rfl (fun K hK => ?_)
        | refine op_do rfl rfl (fun K hK => ?_)
      try simp only [List.getElem_toArray, List.getElem_cons_zero, List.getElem_cons_succ]
      go_simp
      refine (joined_any _ _ [U0] Wr _ (one_cell cA) (o3.reads (by rw [hwl]; decide)) 140737488355328 (Nat.le_refl _) (by rw [hwl]; simp)).mono ?_
      rintro e w4 ⟨v4, rfl, b4, o4⟩
      have b5 := b3.trans (b4.mono b3.size)
      refine hK.out _ _ (b5) (fun hS => ?_)
      clear hK K
      try simp only [List.getElem_toArray, List.getElem_cons_zero, List.getElem_cons_succ, Act.put, List.setIfInBounds_toArray, List.set_cons_zero, List.set_cons_succ]
      repeat (first
        | (refine pl_q (by assumption) rfl rfl ?_; apply Exists.intro; refine ⟨fun w' hS => ?_, ?_⟩; (· (skip; go_simp; exact rfl)); simp only [List.getElem_toArray, List.getElem_cons_zero, List.getElem_cons_succ, Act.put, List.setIfInBounds_toArray, List.set_cons_zero, List.set_cons_succ])
        | (refine pl_qc rfl rfl ?_; apply Exists.intro; refine ⟨fun w' _ => ?_, ?_⟩; (· (go_simp; exact rfl)); simp only [List.getElem_toArray, List.getElem_cons_zero, List.getElem_cons_succ, Act.put, List.setIfInBounds_toArray, List.set_cons_zero, List.set_cons_succ])
        | (refine pl_skip (by assumption) rfl rfl ?_; simp only [List.getElem_toArray, List.getElem_cons_zero, List.getElem_cons_succ, Act.put, List.setIfInBounds_toArray, List.set_cons_zero, List.set_cons_succ])
        | (refine pl_skipl (by assumption) rfl rfl ?_; simp only [List.getElem_toArray, List.getElem_cons_zero, List.getElem_cons_succ, Act.put, List.setIfInBounds_toArray, List.set_cons_zero, List.set_cons_succ]))
      refine pl_nil ?_
      go_wp2
      go_meet
      exact ⟨o4.base b3.size, b5⟩
    · first
        | refine pl_do rfl rfl (fun K hK => ?_)
        | refine op_do rfl rfl (fun K hK => ?_)
      try simp only [List.getElem_toArray, List.getElem_cons_zero, List.getElem_cons_succ]
      go_simp
      refine (three_any n _ hr0 hr1).mono ?_
      rintro e w2 ⟨v3, rfl, b2, o3⟩
      rw [hWr] at o3
      have b2 := hS.trans (b2.mono hS.size)
      refine hK.out _ _ (b2) (fun hS => ?_)
      clear hK K
      try simp only [List.getElem_toArray, List.getElem_cons_zero, List.getElem_cons_succ, Act.put, List.setIfInBounds_toArray, List.set_cons_zero, List.set_cons_succ]
      repeat (first
        | (refine pl_q (by assumption) rfl rfl ?_; apply Exists.intro; refine ⟨fun w' hS => ?_, ?_⟩; (· (have hq := hk.kept hS; have h0 := hq.cell 0; have h1 := hq.cell 1; have h2 := hq.cell 2; have h3 := hq.cell 3; simp at h0 h1 h2 h3; go_simp; exact rfl)); simp only [List.getElem_toArray, List.getElem_cons_zero, List.getElem_cons_succ, Act.put, List.setIfInBounds_toArray, List.set_cons_zero, List.set_cons_succ])
        | (refine pl_qc rfl rfl ?_; apply Exists.intro; refine ⟨fun w' _ => ?_, ?_⟩; (· (go_simp; exact rfl)); simp only [List.getElem_toArray, List.getElem_cons_zero, List.getElem_cons_succ, Act.put, List.setIfInBounds_toArray, List.set_cons_zero, List.set_cons_succ])
        | (refine pl_skip (by assumption) rfl rfl ?_; simp only [List.getElem_toArray, List.getElem_cons_zero, List.getElem_cons_succ, Act.put, List.setIfInBounds_toArray, List.set_cons_zero, List.set_cons_succ])
        | (refine pl_skipl (by assumption) rfl rfl ?_; simp only [List.getElem_toArray, List.getElem_cons_zero, List.getElem_cons_succ, Act.put, List.setIfInBounds_toArray, List.set_cons_zero, List.set_cons_succ]))
      first
        | refine pl_do rfl rfl (fun K hK => ?_)
        | refine op_do rfl rfl (fun K hK => ?_)
      try simp only [List.getElem_toArray, List.getElem_cons_zero, List.getElem_cons_succ]
      go_simp
      refine byte_alloc _ U0 (fun W => K _ W) (fun w3 cA _ b3 => ?_)
      have o3 := o3.kept b3
      have b3 := b2.trans (b3.mono b2.size)
      refine hK.out _ _ (b3) (fun hS => ?_)
      clear hK K
      try simp only [List.getElem_toArray, List.getElem_cons_zero, List.getElem_cons_succ, Act.put, List.setIfInBounds_toArray, List.set_cons_zero, List.set_cons_succ]
      repeat (first
        | (refine pl_q (by assumption) rfl rfl ?_; apply Exists.intro; refine ⟨fun w' hS => ?_, ?_⟩; (· (have hq := hk.kept hS; have h0 := hq.cell 0; have h1 := hq.cell 1; have h2 := hq.cell 2; have h3 := hq.cell 3; simp at h0 h1 h2 h3; go_simp; exact rfl)); simp only [List.getElem_toArray, List.getElem_cons_zero, List.getElem_cons_succ, Act.put, List.setIfInBounds_toArray, List.set_cons_zero, List.set_cons_succ])
        | (refine pl_qc rfl rfl ?_; apply Exists.intro; refine ⟨fun w' _ => ?_, ?_⟩; (· (go_simp; exact rfl)); simp only [List.getElem_toArray, List.getElem_cons_zero, List.getElem_cons_succ, Act.put, List.setIfInBounds_toArray, List.set_cons_zero, List.set_cons_succ])
        | (refine pl_skip (by assumption) rfl rfl ?_; simp only [List.getElem_toArray, List.getElem_cons_zero, List.getElem_cons_succ, Act.put, List.setIfInBounds_toArray, List.set_cons_zero, List.set_cons_succ])
        | (refine pl_skipl (by assumption) rfl rfl ?_; simp only [List.getElem_toArray, List.getElem_cons_zero, List.getElem_cons_succ, Act.put, List.setIfInBounds_toArray, List.set_cons_zero, List.set_cons_succ]))
      first
        | refine pl_do rfl rfl (fun K hK => ?_)
        | refine op_do rfl rfl (fun K hK => ?_)
      try simp only [List.getElem_toArray, List.getElem_cons_zero, List.getElem_cons_succ]
      go_simp
      refine (joined_any _ _ [U0] Wr _ (one_cell cA) (o3.reads (by rw [hwl]; decide)) 140737488355328 (Nat.le_refl _) (by rw [hwl]; simp)).mono ?_
      rintro e w4 ⟨v4, rfl, b4, o4⟩
      have b5 := b3.trans (b4.mono b3.size)
      refine hK.out _ _ (b5) (fun hS => ?_)
      clear hK K
      try simp only [List.getElem_toArray, List.getElem_cons_zero, List.getElem_cons_succ, Act.put, List.setIfInBounds_toArray, List.set_cons_zero, List.set_cons_succ]
      repeat (first
        | (refine pl_q (by assumption) rfl rfl ?_; apply Exists.intro; refine ⟨fun w' hS => ?_, ?_⟩; (· (skip; go_simp; exact rfl)); simp only [List.getElem_toArray, List.getElem_cons_zero, List.getElem_cons_succ, Act.put, List.setIfInBounds_toArray, List.set_cons_zero, List.set_cons_succ])
        | (refine pl_qc rfl rfl ?_; apply Exists.intro; refine ⟨fun w' _ => ?_, ?_⟩; (· (go_simp; exact rfl)); simp only [List.getElem_toArray, List.getElem_cons_zero, List.getElem_cons_succ, Act.put, List.setIfInBounds_toArray, List.set_cons_zero, List.set_cons_succ])
        | (refine pl_skip (by assumption) rfl rfl ?_; simp only [List.getElem_toArray, List.getElem_cons_zero, List.getElem_cons_succ, Act.put, List.setIfInBounds_toArray, List.set_cons_zero, List.set_cons_succ])
        | (refine pl_skipl (by assumption) rfl rfl ?_; simp only [List.getElem_toArray, List.getElem_cons_zero, List.getElem_cons_succ, Act.put, List.setIfInBounds_toArray, List.set_cons_zero, List.set_cons_succ]))
      refine pl_nil ?_
      go_wp2
      go_meet
      exact ⟨o4.base b3.size, b5⟩
  case rest =>
    obtain ⟨ho, hbl⟩ := hcut
    obtain ⟨yA, yc, rfl⟩ := ho.form
    have hz := hbl.size
    have c2 := (hk.kept hbl).cell 2
    simp at c2
    go_wp2_with (at_builtin; first
      | (refine wpList_append_vec (n := 140737488355328) (W := W) (ys := [U1]) elemByte encB_one _ _ rfl rfl rfl (ho.alloc _) (hbl.alloc hz _) (le_alloc _ hz) rfl (byBlk (xs := [U1]) (Blk.new _ _ _) (by simp) (by simp)) (by decide) (by simp [hwl]) (by simp [hwl]) ?_))
    intro v1 w1 o1 b1 g1
    clear g1 ho hbl hz c2
    have o1 : OwnB w1 W.heap.size v1 Y := by rw [← hY.out]; simpa using o1
    go_wp2
    go_loopw [3, 4] (fun v i wr => ∃ k : Nat, k ≤ b.length ∧ i = .int .i64 k ∧ OwnB wr W.heap.size v (Y ++ (b.take k).flatten) ∧ Below W.heap.size W wr) (fun _ i _ => b.length - (intOf i).toNat)
    case atStart => exact ⟨0, Nat.zero_le _, rfl, by simpa using o1, b1⟩
    case round =>
      clear o1 b1
      obtain ⟨k, hk', rfl, hown, hbl⟩ := hrel
      have hz := hbl.size
      have c2 := (hk.kept hbl).cell 2
      have c3 := (hk.kept hbl).cell 3
      simp at c2 c3
      by_cases hlt : k < b.length
      · obtain ⟨b0, o0, d, rfl, q0, hd⟩ := Hbl.out k hlt
        have q0 : W.cell? ⟨b0, o0 + k, none⟩ = some d := vle_below hblW0 _ _ q0
        have c0 := vle_below hbl _ _ q0
        obtain ⟨dA, dc, rfl, _⟩ := id hd
        obtain ⟨hn, hnl⟩ := flat_take b hlt
        have Hn := Lib.hid hn
        rw [hnb.out] at hnl
        have hd2 := (hd.mono (vle_below hblW0)).mono (vle_below hbl)
        clear hn hd
        generalize (b.take k).flatten = Z at hown Hn hnl
        generalize b[k] = x at Hn hnl c0 q0 hd2
        obtain ⟨F, hF⟩ : ∃ F, Hid (Y ++ Z = F) := ⟨_, rfl⟩
        have hFl : F.length = 5 + Z.length := by rw [← hF.out, List.length_append, hYl]
        rw [hF.out] at hown
        obtain ⟨xA, xc, rfl⟩ := hown.form
        have hr2 := hown.reads (bs := 1) (by omega)
        have hjl : F.length + x.length ≤ 140737488355328 := by omega
        rw [hFl] at hr2
        go_wp2_with fail
        refine (joined_any _ _ F x _ hr2 hd2 140737488355328 (Nat.le_refl _) hjl).mono ?_
        rintro e w3 ⟨v3, rfl, b3, o3⟩
        have o3 := o3.base hz
        have b3 := hbl.trans (b3.mono hz)
        go_wp2_with fail
        go_roundw
        case rel => exact ⟨k + 1, by omega, by go_num, by rw [Hn.out]; rw [← hF.out] at o3; simpa using o3, b3⟩
        case measure => simp [intOf]; omega
      · have hkl : k = b.length := by omega
        subst hkl
        rw [List.take_length] at hown
        obtain ⟨M, hM⟩ : ∃ M, Hid (Y ++ b.flatten = M) := ⟨_, rfl⟩
        have hMl : M.length = 5 + nb := by rw [← hM.out, List.length_append, hYl, hnb.out]
        rw [hM.out] at hown
        obtain ⟨xA, xc, rfl⟩ := hown.form
        go_wp2_with (at_builtin; first
          | (refine wpList_append_vec (n := 140737488355328) (W := W) (xs := M) (ys := [U2]) elemByte encB_one _ _ rfl rfl rfl (hown.alloc _) (hbl.alloc hz _) (le_alloc _ hz) rfl (byBlk (xs := [U2]) (Blk.new _ _ _) (by simp) (by simp)) (by decide) (by simp [hMl]; omega) (by simp [hMl]; omega) ?_))
        intro v4 w4 o4 b4 g4
        clear g4 hown hbl hz c2 c3
        obtain ⟨N, hN⟩ : ∃ N, Hid (M ++ [U2] = N) := ⟨_, rfl⟩
        have hNl : N.length = 6 + nb := by rw [← hN.out, List.length_append, hMl]; simp only [List.length_cons, List.length_nil]; omega
        rw [hN.out] at o4
        go_wp2
        go_loopw [3, 5] (fun v i wr => ∃ k : Nat, k ≤ p.length ∧ i = .int .i64 k ∧ OwnB wr W.heap.size v (N ++ (p.take k).flatten) ∧ Below W.heap.size W wr) (fun _ i _ => p.length - (intOf i).toNat)
        case atStart => exact ⟨0, Nat.zero_le _, rfl, by simpa using o4, b4⟩
        case round =>
          clear o4 b4
          obtain ⟨k, hk', rfl, hown, hbl⟩ := hrel
          have hz := hbl.size
          have c2 := (hk.kept hbl).cell 2
          have c3 := (hk.kept hbl).cell 3
          simp at c2 c3
          by_cases hlt : k < p.length
          · obtain ⟨b0, o0, d, rfl, q0, hd⟩ := Hpl.out k hlt
            have q0 : W.cell? ⟨b0, o0 + k, none⟩ = some d := vle_below hblW0 _ _ q0
            have c0 := vle_below hbl _ _ q0
            obtain ⟨dA, dc, rfl, _⟩ := id hd
            obtain ⟨hn, hnl⟩ := flat_take p hlt
            have Hn := Lib.hid hn
            rw [hnp.out] at hnl
            have hd2 := (hd.mono (vle_below hblW0)).mono (vle_below hbl)
            clear hn hd
            generalize (p.take k).flatten = Z at hown Hn hnl
            generalize p[k] = x at Hn hnl c0 q0 hd2
            obtain ⟨F, hF⟩ : ∃ F, Hid (N ++ Z = F) := ⟨_, rfl⟩
            have hFl : F.length = 6 + nb + Z.length := by rw [← hF.out, List.length_append, hNl]
            rw [hF.out] at hown
            obtain ⟨xA, xc, rfl⟩ := hown.form
            have hr2 := hown.reads (bs := 1) (by omega)
            have hjl : F.length + x.length ≤ 140737488355328 := by omega
            rw [hFl] at hr2
            go_wp2_with fail
            refine (joined_any _ _ F x _ hr2 hd2 140737488355328 (Nat.le_refl _) hjl).mono ?_
            rintro e w3 ⟨v3, rfl, b3, o3⟩
            have o3 := o3.base hz
            have b3 := hbl.trans (b3.mono hz)
            go_wp2_with fail
            go_roundw
            case rel => exact ⟨k + 1, by omega, by go_num, by rw [Hn.out]; rw [← hF.out] at o3; simpa using o3, b3⟩
            case measure => simp [intOf]; omega
          · have hkl : k = p.length := by omega
            subst hkl
            rw [List.take_length] at hown
            have hfin : OwnB wr W.heap.size u3 Db := by rw [hD.out]; rw [← hN.out, ← hM.out, ← hY.out] at hown; simpa using hown
            go_wp2
            go_ret
            exact ⟨_, rfl, hblW0.trans (hbl.mono hblW0.size), hfin.base hblW0.size⟩
end Go.Proofs.Ytedealljhmokoaa

namespace Go.Proofs.Ytedealljhmokoaa
open Go.ChangeShapes Go.WideShapes Go.ChangeAt Go.RowKit
set_option linter.unusedVariables false
set_option linter.unusedSimpArgs false
theorem digs_one {h : View} {g : Nat} {d : Value} {x : List UInt8} (hc : h ⟨g, 0, none⟩ = some d) (hd : RBytes h d x) : RDigs h (.slice (some ⟨g, 0, none⟩) 1 1) [x] :=
  ⟨_, _, rfl, by simp, by decide, by simp, (fun h => by cases h), fun _ => ⟨g, 0, rfl, fun i hi => by
    have : i = 0 := by simp at hi; exact hi
    subst this
    exact ⟨[d], rfl, fun j hj => by
      have : j = 0 := by omega
      subst this; simpa using hc, d, rfl, by simpa using hd⟩⟩⟩
theorem texts_bound : ∀ (l : List ByteArray), l.all txOk = true → (textsB l).length ≤ l.length * 21
  | [], _ => by simp [textsB]
  | s :: l, h => by
    rw [List.all_cons, Bool.and_eq_true] at h
    have ih := texts_bound l h.2
    have hs : s.size ≤ 20 := by have := h.1; simp [txOk] at this; omega
    have e : textsB (s :: l) = (byteI s.size :: sbytes s) ++ textsB l := rfl
    rw [e, List.length_append, List.length_cons, List.length_cons, sbytes_len]
    omega
theorem batchF_zero {a n : Int} {l : List ByteArray} (h : batchF a n l = 0) : 1 ≤ n ∧ n ≤ 1048576 ∧ (textsB l).length ≤ 84 := by
  unfold batchF at h
  split at h
  · cases h
  · rename_i h1
    split at h
    · cases h
    · split at h
      · rename_i h2 h3
        have hb := texts_bound l h3
        have hn : inB n 1 1048576 = true := by
          cases hq : inB n 1 1048576
          · simp [hq] at h1
          · rfl
        simp [inB] at hn
        omega
      · cases h
theorem digsF_zero {l : List (List UInt8)} (h : digsF l = 0) : ∀ k (hk : k < l.length), l[k].length = 32 := by
  intro k hk
  refine Classical.byContradiction fun hne => ?_
  have h4 := digAt_len hk hne
  unfold digsF at h
  split at h
  · rename_i i hi
    have := (List.find?_eq_some_iff_append.1 hi).1
    simp [h] at this
  · rename_i hno
    rw [List.find?_eq_none] at hno
    have := hno k (List.mem_range.2 hk)
    simp [h4] at this
theorem flat_32 : ∀ (l : List (List UInt8)), (∀ k (hk : k < l.length), l[k].length = 32) → l.flatten.length = 32 * l.length
  | [], _ => rfl
  | x :: l, h => by
    have h0 := h 0 (by simp)
    simp only [List.getElem_cons_zero] at h0
    have ih := flat_32 l (fun k hk => by have := h (k + 1) (by simp; omega); simpa using this)
    rw [List.flatten_cons, List.length_append, h0, ih, List.length_cons]
    omega
theorem headF_zero {a r : Int} {b p : List (List UInt8)} (h : headF a r b p = 0) : 1 ≤ r ∧ r ≤ 1048576 ∧ b.flatten.length ≤ 96 ∧ p.flatten.length ≤ 128 := by
  unfold headF at h
  split at h
  · rename_i h1
    split at h
    · cases h
    · rename_i h2
      split at h
      · rename_i h3; exact absurd h h3
      · rename_i h3
        split at h
        · rename_i h4; exact absurd h h4
        · rename_i h4
          have hb := flat_32 b (digsF_zero (Classical.not_not.1 h3))
          have hp := flat_32 p (digsF_zero (Classical.not_not.1 h4))
          simp [inB] at h1
          omega
  · cases h
theorem headF_digs {a r : Int} {b p : List (List UInt8)} (h : headF a r b p = 0) : (∀ k (hk : k < b.length), b[k].length = 32) ∧ (∀ k (hk : k < p.length), p[k].length = 32) := by
  unfold headF at h
  split at h
  · split at h
    · cases h
    · split at h
      · rename_i h3; exact absurd h h3
      · rename_i h3
        split at h
        · rename_i h4; exact absurd h h4
        · rename_i h4
          exact ⟨digsF_zero (Classical.not_not.1 h3), digsF_zero (Classical.not_not.1 h4)⟩
  · cases h
theorem headerB_len (a r : Int) (b p : List (List UInt8)) : (headerB a r b p).length = 6 + b.flatten.length + p.flatten.length := by
  simp only [headerB, digsB, wideB, List.length_append, List.length_cons, List.length_nil]; omega
theorem batchB_len (a n : Int) (l : List ByteArray) : (batchB a n l).length = 5 + (textsB l).length := by
  simp only [batchB, wideB, List.length_append, List.length_cons, List.length_nil]
end Go.Proofs.Ytedealljhmokoaa

namespace Go.Proofs.Ytedealljhmokoaa
open Go.ChangeShapes Go.WideShapes Go.ChangeAt Go.RowKit
set_option linter.unusedVariables false
set_option linter.unusedSimpArgs false
def msgBody (m : Msg) : List UInt8 :=
  if m.kind = 1 then batchB m.bat.author m.bat.number m.bat.txs else if m.kind = 2 then headerB m.hdr.author m.hdr.round m.hdr.batches m.hdr.parents
  else if m.kind = 3 then ((byteI m.slt.author :: wideB m.slt.round) ++ m.slt.digest)
  else if m.kind = 4 then (headerB m.crt.hdr.author m.crt.hdr.round m.crt.hdr.batches m.crt.hdr.parents ++ (byteI m.crt.voters.length :: m.crt.voters.map byteI)) else wideB m.round
def msgB (m : Msg) : List UInt8 := [byteI m.kind, byteI m.src, byteI m.dst] ++ msgBody m
def msgBR (m : Msg) : List UInt8 := if msgF m = 0 then msgB m else []
theorem msgF_zero {m : Msg} (h : msgF m = 0) : (m.kind = 1 ∨ m.kind = 2 ∨ m.kind = 3 ∨ m.kind = 4 ∨ m.kind = 5) ∧ bodyF m = 0 := by
  unfold msgF at h
  split at h
  · split at h
    · rename_i hk
      split at h
      · rename_i hb; exact absurd h hb
      · rename_i hb
        refine ⟨?_, Classical.not_not.1 hb⟩
        simp [inB] at hk
        omega
    · cases h
  · cases h
theorem body_1 {m : Msg} (hk : m.kind = 1) (h : msgF m = 0) : batchF m.bat.author m.bat.number m.bat.txs = 0 := by have := (msgF_zero h).2; simpa [bodyF, hk] using this
theorem body_2 {m : Msg} (hk : m.kind = 2) (h : msgF m = 0) : headF m.hdr.author m.hdr.round m.hdr.batches m.hdr.parents = 0 := by have := (msgF_zero h).2; simpa [bodyF, hk] using this
theorem body_3 {m : Msg} (hk : m.kind = 3) (h : msgF m = 0) : slotF m.slt.author m.slt.round m.slt.digest.length = 0 := by have := (msgF_zero h).2; simpa [bodyF, hk] using this
theorem body_4 {m : Msg} (hk : m.kind = 4) (h : msgF m = 0) : certF m.crt.hdr.author m.crt.hdr.round m.crt.hdr.batches m.crt.hdr.parents m.crt.voters = 0 := by have := (msgF_zero h).2; simpa [bodyF, hk] using this
theorem body_5 {m : Msg} (hk : m.kind = 5) (h : msgF m = 0) : 1 ≤ m.round ∧ m.round ≤ 1048576 := by
  have := (msgF_zero h).2
  simp [bodyF, hk] at this
  simpa [inB] using this
theorem slotF_zero {a r : Int} {l : Nat} (h : slotF a r l = 0) : 1 ≤ r ∧ r ≤ 1048576 ∧ l = 32 := by
  unfold slotF at h
  split at h
  · cases h
  · rename_i h1
    split at h
    · cases h
    · rename_i h2
      simp [inB] at h1
      omega
theorem certF_zero {a r : Int} {b p : List (List UInt8)} {vs : List Int} (h : certF a r b p vs = 0) : 1 ≤ r ∧ r ≤ 1048576 ∧ b.flatten.length ≤ 96 ∧ p.flatten.length ≤ 128 ∧ (∀ k (hk : k < b.length), 0 < b[k].length) ∧ (∀ k (hk : k < p.length), 0 < p[k].length) ∧ vs.length ≤ 4 := by
  unfold certF at h
  split at h
  · rename_i h1; exact absurd h h1
  · rename_i h1
    have h1 := Classical.not_not.1 h1
    obtain ⟨q0, q1, q2, q3⟩ := headF_zero h1
    obtain ⟨d1, d2⟩ := headF_digs h1
    refine ⟨q0, q1, q2, q3, fun k hk => by have := d1 k hk; omega, fun k hk => by have := d2 k hk; omega, ?_⟩
    split at h
    · cases h
    · omega
end Go.Proofs.Ytedealljhmokoaa

namespace Go.Proofs.Ytedealljhmokoaa
open Go.ChangeShapes Go.WideShapes Go.ChangeAt Go.RowKit
set_option linter.unusedVariables false
set_option linter.unusedSimpArgs false
set_option maxHeartbeats 10000000 in
set_option maxRecDepth 100000 in
theorem encode_1 (m : Msg) (hk : m.kind = 1) (h0 : msgF m = 0) (vt vb vp vd cb cp cv : Value) (w : World) (r : RMsg w.cell? m vt vb vp vd cb cp cv) (hs : ∀ s ∈ m.bat.txs, s.size ≤ 140737488355328) :
    Calls Try.prog 11 #[.agg (msgC m vt vb vp vd cb cp cv)] w fun e w' => ∃ d, e = .returned (.tuple #[d, .int .i64 0]) ∧ Below w.heap.size w w' ∧ RBytes (View.from w'.cell? w.heap.size) d (msgB m) := by
  obtain ⟨⟨tA, tc, rfl⟩, ⟨bA, bc, rfl⟩, ⟨pA, pc, rfl⟩, ⟨dA, dc, rfl⟩, ⟨cA, cc, rfl⟩, ⟨qA, qc, rfl⟩, ⟨vA, vc, rfl⟩⟩ := r.forms
  have e1 := byteI_wrap m.src
  have e2 := byteI_wrap m.dst
  have hR : Hid (msgB m = [1, byteI m.src, byteI m.dst] ++ batchB m.bat.author m.bat.number m.bat.txs) := by show _ = _; simp [msgB, msgBody, hk, byteI]
  generalize byteI m.src = U1 at e1 hR
  generalize byteI m.dst = U2 at e2 hR
  generalize msgB m = R at hR ⊢
  obtain ⟨q0, q1, q2⟩ := batchF_zero (body_1 hk h0)
  have Hk := Lib.hid hk
  have H0 := Lib.hid h0
  clear hk h0
  unfold msgC
  go_enter Try.func11, Try.ntmps11
  go_upto_region 1 with fail
  refine one_block _ _ _ (fun W => Code.wp _ _ _ _ W) (fun W hbk hsz hbl => ?_)
  have r1 := r.mono (vle_below hbl)
  go_wp2_with (refine wpList_load_row rfl 35 _ rfl _ rfl _ _ _ _ hbk Try.underlying35 rfl (by kernel_rfl) ?_)
  refine (check_any m _ _ _ _ _ _ _ _ r1 hs).mono ?_
  rintro e w1 ⟨rfl, hb1⟩
  rw [H0.out]
  have hbl1 := hbl.trans (hb1.mono hbl.size)
  have hz1 := hbl1.size
  have hq := hbk.kept hb1
  have hlt1 := hq.lt
  have g0 := hq.cell 0; have g1 := hq.cell 1; have g2 := hq.cell 2; have g3 := hq.cell 3; have g4 := hq.cell 4; have g5 := hq.cell 5; have g6 := hq.cell 6; have g7 := hq.cell 7; have g8 := hq.cell 8; have g9 := hq.cell 9; have g10 := hq.cell 10; have g11 := hq.cell 11; have g12 := hq.cell 12; have g13 := hq.cell 13; have g14 := hq.cell 14; have g15 := hq.cell 15; have g16 := hq.cell 16; have g17 := hq.cell 17; have g18 := hq.cell 18
  simp at g0 g1 g2 g3 g4 g5 g6 g7 g8 g9 g10 g11 g12 g13 g14 g15 g16 g17 g18
  rw [Hk.out] at g2
  have r2 := r1.mono (vle_below hb1)
  have hlit : ∀ (W : World) (n : Nat) (xs : List UInt8), Blk W n 5 (xs.map encB).toArray → w1.heap.size ≤ n → xs.length = 3 → OwnB W w1.heap.size (.slice (some ⟨n, 0, none⟩) 3 3) xs := fun W n xs hb hn hl => OwnVec.lit hb hn hl.symm (by decide)
  clear r r1 hbk hsz hb1
  have hRl : Hid (R.length = 3 + (5 + (textsB m.bat.txs).length)) := by show _ = _; rw [hR.out, List.length_append, batchB_len]; rfl
  go_wp2_with fail
  refine (putBatch_any w1 _ [1, U1, U2] m.bat.author m.bat.number _ m.bat.txs _ (below_one _ _) (hlit _ _ [1, U1, U2] (Blk.new _ _ _) (Nat.le_refl _) rfl) (by omega) (by omega) r2.txs (by simp only [List.length_cons, List.length_nil]; omega)).mono ?_
  rintro e w2 ⟨v2, rfl, hb2, hkp, ho2⟩
  clear g0 g1 g3 g4 g5 g6 g7 g8 g9 g10 g11 g12 g13 g14 g15 g16 g17 g18
  go_wp2
  go_ret2
  exact ⟨_, rfl, hbl1.trans (hb2.mono hz1), by rw [hR.out]; exact (ho2).from_ (bs := 1) (by rw [← hR.out]; rw [hRl.out]; omega) hz1⟩
end Go.Proofs.Ytedealljhmokoaa

namespace Go.Proofs.Ytedealljhmokoaa
open Go.ChangeShapes Go.WideShapes Go.ChangeAt Go.RowKit
set_option linter.unusedVariables false
set_option linter.unusedSimpArgs false
set_option maxHeartbeats 10000000 in
set_option maxRecDepth 100000 in
theorem msgBytes_1 (m : Msg) (hk : m.kind = 1) (h0 : msgF m = 0) (vt vb vp vd cb cp cv : Value) (w : World) (r : RMsg w.cell? m vt vb vp vd cb cp cv) (hs : ∀ s ∈ m.bat.txs, s.size ≤ 140737488355328) :
    Calls Try.prog 12 #[.agg (msgC m vt vb vp vd cb cp cv)] w fun e w' => ∃ d, e = .returned (.tuple #[d, .int .i64 0]) ∧ Below w.heap.size w w' ∧ RBytes (View.from w'.cell? w.heap.size) d (msgB m) := by
  obtain ⟨⟨tA, tc, rfl⟩, ⟨bA, bc, rfl⟩, ⟨pA, pc, rfl⟩, ⟨dA, dc, rfl⟩, ⟨cA, cc, rfl⟩, ⟨qA, qc, rfl⟩, ⟨vA, vc, rfl⟩⟩ := r.forms
  have e1 := byteI_wrap m.src
  have e2 := byteI_wrap m.dst
  have hR : Hid (msgB m = [1, byteI m.src, byteI m.dst] ++ batchB m.bat.author m.bat.number m.bat.txs) := by show _ = _; simp [msgB, msgBody, hk, byteI]
  generalize byteI m.src = U1 at e1 hR
  generalize byteI m.dst = U2 at e2 hR
  generalize msgB m = R at hR ⊢
  obtain ⟨q0, q1, q2⟩ := batchF_zero (body_1 hk h0)
  have Hk := Lib.hid hk
  have H0 := Lib.hid h0
  clear hk h0
  unfold msgC
  go_enter Try.func12, Try.ntmps12
  go_upto_region 1 with fail
  refine one_block _ _ _ (fun W => Code.wp _ _ _ _ W) (fun W hbk hsz hbl => ?_)
  have r1 := r.mono (vle_below hbl)
  go_wp2_with (refine wpList_load_row rfl 35 _ rfl _ rfl _ _ _ _ hbk Try.underlying35 rfl (by kernel_rfl) ?_)
  refine (messageFault_any m _ _ _ _ _ _ _ _ r1 hs).mono ?_
  rintro e w1 ⟨rfl, hb1⟩
  rw [H0.out]
  have hbl1 := hbl.trans (hb1.mono hbl.size)
  have hz1 := hbl1.size
  have hq := hbk.kept hb1
  have hlt1 := hq.lt
  have g0 := hq.cell 0; have g1 := hq.cell 1; have g2 := hq.cell 2; have g3 := hq.cell 3; have g4 := hq.cell 4; have g5 := hq.cell 5; have g6 := hq.cell 6; have g7 := hq.cell 7; have g8 := hq.cell 8; have g9 := hq.cell 9; have g10 := hq.cell 10; have g11 := hq.cell 11; have g12 := hq.cell 12; have g13 := hq.cell 13; have g14 := hq.cell 14; have g15 := hq.cell 15; have g16 := hq.cell 16; have g17 := hq.cell 17; have g18 := hq.cell 18
  simp at g0 g1 g2 g3 g4 g5 g6 g7 g8 g9 g10 g11 g12 g13 g14 g15 g16 g17 g18
  rw [Hk.out] at g2
  have r2 := r1.mono (vle_below hb1)
  have hlit : ∀ (W : World) (n : Nat) (xs : List UInt8), Blk W n 5 (xs.map encB).toArray → w1.heap.size ≤ n → xs.length = 3 → OwnB W w1.heap.size (.slice (some ⟨n, 0, none⟩) 3 3) xs := fun W n xs hb hn hl => OwnVec.lit hb hn hl.symm (by decide)
  clear r r1 hbk hsz hb1
  obtain ⟨Y, hY⟩ : ∃ Y, Hid (batchB m.bat.author m.bat.number m.bat.txs = Y) := ⟨_, rfl⟩
  have hYl : Y.length ≤ 300 := by rw [← hY.out]; rw [batchB_len]; omega
  have hRY : Hid (R = [1, U1, U2] ++ Y) := by show _ = _; rw [hR.out, hY.out]
  go_wp2_with fail
  refine one_block _ _ _ (fun W => Calls Try.prog _ _ W _) (fun W2 hk2 hsz2 hbl2 => ?_)
  have ho := hlit W2 _ [1, U1, U2] hk2 (Nat.le_refl _) rfl
  have hz2 := hbl2.size
  refine (batchBytes_any _ _ _ m.bat.txs _ (by omega) (by omega) (r2.txs.mono (vle_below hbl2)) (by omega)).mono ?_
  rintro e w2 ⟨v2, rfl, hb2, ho2⟩
  rw [hY.out] at ho2
  obtain ⟨A2, c2, rfl⟩ := ho2.form
  have ho3 := ho.kept hb2
  have hb3 := hbl2.trans (hb2.mono hz2)
  clear g0 g1 g3 g4 g5 g6 g7 g8 g9 g10 g11 g12 g13 g14 g15 g16 g17 g18
  go_wp2_with fail
  refine (joined_any _ _ [1, U1, U2] Y _ (ho3.reads (bs := 1) (by simp)) (ho2.reads (bs := 1) (by omega)) 140737488355328 (Nat.le_refl _) (by simp only [List.length_cons, List.length_nil]; omega)).mono ?_
  rintro e w3 ⟨v3, rfl, hb4, ho4⟩
  have hb5 := hb3.trans (hb4.mono hb3.size)
  go_wp2
  go_ret2
  exact ⟨_, rfl, hbl1.trans (hb5.mono hz1), by rw [hRY.out]; exact ho4.from_ (bs := 1) (by simp only [List.length_append, List.length_cons, List.length_nil]; omega) (Nat.le_trans hz1 hb3.size)⟩
end Go.Proofs.Ytedealljhmokoaa

namespace Go.Proofs.Ytedealljhmokoaa
open Go.ChangeShapes Go.WideShapes Go.ChangeAt Go.RowKit
set_option linter.unusedVariables false
set_option linter.unusedSimpArgs false
set_option maxHeartbeats 10000000 in
set_option maxRecDepth 100000 in
theorem encode_2 (m : Msg) (hk : m.kind = 2) (h0 : msgF m = 0) (vt vb vp vd cb cp cv : Value) (w : World) (r : RMsg w.cell? m vt vb vp vd cb cp cv) (hs : ∀ s ∈ m.bat.txs, s.size ≤ 140737488355328) :
    Calls Try.prog 11 #[.agg (msgC m vt vb vp vd cb cp cv)] w fun e w' => ∃ d, e = .returned (.tuple #[d, .int .i64 0]) ∧ Below w.heap.size w w' ∧ RBytes (View.from w'.cell? w.heap.size) d (msgB m) := by
  obtain ⟨⟨tA, tc, rfl⟩, ⟨bA, bc, rfl⟩, ⟨pA, pc, rfl⟩, ⟨dA, dc, rfl⟩, ⟨cA, cc, rfl⟩, ⟨qA, qc, rfl⟩, ⟨vA, vc, rfl⟩⟩ := r.forms
  have e1 := byteI_wrap m.src
  have e2 := byteI_wrap m.dst
  have hR : Hid (msgB m = [2, byteI m.src, byteI m.dst] ++ headerB m.hdr.author m.hdr.round m.hdr.batches m.hdr.parents) := by show _ = _; simp [msgB, msgBody, hk, byteI]
  generalize byteI m.src = U1 at e1 hR
  generalize byteI m.dst = U2 at e2 hR
  generalize msgB m = R at hR ⊢
  obtain ⟨q0, q1, q2, q3⟩ := headF_zero (body_2 hk h0)
  have Hk := Lib.hid hk
  have H0 := Lib.hid h0
  clear hk h0
  unfold msgC
  go_enter Try.func11, Try.ntmps11
  go_upto_region 1 with fail
  refine one_block _ _ _ (fun W => Code.wp _ _ _ _ W) (fun W hbk hsz hbl => ?_)
  have r1 := r.mono (vle_below hbl)
  go_wp2_with (refine wpList_load_row rfl 35 _ rfl _ rfl _ _ _ _ hbk Try.underlying35 rfl (by kernel_rfl) ?_)
  refine (check_any m _ _ _ _ _ _ _ _ r1 hs).mono ?_
  rintro e w1 ⟨rfl, hb1⟩
  rw [H0.out]
  have hbl1 := hbl.trans (hb1.mono hbl.size)
  have hz1 := hbl1.size
  have hq := hbk.kept hb1
  have hlt1 := hq.lt
  have g0 := hq.cell 0; have g1 := hq.cell 1; have g2 := hq.cell 2; have g3 := hq.cell 3; have g4 := hq.cell 4; have g5 := hq.cell 5; have g6 := hq.cell 6; have g7 := hq.cell 7; have g8 := hq.cell 8; have g9 := hq.cell 9; have g10 := hq.cell 10; have g11 := hq.cell 11; have g12 := hq.cell 12; have g13 := hq.cell 13; have g14 := hq.cell 14; have g15 := hq.cell 15; have g16 := hq.cell 16; have g17 := hq.cell 17; have g18 := hq.cell 18
  simp at g0 g1 g2 g3 g4 g5 g6 g7 g8 g9 g10 g11 g12 g13 g14 g15 g16 g17 g18
  rw [Hk.out] at g2
  have r2 := r1.mono (vle_below hb1)
  have hlit : ∀ (W : World) (n : Nat) (xs : List UInt8), Blk W n 5 (xs.map encB).toArray → w1.heap.size ≤ n → xs.length = 3 → OwnB W w1.heap.size (.slice (some ⟨n, 0, none⟩) 3 3) xs := fun W n xs hb hn hl => OwnVec.lit hb hn hl.symm (by decide)
  clear r r1 hbk hsz hb1
  have hRl : Hid (R.length = 3 + (6 + m.hdr.batches.flatten.length + m.hdr.parents.flatten.length)) := by show _ = _; rw [hR.out, List.length_append, headerB_len]; rfl
  go_wp2_with fail
  refine (putHeader_any w1 _ [2, U1, U2] m.hdr.author m.hdr.round _ _ m.hdr.batches m.hdr.parents _ (below_one _ _) (hlit _ _ [2, U1, U2] (Blk.new _ _ _) (Nat.le_refl _) rfl) (by omega) (by omega) r2.bats r2.pars (by simp only [List.length_cons, List.length_nil]; omega)).mono ?_
  rintro e w2 ⟨v2, rfl, hb2, hkp, ho2⟩
  clear g0 g1 g3 g4 g5 g6 g7 g8 g9 g10 g11 g12 g13 g14 g15 g16 g17 g18
  go_wp2
  go_ret2
  exact ⟨_, rfl, hbl1.trans (hb2.mono hz1), by rw [hR.out]; exact (ho2).from_ (bs := 1) (by rw [← hR.out]; rw [hRl.out]; omega) hz1⟩
end Go.Proofs.Ytedealljhmokoaa

namespace Go.Proofs.Ytedealljhmokoaa
open Go.ChangeShapes Go.WideShapes Go.ChangeAt Go.RowKit
set_option linter.unusedVariables false
set_option linter.unusedSimpArgs false
set_option maxHeartbeats 10000000 in
set_option maxRecDepth 100000 in
theorem msgBytes_2 (m : Msg) (hk : m.kind = 2) (h0 : msgF m = 0) (vt vb vp vd cb cp cv : Value) (w : World) (r : RMsg w.cell? m vt vb vp vd cb cp cv) (hs : ∀ s ∈ m.bat.txs, s.size ≤ 140737488355328) :
    Calls Try.prog 12 #[.agg (msgC m vt vb vp vd cb cp cv)] w fun e w' => ∃ d, e = .returned (.tuple #[d, .int .i64 0]) ∧ Below w.heap.size w w' ∧ RBytes (View.from w'.cell? w.heap.size) d (msgB m) := by
  obtain ⟨⟨tA, tc, rfl⟩, ⟨bA, bc, rfl⟩, ⟨pA, pc, rfl⟩, ⟨dA, dc, rfl⟩, ⟨cA, cc, rfl⟩, ⟨qA, qc, rfl⟩, ⟨vA, vc, rfl⟩⟩ := r.forms
  have e1 := byteI_wrap m.src
  have e2 := byteI_wrap m.dst
  have hR : Hid (msgB m = [2, byteI m.src, byteI m.dst] ++ headerB m.hdr.author m.hdr.round m.hdr.batches m.hdr.parents) := by show _ = _; simp [msgB, msgBody, hk, byteI]
  generalize byteI m.src = U1 at e1 hR
  generalize byteI m.dst = U2 at e2 hR
  generalize msgB m = R at hR ⊢
  obtain ⟨q0, q1, q2, q3⟩ := headF_zero (body_2 hk h0)
  have Hk := Lib.hid hk
  have H0 := Lib.hid h0
  clear hk h0
  unfold msgC
  go_enter Try.func12, Try.ntmps12
  go_upto_region 1 with fail
  refine one_block _ _ _ (fun W => Code.wp _ _ _ _ W) (fun W hbk hsz hbl => ?_)
  have r1 := r.mono (vle_below hbl)
  go_wp2_with (refine wpList_load_row rfl 35 _ rfl _ rfl _ _ _ _ hbk Try.underlying35 rfl (by kernel_rfl) ?_)
  refine (messageFault_any m _ _ _ _ _ _ _ _ r1 hs).mono ?_
  rintro e w1 ⟨rfl, hb1⟩
  rw [H0.out]
  have hbl1 := hbl.trans (hb1.mono hbl.size)
  have hz1 := hbl1.size
  have hq := hbk.kept hb1
  have hlt1 := hq.lt
  have g0 := hq.cell 0; have g1 := hq.cell 1; have g2 := hq.cell 2; have g3 := hq.cell 3; have g4 := hq.cell 4; have g5 := hq.cell 5; have g6 := hq.cell 6; have g7 := hq.cell 7; have g8 := hq.cell 8; have g9 := hq.cell 9; have g10 := hq.cell 10; have g11 := hq.cell 11; have g12 := hq.cell 12; have g13 := hq.cell 13; have g14 := hq.cell 14; have g15 := hq.cell 15; have g16 := hq.cell 16; have g17 := hq.cell 17; have g18 := hq.cell 18
  simp at g0 g1 g2 g3 g4 g5 g6 g7 g8 g9 g10 g11 g12 g13 g14 g15 g16 g17 g18
  rw [Hk.out] at g2
  have r2 := r1.mono (vle_below hb1)
  have hlit : ∀ (W : World) (n : Nat) (xs : List UInt8), Blk W n 5 (xs.map encB).toArray → w1.heap.size ≤ n → xs.length = 3 → OwnB W w1.heap.size (.slice (some ⟨n, 0, none⟩) 3 3) xs := fun W n xs hb hn hl => OwnVec.lit hb hn hl.symm (by decide)
  clear r r1 hbk hsz hb1
  obtain ⟨Y, hY⟩ : ∃ Y, Hid (headerB m.hdr.author m.hdr.round m.hdr.batches m.hdr.parents = Y) := ⟨_, rfl⟩
  have hYl : Y.length ≤ 300 := by rw [← hY.out]; rw [headerB_len]; omega
  have hRY : Hid (R = [2, U1, U2] ++ Y) := by show _ = _; rw [hR.out, hY.out]
  go_wp2_with fail
  refine one_block _ _ _ (fun W => Calls Try.prog _ _ W _) (fun W2 hk2 hsz2 hbl2 => ?_)
  have ho := hlit W2 _ [2, U1, U2] hk2 (Nat.le_refl _) rfl
  have hz2 := hbl2.size
  refine (headerBytes_any _ _ _ _ m.hdr.batches m.hdr.parents _ (by omega) (by omega) (r2.bats.mono RDig.mono (vle_below hbl2)) (r2.pars.mono RDig.mono (vle_below hbl2)) (by omega)).mono ?_
  rintro e w2 ⟨v2, rfl, hb2, ho2⟩
  rw [hY.out] at ho2
  obtain ⟨A2, c2, rfl⟩ := ho2.form
  have ho3 := ho.kept hb2
  have hb3 := hbl2.trans (hb2.mono hz2)
  clear g0 g1 g3 g4 g5 g6 g7 g8 g9 g10 g11 g12 g13 g14 g15 g16 g17 g18
  go_wp2_with fail
  refine (joined_any _ _ [2, U1, U2] Y _ (ho3.reads (bs := 1) (by simp)) (ho2.reads (bs := 1) (by omega)) 140737488355328 (Nat.le_refl _) (by simp only [List.length_cons, List.length_nil]; omega)).mono ?_
  rintro e w3 ⟨v3, rfl, hb4, ho4⟩
  have hb5 := hb3.trans (hb4.mono hb3.size)
  go_wp2
  go_ret2
  exact ⟨_, rfl, hbl1.trans (hb5.mono hz1), by rw [hRY.out]; exact ho4.from_ (bs := 1) (by simp only [List.length_append, List.length_cons, List.length_nil]; omega) (Nat.le_trans hz1 hb3.size)⟩
end Go.Proofs.Ytedealljhmokoaa

namespace Go.Proofs.Ytedealljhmokoaa
open Go.ChangeShapes Go.WideShapes Go.ChangeAt Go.RowKit
set_option linter.unusedVariables false
set_option linter.unusedSimpArgs false
set_option maxHeartbeats 10000000 in
set_option maxRecDepth 100000 in
theorem encode_3 (m : Msg) (hk : m.kind = 3) (h0 : msgF m = 0) (vt vb vp vd cb cp cv : Value) (w : World) (r : RMsg w.cell? m vt vb vp vd cb cp cv) (hs : ∀ s ∈ m.bat.txs, s.size ≤ 140737488355328) :
    Calls Try.prog 11 #[.agg (msgC m vt vb vp vd cb cp cv)] w fun e w' => ∃ d, e = .returned (.tuple #[d, .int .i64 0]) ∧ Below w.heap.size w w' ∧ RBytes (View.from w'.cell? w.heap.size) d (msgB m) := by
  obtain ⟨⟨tA, tc, rfl⟩, ⟨bA, bc, rfl⟩, ⟨pA, pc, rfl⟩, ⟨dA, dc, rfl⟩, ⟨cA, cc, rfl⟩, ⟨qA, qc, rfl⟩, ⟨vA, vc, rfl⟩⟩ := r.forms
  have e1 := byteI_wrap m.src
  have e2 := byteI_wrap m.dst
  have hR : Hid (msgB m = [3, byteI m.src, byteI m.dst] ++ ((byteI m.slt.author :: wideB m.slt.round) ++ m.slt.digest)) := by show _ = _; simp [msgB, msgBody, hk, byteI]
  generalize byteI m.src = U1 at e1 hR
  generalize byteI m.dst = U2 at e2 hR
  generalize msgB m = R at hR ⊢
  obtain ⟨q0, q1, q2⟩ := slotF_zero (body_3 hk h0)
  have Q2 := Lib.hid q2
  clear q2
  have Hk := Lib.hid hk
  have H0 := Lib.hid h0
  clear hk h0
  unfold msgC
  go_enter Try.func11, Try.ntmps11
  go_upto_region 1 with fail
  refine one_block _ _ _ (fun W => Code.wp _ _ _ _ W) (fun W hbk hsz hbl => ?_)
  have r1 := r.mono (vle_below hbl)
  go_wp2_with (refine wpList_load_row rfl 35 _ rfl _ rfl _ _ _ _ hbk Try.underlying35 rfl (by kernel_rfl) ?_)
  refine (check_any m _ _ _ _ _ _ _ _ r1 hs).mono ?_
  rintro e w1 ⟨rfl, hb1⟩
  rw [H0.out]
  have hbl1 := hbl.trans (hb1.mono hbl.size)
  have hz1 := hbl1.size
  have hq := hbk.kept hb1
  have hlt1 := hq.lt
  have g0 := hq.cell 0; have g1 := hq.cell 1; have g2 := hq.cell 2; have g3 := hq.cell 3; have g4 := hq.cell 4; have g5 := hq.cell 5; have g6 := hq.cell 6; have g7 := hq.cell 7; have g8 := hq.cell 8; have g9 := hq.cell 9; have g10 := hq.cell 10; have g11 := hq.cell 11; have g12 := hq.cell 12; have g13 := hq.cell 13; have g14 := hq.cell 14; have g15 := hq.cell 15; have g16 := hq.cell 16; have g17 := hq.cell 17; have g18 := hq.cell 18
  simp at g0 g1 g2 g3 g4 g5 g6 g7 g8 g9 g10 g11 g12 g13 g14 g15 g16 g17 g18
  rw [Hk.out] at g2
  have r2 := r1.mono (vle_below hb1)
  have hlit : ∀ (W : World) (n : Nat) (xs : List UInt8), Blk W n 5 (xs.map encB).toArray → w1.heap.size ≤ n → xs.length = 3 → OwnB W w1.heap.size (.slice (some ⟨n, 0, none⟩) 3 3) xs := fun W n xs hb hn hl => OwnVec.lit hb hn hl.symm (by decide)
  clear r r1 hbk hsz hb1
  have hRl : Hid (R.length = 39) := by show _ = _; rw [hR.out, List.length_append, List.length_append, Q2.out]; rfl
  have e3 := byteI_wrap m.slt.author
  generalize byteI m.slt.author = U3 at e3 hR
  go_wp2_with fail
  refine one_block _ _ _ (fun W => (Code.region _ _ _).wp _ _ _ W) (fun W2 hk2 hsz2 hbl2 => ?_)
  have ho := hlit W2 _ [3, U1, U2] hk2 (Nat.le_refl _) rfl
  have hq2 := hq.kept hbl2
  have hz2 := hbl2.size
  clear g0 g1 g3 g4 g5 g6 g7 g8 g9 g10 g11 g12 g13 g14 g15 g16 g17 g18
  refine wp_region_pl0 (fun w' => Below W2.heap.size W2 w') (fun w' => Blk w' w.heap.size 35 (msgC m (.slice tA m.bat.txs.length tc) (.slice bA m.hdr.batches.length bc) (.slice pA m.hdr.parents.length pc) (.slice dA m.slt.digest.length dc) (.slice cA m.crt.hdr.batches.length cc) (.slice qA m.crt.hdr.parents.length qc) (.slice vA m.crt.voters.length vc))) [15] (.q 0 (.q 1 (.q 2 (.q 3 (.q 4 (.q 7 (.q 8 (.q 9 (.q 11 (.q 12 (.q 13 (.l 5 (.l 6 (.l 10 (.l 14 (.qc 15 .nil)))))))))))))))) (by kernel_rfl) (by kernel_rfl) (fun _ _ d _ _ h => by cases d <;> exact h) rfl (by kernel_rfl) ?_ ?_
  · exact ⟨below_drew _, hq2⟩
  intro W1 hS0 hS
  have ho := ho.kept hS0
  have hbl2 := hbl2.trans (hS0.mono hz2)
  have hz2 := hbl2.size
  clear hS0 hk2 hsz2
  repeat (first
    | (refine pl_q (by assumption) rfl rfl ?_; apply Exists.intro; refine ⟨fun w' hS => ?_, ?_⟩; (· (have h10 := hS.cell 10; have h11 := hS.cell 11; have h12 := hS.cell 12; simp [msgC] at h10 h11 h12; go_simp; exact rfl)); simp only [List.getElem_toArray, List.getElem_cons_zero, List.getElem_cons_succ, Act.put, List.setIfInBounds_toArray, List.set_cons_zero, List.set_cons_succ])
    | (refine pl_qc rfl rfl ?_; apply Exists.intro; refine ⟨fun w' _ => ?_, ?_⟩; (· (go_simp; exact rfl)); simp only [List.getElem_toArray, List.getElem_cons_zero, List.getElem_cons_succ, Act.put, List.setIfInBounds_toArray, List.set_cons_zero, List.set_cons_succ])
    | (refine pl_skip (by assumption) rfl rfl ?_; simp only [List.getElem_toArray, List.getElem_cons_zero, List.getElem_cons_succ, Act.put, List.setIfInBounds_toArray, List.set_cons_zero, List.set_cons_succ])
    | (refine pl_skipl (by assumption) rfl rfl ?_; simp only [List.getElem_toArray, List.getElem_cons_zero, List.getElem_cons_succ, Act.put, List.setIfInBounds_toArray, List.set_cons_zero, List.set_cons_succ]))
  first
    | refine pl_do rfl rfl (fun K hK => ?_)
    | refine op_do rfl rfl (fun K hK => ?_)
  try simp only [List.getElem_toArray, List.getElem_cons_zero, List.getElem_cons_succ]
  go_simp
  refine hK.out _ _ (hS.alloc _) (fun hS => ?_)
  clear hK K
  try simp only [List.getElem_toArray, List.getElem_cons_zero, List.getElem_cons_succ, Act.put, List.setIfInBounds_toArray, List.set_cons_zero, List.set_cons_succ]
  repeat (first
    | (refine pl_q (by assumption) rfl rfl ?_; apply Exists.intro; refine ⟨fun w' hS => ?_, ?_⟩; (· (have h10 := hS.cell 10; have h11 := hS.cell 11; have h12 := hS.cell 12; simp [msgC] at h10 h11 h12; go_simp; exact rfl)); simp only [List.getElem_toArray, List.getElem_cons_zero, List.getElem_cons_succ, Act.put, List.setIfInBounds_toArray, List.set_cons_zero, List.set_cons_succ])
    | (refine pl_qc rfl rfl ?_; apply Exists.intro; refine ⟨fun w' _ => ?_, ?_⟩; (· (go_simp; exact rfl)); simp only [List.getElem_toArray, List.getElem_cons_zero, List.getElem_cons_succ, Act.put, List.setIfInBounds_toArray, List.set_cons_zero, List.set_cons_succ])
    | (refine pl_skip (by assumption) rfl rfl ?_; simp only [List.getElem_toArray, List.getElem_cons_zero, List.getElem_cons_succ, Act.put, List.setIfInBounds_toArray, List.set_cons_zero, List.set_cons_succ])
    | (refine pl_skipl (by assumption) rfl rfl ?_; simp only [List.getElem_toArray, List.getElem_cons_zero, List.getElem_cons_succ, Act.put, List.setIfInBounds_toArray, List.set_cons_zero, List.set_cons_succ]))
  first
    | refine pl_do rfl rfl (fun K hK => ?_)
    | refine op_do rfl rfl (fun K hK => ?_)
  try simp only [List.getElem_toArray, List.getElem_cons_zero, List.getElem_cons_succ]
  have hrow := byte_row W1 U3
  have hoa := ho.alloc (.cells #[.int .u8 U3.toNat] 5)
  refine wp_append_by (n := 140737488355328) (W := w1) (xs := [3, U1, U2]) (ys := [U3]) (v := .slice (some ⟨w1.heap.size, 0, none⟩) 3 3) (vy := .slice (some ⟨W1.heap.size, 0, none⟩) 1 1) elemByte _ _ rfl rfl hoa (hbl2.alloc hz2 _) (le_alloc _ hz2) rfl hrow (by decide) (by simp) ?_
  intro v1 w2 o1 b1 gg1
  have k0 := keeps_grown hoa gg1
  have z1 := b1.size
  clear gg1 hoa hrow
  refine hK.out _ _ (k0 _ _ _ (by decide) hS) (fun hS => ?_)
  clear hK K
  try simp only [List.getElem_toArray, List.getElem_cons_zero, List.getElem_cons_succ, Act.put, List.setIfInBounds_toArray, List.set_cons_zero, List.set_cons_succ]
  repeat (first
    | (refine pl_q (by assumption) rfl rfl ?_; apply Exists.intro; refine ⟨fun w' hS => ?_, ?_⟩; (· (have h10 := hS.cell 10; have h11 := hS.cell 11; have h12 := hS.cell 12; simp [msgC] at h10 h11 h12; go_simp; exact rfl)); simp only [List.getElem_toArray, List.getElem_cons_zero, List.getElem_cons_succ, Act.put, List.setIfInBounds_toArray, List.set_cons_zero, List.set_cons_succ])
    | (refine pl_qc rfl rfl ?_; apply Exists.intro; refine ⟨fun w' _ => ?_, ?_⟩; (· (go_simp; exact rfl)); simp only [List.getElem_toArray, List.getElem_cons_zero, List.getElem_cons_succ, Act.put, List.setIfInBounds_toArray, List.set_cons_zero, List.set_cons_succ])
    | (refine pl_skip (by assumption) rfl rfl ?_; simp only [List.getElem_toArray, List.getElem_cons_zero, List.getElem_cons_succ, Act.put, List.setIfInBounds_toArray, List.set_cons_zero, List.set_cons_succ])
    | (refine pl_skipl (by assumption) rfl rfl ?_; simp only [List.getElem_toArray, List.getElem_cons_zero, List.getElem_cons_succ, Act.put, List.setIfInBounds_toArray, List.set_cons_zero, List.set_cons_succ]))
  first
    | refine pl_do rfl rfl (fun K hK => ?_)
    | refine op_do rfl rfl (fun K hK => ?_)
  try simp only [List.getElem_toArray, List.getElem_cons_zero, List.getElem_cons_succ]
  go_simp
  refine (wide_any v1 m.slt.round ([3, U1, U2] ++ [U3]) _ _ o1 z1 (by omega) (by omega) (by simp)).mono ?_
  rintro e w3 ⟨v2, rfl, b2, k2, o2, _⟩
  have b2 := b1.trans b2
  have z2 := b2.size
  clear o1 b1
  refine hK.out _ _ (k2 _ _ _ (by decide) hS) (fun hS => ?_)
  clear hK K
  try simp only [List.getElem_toArray, List.getElem_cons_zero, List.getElem_cons_succ, Act.put, List.setIfInBounds_toArray, List.set_cons_zero, List.set_cons_succ]
  repeat (first
    | (refine pl_q (by assumption) rfl rfl ?_; apply Exists.intro; refine ⟨fun w' hS => ?_, ?_⟩; (· (have h10 := hS.cell 10; have h11 := hS.cell 11; have h12 := hS.cell 12; simp [msgC] at h10 h11 h12; go_simp; exact rfl)); simp only [List.getElem_toArray, List.getElem_cons_zero, List.getElem_cons_succ, Act.put, List.setIfInBounds_toArray, List.set_cons_zero, List.set_cons_succ])
    | (refine pl_qc rfl rfl ?_; apply Exists.intro; refine ⟨fun w' _ => ?_, ?_⟩; (· (go_simp; exact rfl)); simp only [List.getElem_toArray, List.getElem_cons_zero, List.getElem_cons_succ, Act.put, List.setIfInBounds_toArray, List.set_cons_zero, List.set_cons_succ])
    | (refine pl_skip (by assumption) rfl rfl ?_; simp only [List.getElem_toArray, List.getElem_cons_zero, List.getElem_cons_succ, Act.put, List.setIfInBounds_toArray, List.set_cons_zero, List.set_cons_succ])
    | (refine pl_skipl (by assumption) rfl rfl ?_; simp only [List.getElem_toArray, List.getElem_cons_zero, List.getElem_cons_succ, Act.put, List.setIfInBounds_toArray, List.set_cons_zero, List.set_cons_succ]))
  first
    | refine pl_do rfl rfl (fun K hK => ?_)
    | refine op_do rfl rfl (fun K hK => ?_)
  try simp only [List.getElem_toArray, List.getElem_cons_zero, List.getElem_cons_succ]
  refine wp_append_by (n := 140737488355328) (W := w1) (xs := [3, U1, U2] ++ [U3] ++ wideB m.slt.round) (ys := m.slt.digest) (v := v2) (vy := .slice dA m.slt.digest.length dc) elemByte _ _ rfl rfl o2 b2 z2 rfl (r2.dig.mono (vle_below b2)) (by decide) (by rw [Q2.out]; simp [wideB]) ?_
  intro v3 w4 o3 b3 gg3
  have k3 := keeps_grown o2 gg3
  clear gg3
  refine hK.out _ _ (k3 _ _ _ (by decide) hS) (fun hS => ?_)
  clear hK K
  try simp only [List.getElem_toArray, List.getElem_cons_zero, List.getElem_cons_succ, Act.put, List.setIfInBounds_toArray, List.set_cons_zero, List.set_cons_succ]
  repeat (first
    | (refine pl_q (by assumption) rfl rfl ?_; apply Exists.intro; refine ⟨fun w' hS => ?_, ?_⟩; (· (skip; go_simp; exact rfl)); simp only [List.getElem_toArray, List.getElem_cons_zero, List.getElem_cons_succ, Act.put, List.setIfInBounds_toArray, List.set_cons_zero, List.set_cons_succ])
    | (refine pl_qc rfl rfl ?_; apply Exists.intro; refine ⟨fun w' _ => ?_, ?_⟩; (· (go_simp; exact rfl)); simp only [List.getElem_toArray, List.getElem_cons_zero, List.getElem_cons_succ, Act.put, List.setIfInBounds_toArray, List.set_cons_zero, List.set_cons_succ])
    | (refine pl_skip (by assumption) rfl rfl ?_; simp only [List.getElem_toArray, List.getElem_cons_zero, List.getElem_cons_succ, Act.put, List.setIfInBounds_toArray, List.set_cons_zero, List.set_cons_succ])
    | (refine pl_skipl (by assumption) rfl rfl ?_; simp only [List.getElem_toArray, List.getElem_cons_zero, List.getElem_cons_succ, Act.put, List.setIfInBounds_toArray, List.set_cons_zero, List.set_cons_succ]))
  refine pl_nil ?_
  have ho3 : OwnB w4 w1.heap.size v3 ([3, U1, U2] ++ ((U3 :: wideB m.slt.round) ++ m.slt.digest)) := by simpa using o3
  clear o3 o2
  go_wp2
  go_ret2
  exact ⟨_, rfl, hbl1.trans (b3.mono hz1), by rw [hR.out]; exact (ho3).from_ (bs := 1) (by rw [← hR.out]; rw [hRl.out]; omega) hz1⟩
end Go.Proofs.Ytedealljhmokoaa

namespace Go.Proofs.Ytedealljhmokoaa
open Go.ChangeShapes Go.WideShapes Go.ChangeAt Go.RowKit
set_option linter.unusedVariables false
set_option linter.unusedSimpArgs false
set_option maxHeartbeats 10000000 in
set_option maxRecDepth 100000 in
theorem msgBytes_3 (m : Msg) (hk : m.kind = 3) (h0 : msgF m = 0) (vt vb vp vd cb cp cv : Value) (w : World) (r : RMsg w.cell? m vt vb vp vd cb cp cv) (hs : ∀ s ∈ m.bat.txs, s.size ≤ 140737488355328) :
    Calls Try.prog 12 #[.agg (msgC m vt vb vp vd cb cp cv)] w fun e w' => ∃ d, e = .returned (.tuple #[d, .int .i64 0]) ∧ Below w.heap.size w w' ∧ RBytes (View.from w'.cell? w.heap.size) d (msgB m) := by
  obtain ⟨⟨tA, tc, rfl⟩, ⟨bA, bc, rfl⟩, ⟨pA, pc, rfl⟩, ⟨dA, dc, rfl⟩, ⟨cA, cc, rfl⟩, ⟨qA, qc, rfl⟩, ⟨vA, vc, rfl⟩⟩ := r.forms
  have e1 := byteI_wrap m.src
  have e2 := byteI_wrap m.dst
  have hR : Hid (msgB m = [3, byteI m.src, byteI m.dst] ++ ((byteI m.slt.author :: wideB m.slt.round) ++ m.slt.digest)) := by show _ = _; simp [msgB, msgBody, hk, byteI]
  generalize byteI m.src = U1 at e1 hR
  generalize byteI m.dst = U2 at e2 hR
  generalize msgB m = R at hR ⊢
  obtain ⟨q0, q1, q2⟩ := slotF_zero (body_3 hk h0)
  have Q2 := Lib.hid q2
  clear q2
  have Hk := Lib.hid hk
  have H0 := Lib.hid h0
  clear hk h0
  unfold msgC
  go_enter Try.func12, Try.ntmps12
  go_upto_region 1 with fail
  refine one_block _ _ _ (fun W => Code.wp _ _ _ _ W) (fun W hbk hsz hbl => ?_)
  have r1 := r.mono (vle_below hbl)
  go_wp2_with (refine wpList_load_row rfl 35 _ rfl _ rfl _ _ _ _ hbk Try.underlying35 rfl (by kernel_rfl) ?_)
  refine (messageFault_any m _ _ _ _ _ _ _ _ r1 hs).mono ?_
  rintro e w1 ⟨rfl, hb1⟩
  rw [H0.out]
  have hbl1 := hbl.trans (hb1.mono hbl.size)
  have hz1 := hbl1.size
  have hq := hbk.kept hb1
  have hlt1 := hq.lt
  have g0 := hq.cell 0; have g1 := hq.cell 1; have g2 := hq.cell 2; have g3 := hq.cell 3; have g4 := hq.cell 4; have g5 := hq.cell 5; have g6 := hq.cell 6; have g7 := hq.cell 7; have g8 := hq.cell 8; have g9 := hq.cell 9; have g10 := hq.cell 10; have g11 := hq.cell 11; have g12 := hq.cell 12; have g13 := hq.cell 13; have g14 := hq.cell 14; have g15 := hq.cell 15; have g16 := hq.cell 16; have g17 := hq.cell 17; have g18 := hq.cell 18
  simp at g0 g1 g2 g3 g4 g5 g6 g7 g8 g9 g10 g11 g12 g13 g14 g15 g16 g17 g18
  rw [Hk.out] at g2
  have r2 := r1.mono (vle_below hb1)
  have hlit : ∀ (W : World) (n : Nat) (xs : List UInt8), Blk W n 5 (xs.map encB).toArray → w1.heap.size ≤ n → xs.length = 3 → OwnB W w1.heap.size (.slice (some ⟨n, 0, none⟩) 3 3) xs := fun W n xs hb hn hl => OwnVec.lit hb hn hl.symm (by decide)
  clear r r1 hbk hsz hb1
  have e3 := byteI_wrap m.slt.author
  generalize byteI m.slt.author = U3 at e3 hR
  obtain ⟨V, hV⟩ : ∃ V, Hid (wideB m.slt.round = V) := ⟨_, rfl⟩
  have hVl : V.length ≤ 3 := by rw [← hV.out]; simp [wideB]
  obtain ⟨Y, hY⟩ : ∃ Y, Hid ([3, U1, U2, U3] = Y) := ⟨_, rfl⟩
  have hYl : Y.length ≤ 4 := by rw [← hY.out]; simp
  obtain ⟨Z, hZ⟩ : ∃ Z, Hid (Y ++ V = Z) := ⟨_, rfl⟩
  have hZl : Z.length ≤ 7 := by rw [← hZ.out, List.length_append]; omega
  have hdl : m.slt.digest.length ≤ 32 := by rw [Q2.out]; decide
  have hRY : Hid (R = Z ++ m.slt.digest) := by show _ = _; rw [hR.out, ← hZ.out, ← hY.out, ← hV.out]; simp
  go_upto_region 11 with fail
  refine one_block _ _ _ (fun W => Code.wp _ _ _ _ W) (fun W2 hk2 hsz2 hbl2 => ?_)
  have ho := hlit W2 _ [3, U1, U2] hk2 (Nat.le_refl _) rfl
  have hz2 := hbl2.size
  have hq2 := hq.kept hbl2
  clear g0 g1 g3 g4 g5 g6 g7 g8 g9 g10 g11 g12 g13 g14 g15 g16 g17 g18
  clear hsz2 hk2
  have a10 := (hq2).cell 10
  simp at a10
  go_wp2_with (at_builtin; first
    | (refine wpList_append_vec (n := 140737488355328) (W := w1) (xs := [3, U1, U2]) (ys := [U3]) elemByte encB_one _ _ rfl rfl rfl (ho.alloc _) (hbl2.alloc hz2 _) (le_alloc _ hz2) rfl (byBlk (xs := [U3]) (Blk.new _ _ _) (by simp) (by simp)) (by decide) (by simp) (by simp) ?_))
  intro v1 w2 o1 b1 gg1
  have hq3 := (keeps_alloc W2 (.cells #[encB U3] 5)).trans (keeps_grown (ho.alloc _) gg1) _ _ _ (by decide) hq2
  rw [hY.out] at o1
  obtain ⟨A1, c1, rfl⟩ := o1.form
  have z1 := b1.size
  clear gg1 ho a10
  have a11 := (hq3).cell 11
  simp at a11
  go_wp2_with fail
  refine (three_any m.slt.round _ (by omega) (by omega)).mono ?_
  rintro e w3 ⟨v3, rfl, b3, o3⟩
  rw [hV.out] at o3
  obtain ⟨A3, c3, rfl⟩ := o3.form
  have o1' := o1.kept b3
  have b3' := b1.trans (b3.mono z1)
  have hq4 := hq3.kept b3
  clear a11
  go_wp2_with fail
  refine (joined_any _ _ Y V _ (o1'.reads (bs := 1) (by omega)) (o3.reads (bs := 1) (by omega)) 140737488355328 (Nat.le_refl _) (by omega)).mono ?_
  rintro e w4 ⟨v4, rfl, b4, o4⟩
  rw [hZ.out] at o4
  obtain ⟨A4, c4, rfl⟩ := o4.form
  have b4' := b3'.trans (b4.mono b3'.size)
  have hq5 := hq4.kept b4
  have a12 := (hq5).cell 12
  simp at a12
  go_wp2_with fail
  refine (joined_any _ _ Z m.slt.digest _ (o4.reads (bs := 1) (by omega)) (r2.dig.mono (vle_below b4')) 140737488355328 (Nat.le_refl _) (by omega)).mono ?_
  rintro e w5 ⟨v5, rfl, b5, ho4⟩
  have hb3 := b4'
  have hb5 := hb3.trans (b5.mono hb3.size)
  clear a12
  go_wp2
  go_ret2
  exact ⟨_, rfl, hbl1.trans (hb5.mono hz1), by rw [hRY.out]; exact ho4.from_ (bs := 1) (by rw [List.length_append]; omega) (Nat.le_trans hz1 hb3.size)⟩
end Go.Proofs.Ytedealljhmokoaa

namespace Go.Proofs.Ytedealljhmokoaa
open Go.ChangeShapes Go.WideShapes Go.ChangeAt Go.RowKit
set_option linter.unusedVariables false
set_option linter.unusedSimpArgs false
set_option maxHeartbeats 10000000 in
set_option maxRecDepth 100000 in
theorem encode_4 (m : Msg) (hk : m.kind = 4) (h0 : msgF m = 0) (vt vb vp vd cb cp cv : Value) (w : World) (r : RMsg w.cell? m vt vb vp vd cb cp cv) (hs : ∀ s ∈ m.bat.txs, s.size ≤ 140737488355328) :
    Calls Try.prog 11 #[.agg (msgC m vt vb vp vd cb cp cv)] w fun e w' => ∃ d, e = .returned (.tuple #[d, .int .i64 0]) ∧ Below w.heap.size w w' ∧ RBytes (View.from w'.cell? w.heap.size) d (msgB m) := by
  obtain ⟨⟨tA, tc, rfl⟩, ⟨bA, bc, rfl⟩, ⟨pA, pc, rfl⟩, ⟨dA, dc, rfl⟩, ⟨cA, cc, rfl⟩, ⟨qA, qc, rfl⟩, ⟨vA, vc, rfl⟩⟩ := r.forms
  have e1 := byteI_wrap m.src
  have e2 := byteI_wrap m.dst
  have hR : Hid (msgB m = [4, byteI m.src, byteI m.dst] ++ (headerB m.crt.hdr.author m.crt.hdr.round m.crt.hdr.batches m.crt.hdr.parents ++ (byteI m.crt.voters.length :: m.crt.voters.map byteI))) := by show _ = _; simp [msgB, msgBody, hk, byteI]
  generalize byteI m.src = U1 at e1 hR
  generalize byteI m.dst = U2 at e2 hR
  generalize msgB m = R at hR ⊢
  obtain ⟨q0, q1, q2, q3, q4, q5, q6⟩ := certF_zero (body_4 hk h0)
  have Hk := Lib.hid hk
  have H0 := Lib.hid h0
  clear hk h0
  unfold msgC
  go_enter Try.func11, Try.ntmps11
  go_upto_region 1 with fail
  refine one_block _ _ _ (fun W => Code.wp _ _ _ _ W) (fun W hbk hsz hbl => ?_)
  have r1 := r.mono (vle_below hbl)
  go_wp2_with (refine wpList_load_row rfl 35 _ rfl _ rfl _ _ _ _ hbk Try.underlying35 rfl (by kernel_rfl) ?_)
  refine (check_any m _ _ _ _ _ _ _ _ r1 hs).mono ?_
  rintro e w1 ⟨rfl, hb1⟩
  rw [H0.out]
  have hbl1 := hbl.trans (hb1.mono hbl.size)
  have hz1 := hbl1.size
  have hq := hbk.kept hb1
  have hlt1 := hq.lt
  have g0 := hq.cell 0; have g1 := hq.cell 1; have g2 := hq.cell 2; have g3 := hq.cell 3; have g4 := hq.cell 4; have g5 := hq.cell 5; have g6 := hq.cell 6; have g7 := hq.cell 7; have g8 := hq.cell 8; have g9 := hq.cell 9; have g10 := hq.cell 10; have g11 := hq.cell 11; have g12 := hq.cell 12; have g13 := hq.cell 13; have g14 := hq.cell 14; have g15 := hq.cell 15; have g16 := hq.cell 16; have g17 := hq.cell 17; have g18 := hq.cell 18
  simp at g0 g1 g2 g3 g4 g5 g6 g7 g8 g9 g10 g11 g12 g13 g14 g15 g16 g17 g18
  rw [Hk.out] at g2
  have r2 := r1.mono (vle_below hb1)
  have hlit : ∀ (W : World) (n : Nat) (xs : List UInt8), Blk W n 5 (xs.map encB).toArray → w1.heap.size ≤ n → xs.length = 3 → OwnB W w1.heap.size (.slice (some ⟨n, 0, none⟩) 3 3) xs := fun W n xs hb hn hl => OwnVec.lit hb hn hl.symm (by decide)
  clear r r1 hbk hsz hb1
  have hRl : Hid (R.length = 4 + (6 + m.crt.hdr.batches.flatten.length + m.crt.hdr.parents.flatten.length) + m.crt.voters.length) := by show _ = _; rw [hR.out]; simp only [List.length_append, List.length_cons, List.length_nil, List.length_map, headerB_len]; omega
  have e3 := byteI_wrap m.crt.voters.length
  obtain ⟨H, hH⟩ : ∃ H, Hid (headerB m.crt.hdr.author m.crt.hdr.round m.crt.hdr.batches m.crt.hdr.parents = H) := ⟨_, rfl⟩
  have hHl : H.length ≤ 240 := by rw [← hH.out, headerB_len]; omega
  rw [hH.out] at hR
  generalize byteI m.crt.voters.length = U3 at e3 hR
  obtain ⟨Y, hY⟩ : ∃ Y, Hid ([4, U1, U2] ++ H ++ [U3] = Y) := ⟨_, rfl⟩
  have hYl : Y.length ≤ 300 := by rw [← hY.out]; simp only [List.length_append, List.length_cons, List.length_nil]; omega
  have hRY : Hid (R = Y ++ m.crt.voters.map byteI) := by show _ = _; rw [hR.out, ← hY.out]; simp
  go_upto_region 13 with fail
  refine one_block _ _ _ (fun W => Code.wp _ _ _ _ W) (fun W2 hk2 hsz2 hbl2 => ?_)
  have ho := hlit W2 _ [4, U1, U2] hk2 (Nat.le_refl _) rfl
  have hq2 := hq.kept hbl2
  have hz2 := hbl2.size
  clear g0 g1 g3 g4 g5 g6 g7 g8 g9 g10 g11 g12 g13 g14 g15 g16 g17 g18
  clear hsz2
  go_cut [5] (fun v w' => Blk w' w.heap.size 35 (msgC m (.slice tA m.bat.txs.length tc) (.slice bA m.hdr.batches.length bc) (.slice pA m.hdr.parents.length pc) (.slice dA m.slt.digest.length dc) (.slice cA m.crt.hdr.batches.length cc) (.slice qA m.crt.hdr.parents.length qc) (.slice vA m.crt.voters.length vc)) ∧ OwnB w' w1.heap.size v Y ∧ Below w1.heap.size w1 w')
  case first =>
    refine wp_region_pl0 (fun w' => Below W2.heap.size W2 w') (fun w' => Blk w' w.heap.size 35 (msgC m (.slice tA m.bat.txs.length tc) (.slice bA m.hdr.batches.length bc) (.slice pA m.hdr.parents.length pc) (.slice dA m.slt.digest.length dc) (.slice cA m.crt.hdr.batches.length cc) (.slice qA m.crt.hdr.parents.length qc) (.slice vA m.crt.voters.length vc))) [12] (.q 0 (.q 1 (.q 2 (.q 3 (.q 5 (.q 6 (.q 7 (.q 8 (.q 9 (.alt 4 (.l 10 (.l 11 (.qc 12 .nil))) 10 (.l 4 (.l 11 (.qc 12 .nil))))))))))))) (by kernel_rfl) (by kernel_rfl) (fun _ _ d _ _ h => by cases d <;> exact h) rfl (by kernel_rfl) ?_ ?_
    · exact ⟨below_drew _, hq2⟩
    intro W1 hS0 hS
    have ho := ho.kept hS0
    have hbl2 := hbl2.trans (hS0.mono hz2)
    have hz2 := hbl2.size
    clear hS0 hk2 hq2
    repeat (first
      | (refine pl_q (by assumption) rfl rfl ?_; apply Exists.intro; refine ⟨fun w' hS => ?_, ?_⟩; (· (have h13 := hS.cell 13; have h14 := hS.cell 14; have h15 := hS.cell 15; have h16 := hS.cell 16; have h17 := hS.cell 17; simp [msgC] at h13 h14 h15 h16 h17; go_simp; exact rfl)); simp only [List.getElem_toArray, List.getElem_cons_zero, List.getElem_cons_succ, Act.put, List.setIfInBounds_toArray, List.set_cons_zero, List.set_cons_succ])
      | (refine pl_qc rfl rfl ?_; apply Exists.intro; refine ⟨fun w' _ => ?_, ?_⟩; (· (go_simp; exact rfl)); simp only [List.getElem_toArray, List.getElem_cons_zero, List.getElem_cons_succ, Act.put, List.setIfInBounds_toArray, List.set_cons_zero, List.set_cons_succ])
      | (refine pl_skip (by assumption) rfl rfl ?_; simp only [List.getElem_toArray, List.getElem_cons_zero, List.getElem_cons_succ, Act.put, List.setIfInBounds_toArray, List.set_cons_zero, List.set_cons_succ])
      | (refine pl_skipl (by assumption) rfl rfl ?_; simp only [List.getElem_toArray, List.getElem_cons_zero, List.getElem_cons_succ, Act.put, List.setIfInBounds_toArray, List.set_cons_zero, List.set_cons_succ]))
    refine pl_alt ?_ ?_
    · first
        | refine pl_do rfl rfl (fun K hK => ?_)
        | refine op_do rfl rfl (fun K hK => ?_)
      try simp only [List.getElem_toArray, List.getElem_cons_zero, List.getElem_cons_succ]
      go_simp
      refine (putHeader_any w1 _ [4, U1, U2] _ _ _ _ m.crt.hdr.batches m.crt.hdr.parents _ hbl2 ho (by omega) (by omega) r2.cbats r2.cpars (by simp only [List.length_cons, List.length_nil]; omega)).mono ?_
      rintro e w3 ⟨v2, rfl, b2, k2, o2⟩
      rw [hH.out] at o2
      have z2 := b2.size
      refine hK.out _ _ (k2 _ _ _ (by decide) hS) (fun hS => ?_)
      clear hK K
      try simp only [List.getElem_toArray, List.getElem_cons_zero, List.getElem_cons_succ, Act.put, List.setIfInBounds_toArray, List.set_cons_zero, List.set_cons_succ]
      repeat (first
        | (refine pl_q (by assumption) rfl rfl ?_; apply Exists.intro; refine ⟨fun w' hS => ?_, ?_⟩; (· (have h13 := hS.cell 13; have h14 := hS.cell 14; have h15 := hS.cell 15; have h16 := hS.cell 16; have h17 := hS.cell 17; simp [msgC] at h13 h14 h15 h16 h17; go_simp; exact rfl)); simp only [List.getElem_toArray, List.getElem_cons_zero, List.getElem_cons_succ, Act.put, List.setIfInBounds_toArray, List.set_cons_zero, List.set_cons_succ])
        | (refine pl_qc rfl rfl ?_; apply Exists.intro; refine ⟨fun w' _ => ?_, ?_⟩; (· (go_simp; exact rfl)); simp only [List.getElem_toArray, List.getElem_cons_zero, List.getElem_cons_succ, Act.put, List.setIfInBounds_toArray, List.set_cons_zero, List.set_cons_succ])
        | (refine pl_skip (by assumption) rfl rfl ?_; simp only [List.getElem_toArray, List.getElem_cons_zero, List.getElem_cons_succ, Act.put, List.setIfInBounds_toArray, List.set_cons_zero, List.set_cons_succ])
        | (refine pl_skipl (by assumption) rfl rfl ?_; simp only [List.getElem_toArray, List.getElem_cons_zero, List.getElem_cons_succ, Act.put, List.setIfInBounds_toArray, List.set_cons_zero, List.set_cons_succ]))
      first
        | refine pl_do rfl rfl (fun K hK => ?_)
        | refine op_do rfl rfl (fun K hK => ?_)
      try simp only [List.getElem_toArray, List.getElem_cons_zero, List.getElem_cons_succ]
      go_simp
      refine byte_alloc _ U3 (fun W => K _ W) (fun w4 cA z4 b4 => ?_)
      refine hK.out _ _ (hS.kept b4) (fun hS => ?_)
      clear hK K
      try simp only [List.getElem_toArray, List.getElem_cons_zero, List.getElem_cons_succ, Act.put, List.setIfInBounds_toArray, List.set_cons_zero, List.set_cons_succ]
      repeat (first
        | (refine pl_q (by assumption) rfl rfl ?_; apply Exists.intro; refine ⟨fun w' hS => ?_, ?_⟩; (· (have h13 := hS.cell 13; have h14 := hS.cell 14; have h15 := hS.cell 15; have h16 := hS.cell 16; have h17 := hS.cell 17; simp [msgC] at h13 h14 h15 h16 h17; go_simp; exact rfl)); simp only [List.getElem_toArray, List.getElem_cons_zero, List.getElem_cons_succ, Act.put, List.setIfInBounds_toArray, List.set_cons_zero, List.set_cons_succ])
        | (refine pl_qc rfl rfl ?_; apply Exists.intro; refine ⟨fun w' _ => ?_, ?_⟩; (· (go_simp; exact rfl)); simp only [List.getElem_toArray, List.getElem_cons_zero, List.getElem_cons_succ, Act.put, List.setIfInBounds_toArray, List.set_cons_zero, List.set_cons_succ])
        | (refine pl_skip (by assumption) rfl rfl ?_; simp only [List.getElem_toArray, List.getElem_cons_zero, List.getElem_cons_succ, Act.put, List.setIfInBounds_toArray, List.set_cons_zero, List.set_cons_succ])
        | (refine pl_skipl (by assumption) rfl rfl ?_; simp only [List.getElem_toArray, List.getElem_cons_zero, List.getElem_cons_succ, Act.put, List.setIfInBounds_toArray, List.set_cons_zero, List.set_cons_succ]))
      first
        | refine pl_do rfl rfl (fun K hK => ?_)
        | refine op_do rfl rfl (fun K hK => ?_)
      try simp only [List.getElem_toArray, List.getElem_cons_zero, List.getElem_cons_succ]
      refine wp_append_b1 (n := 140737488355328) (W := w1) (xs := [4, U1, U2] ++ H) U3 elemByte _ _ rfl rfl (o2.kept b4) (b2.trans (b4.mono z2)) (Nat.le_trans z2 b4.size) rfl cA (by decide) (by simp only [List.length_append, List.length_cons, List.length_nil]; omega) (fun v3 w5 o3 b3 g3 l3 => ?_)
      refine hK.out _ _ (keeps_grown (o2.kept b4) g3 _ _ _ (by decide) hS) (fun hS => ?_)
      clear hK K
      try simp only [List.getElem_toArray, List.getElem_cons_zero, List.getElem_cons_succ, Act.put, List.setIfInBounds_toArray, List.set_cons_zero, List.set_cons_succ]
      repeat (first
        | (refine pl_q (by assumption) rfl rfl ?_; apply Exists.intro; refine ⟨fun w' hS => ?_, ?_⟩; (· (skip; go_simp; exact rfl)); simp only [List.getElem_toArray, List.getElem_cons_zero, List.getElem_cons_succ, Act.put, List.setIfInBounds_toArray, List.set_cons_zero, List.set_cons_succ])
        | (refine pl_qc rfl rfl ?_; apply Exists.intro; refine ⟨fun w' _ => ?_, ?_⟩; (· (go_simp; exact rfl)); simp only [List.getElem_toArray, List.getElem_cons_zero, List.getElem_cons_succ, Act.put, List.setIfInBounds_toArray, List.set_cons_zero, List.set_cons_succ])
        | (refine pl_skip (by assumption) rfl rfl ?_; simp only [List.getElem_toArray, List.getElem_cons_zero, List.getElem_cons_succ, Act.put, List.setIfInBounds_toArray, List.set_cons_zero, List.set_cons_succ])
        | (refine pl_skipl (by assumption) rfl rfl ?_; simp only [List.getElem_toArray, List.getElem_cons_zero, List.getElem_cons_succ, Act.put, List.setIfInBounds_toArray, List.set_cons_zero, List.set_cons_succ]))
      refine pl_nil ?_
      go_wp2
      go_meet
      exact ⟨hS, by rw [← hY.out]; exact o3, b3⟩
    · first
        | refine pl_do rfl rfl (fun K hK => ?_)
        | refine op_do rfl rfl (fun K hK => ?_)
      try simp only [List.getElem_toArray, List.getElem_cons_zero, List.getElem_cons_succ]
      go_simp
      refine byte_alloc _ U3 (fun W => K _ W) (fun w3 cA z3 b3 => ?_)
      refine hK.out _ _ (hS.kept b3) (fun hS => ?_)
      clear hK K
      try simp only [List.getElem_toArray, List.getElem_cons_zero, List.getElem_cons_succ, Act.put, List.setIfInBounds_toArray, List.set_cons_zero, List.set_cons_succ]
      repeat (first
        | (refine pl_q (by assumption) rfl rfl ?_; apply Exists.intro; refine ⟨fun w' hS => ?_, ?_⟩; (· (have h13 := hS.cell 13; have h14 := hS.cell 14; have h15 := hS.cell 15; have h16 := hS.cell 16; have h17 := hS.cell 17; simp [msgC] at h13 h14 h15 h16 h17; go_simp; exact rfl)); simp only [List.getElem_toArray, List.getElem_cons_zero, List.getElem_cons_succ, Act.put, List.setIfInBounds_toArray, List.set_cons_zero, List.set_cons_succ])
        | (refine pl_qc rfl rfl ?_; apply Exists.intro; refine ⟨fun w' _ => ?_, ?_⟩; (· (go_simp; exact rfl)); simp only [List.getElem_toArray, List.getElem_cons_zero, List.getElem_cons_succ, Act.put, List.setIfInBounds_toArray, List.set_cons_zero, List.set_cons_succ])
        | (refine pl_skip (by assumption) rfl rfl ?_; simp only [List.getElem_toArray, List.getElem_cons_zero, List.getElem_cons_succ, Act.put, List.setIfInBounds_toArray, List.set_cons_zero, List.set_cons_succ])
        | (refine pl_skipl (by assumption) rfl rfl ?_; simp only [List.getElem_toArray, List.getElem_cons_zero, List.getElem_cons_succ, Act.put, List.setIfInBounds_toArray, List.set_cons_zero, List.set_cons_succ]))
      first
        | refine pl_do rfl rfl (fun K hK => ?_)
        | refine op_do rfl rfl (fun K hK => ?_)
      try simp only [List.getElem_toArray, List.getElem_cons_zero, List.getElem_cons_succ]
      go_simp
      have ho3 := ho.kept b3
      refine (putHeaderG_any w1 _ [4, U1, U2] _ _ _ _ m.crt.hdr.batches m.crt.hdr.parents _ (hbl2.trans (b3.mono hz2)) ho3 (by omega) (by omega) r2.cbats r2.cpars q4 q5 (by simp only [List.length_cons, List.length_nil]; omega)).mono ?_
      rintro e w4 ⟨v2, rfl, b2, k2, o2, gl⟩
      rw [hH.out] at o2
      have cA := gl.cell cA (ne_new ho)
      refine hK.out _ _ (k2 _ _ _ (by decide) hS) (fun hS => ?_)
      clear hK K
      try simp only [List.getElem_toArray, List.getElem_cons_zero, List.getElem_cons_succ, Act.put, List.setIfInBounds_toArray, List.set_cons_zero, List.set_cons_succ]
      repeat (first
        | (refine pl_q (by assumption) rfl rfl ?_; apply Exists.intro; refine ⟨fun w' hS => ?_, ?_⟩; (· (have h13 := hS.cell 13; have h14 := hS.cell 14; have h15 := hS.cell 15; have h16 := hS.cell 16; have h17 := hS.cell 17; simp [msgC] at h13 h14 h15 h16 h17; go_simp; exact rfl)); simp only [List.getElem_toArray, List.getElem_cons_zero, List.getElem_cons_succ, Act.put, List.setIfInBounds_toArray, List.set_cons_zero, List.set_cons_succ])
        | (refine pl_qc rfl rfl ?_; apply Exists.intro; refine ⟨fun w' _ => ?_, ?_⟩; (· (go_simp; exact rfl)); simp only [List.getElem_toArray, List.getElem_cons_zero, List.getElem_cons_succ, Act.put, List.setIfInBounds_toArray, List.set_cons_zero, List.set_cons_succ])
        | (refine pl_skip (by assumption) rfl rfl ?_; simp only [List.getElem_toArray, List.getElem_cons_zero, List.getElem_cons_succ, Act.put, List.setIfInBounds_toArray, List.set_cons_zero, List.set_cons_succ])
        | (refine pl_skipl (by assumption) rfl rfl ?_; simp only [List.getElem_toArray, List.getElem_cons_zero, List.getElem_cons_succ, Act.put, List.setIfInBounds_toArray, List.set_cons_zero, List.set_cons_succ]))
      first
        | refine pl_do rfl rfl (fun K hK => ?_)
        | refine op_do rfl rfl (fun K hK => ?_)
      try simp only [List.getElem_toArray, List.getElem_cons_zero, List.getElem_cons_succ]
      refine wp_append_b1 (n := 140737488355328) (W := w1) (xs := [4, U1, U2] ++ H) U3 elemByte _ _ rfl rfl o2 b2 b2.size rfl cA (by decide) (by simp only [List.length_append, List.length_cons, List.length_nil]; omega) (fun v3 w5 o3 b3 g3 l3 => ?_)
      refine hK.out _ _ (keeps_grown o2 g3 _ _ _ (by decide) hS) (fun hS => ?_)
      clear hK K
      try simp only [List.getElem_toArray, List.getElem_cons_zero, List.getElem_cons_succ, Act.put, List.setIfInBounds_toArray, List.set_cons_zero, List.set_cons_succ]
      repeat (first
        | (refine pl_q (by assumption) rfl rfl ?_; apply Exists.intro; refine ⟨fun w' hS => ?_, ?_⟩; (· (skip; go_simp; exact rfl)); simp only [List.getElem_toArray, List.getElem_cons_zero, List.getElem_cons_succ, Act.put, List.setIfInBounds_toArray, List.set_cons_zero, List.set_cons_succ])
        | (refine pl_qc rfl rfl ?_; apply Exists.intro; refine ⟨fun w' _ => ?_, ?_⟩; (· (go_simp; exact rfl)); simp only [List.getElem_toArray, List.getElem_cons_zero, List.getElem_cons_succ, Act.put, List.setIfInBounds_toArray, List.set_cons_zero, List.set_cons_succ])
        | (refine pl_skip (by assumption) rfl rfl ?_; simp only [List.getElem_toArray, List.getElem_cons_zero, List.getElem_cons_succ, Act.put, List.setIfInBounds_toArray, List.set_cons_zero, List.set_cons_succ])
        | (refine pl_skipl (by assumption) rfl rfl ?_; simp only [List.getElem_toArray, List.getElem_cons_zero, List.getElem_cons_succ, Act.put, List.setIfInBounds_toArray, List.set_cons_zero, List.set_cons_succ]))
      refine pl_nil ?_
      go_wp2
      go_meet
      exact ⟨hS, by rw [← hY.out]; exact o3, b3⟩
  case rest =>
    clear ho hk2 hq2 hbl2 hz2
    obtain ⟨hS, ho, hbl2⟩ := hcut
    obtain ⟨oA, oc, rfl⟩ := ho.form
    have hz2 := hbl2.size
    have g17 := hS.cell 17
    simp [msgC] at g17
    obtain ⟨_, _, _, hvel⟩ := r2.vots.at
    have Hvel := Lib.hid hvel
    clear hvel
    go_wp2
    go_loopw [5, 7, 72] (fun v _ i wr => ∃ k : Nat, k ≤ m.crt.voters.length ∧ i = .int .i64 k ∧ OwnB wr w1.heap.size v (Y ++ (m.crt.voters.take k).map byteI) ∧ Below w1.heap.size w1 wr) (fun _ _ i _ => m.crt.voters.length - (intOf i).toNat)
    case atStart => exact ⟨0, Nat.zero_le _, rfl, by simpa using ho, hbl2⟩
    case round =>
      clear ho hS g17 hbl2 hz2
      obtain ⟨k, hk, rfl, hown, hbl2⟩ := hrel
      have hz2 := hbl2.size
      by_cases hlt : k < m.crt.voters.length
      · obtain ⟨b0, o0, rfl, q0'⟩ := Hvel.out k hlt
        have c0 := vle_below hbl2 _ _ q0'
        have Hn := Lib.hid (show (m.crt.voters.take (k + 1)).map byteI = (m.crt.voters.take k).map byteI ++ [byteI m.crt.voters[k]] by rw [List.take_succ_eq_append_getElem hlt, List.map_append, List.map_singleton])
        have hLl : ((m.crt.voters.take k).map byteI).length ≤ 4 := by simp; omega
        have e4 := byteI_wrap m.crt.voters[k]
        generalize byteI m.crt.voters[k] = U4 at e4 Hn
        generalize (m.crt.voters.take k).map byteI = Z at hown Hn hLl
        generalize m.crt.voters[k] = x at c0 e4
        clear q0'
        go_wp2_with (at_builtin; first
          | (refine wpList_append_vec (n := 140737488355328) (W := w1) (ys := [U4]) elemByte encB_one _ _ rfl rfl rfl (hown.alloc _) (hbl2.alloc hz2 _) (le_alloc _ hz2) rfl (byBlk (xs := [U4]) (Blk.new _ _ _) (by simp) (by simp)) (by decide) (by simp only [List.length_append, List.length_cons, List.length_nil]; omega) (by simp only [List.length_append, List.length_cons, List.length_nil]; omega) ?_))
        intro v' w2 ho' hb' _
        clear hown c0
        go_wp2
        go_roundw
        case rel => exact ⟨k + 1, by omega, by go_num, by rw [Hn.out]; simpa using ho', hb'⟩
        case measure => simp [intOf]; omega
      · have hkl : k = m.crt.voters.length := by omega
        rw [hkl, List.take_length] at hown
        clear Hvel
        go_wp2
        go_ret2
        exact ⟨_, rfl, hbl1.trans (hbl2.mono hz1), by rw [hRY.out]; exact hown.from_ (bs := 1) (by rw [← hRY.out, hRl.out]; omega) hz1⟩
end Go.Proofs.Ytedealljhmokoaa

namespace Go.Proofs.Ytedealljhmokoaa
open Go.ChangeShapes Go.WideShapes Go.ChangeAt Go.RowKit
set_option linter.unusedVariables false
set_option linter.unusedSimpArgs false
set_option maxHeartbeats 10000000 in
set_option maxRecDepth 100000 in
theorem msgBytes_4 (m : Msg) (hk : m.kind = 4) (h0 : msgF m = 0) (vt vb vp vd cb cp cv : Value) (w : World) (r : RMsg w.cell? m vt vb vp vd cb cp cv) (hs : ∀ s ∈ m.bat.txs, s.size ≤ 140737488355328) :
    Calls Try.prog 12 #[.agg (msgC m vt vb vp vd cb cp cv)] w fun e w' => ∃ d, e = .returned (.tuple #[d, .int .i64 0]) ∧ Below w.heap.size w w' ∧ RBytes (View.from w'.cell? w.heap.size) d (msgB m) := by
  obtain ⟨⟨tA, tc, rfl⟩, ⟨bA, bc, rfl⟩, ⟨pA, pc, rfl⟩, ⟨dA, dc, rfl⟩, ⟨cA, cc, rfl⟩, ⟨qA, qc, rfl⟩, ⟨vA, vc, rfl⟩⟩ := r.forms
  have e1 := byteI_wrap m.src
  have e2 := byteI_wrap m.dst
  have hR : Hid (msgB m = [4, byteI m.src, byteI m.dst] ++ (headerB m.crt.hdr.author m.crt.hdr.round m.crt.hdr.batches m.crt.hdr.parents ++ (byteI m.crt.voters.length :: m.crt.voters.map byteI))) := by show _ = _; simp [msgB, msgBody, hk, byteI]
  generalize byteI m.src = U1 at e1 hR
  generalize byteI m.dst = U2 at e2 hR
  generalize msgB m = R at hR ⊢
  obtain ⟨q0, q1, q2, q3, q4, q5, q6⟩ := certF_zero (body_4 hk h0)
  have Hk := Lib.hid hk
  have H0 := Lib.hid h0
  clear hk h0
  unfold msgC
  go_enter Try.func12, Try.ntmps12
  go_upto_region 1 with fail
  refine one_block _ _ _ (fun W => Code.wp _ _ _ _ W) (fun W hbk hsz hbl => ?_)
  have r1 := r.mono (vle_below hbl)
  go_wp2_with (refine wpList_load_row rfl 35 _ rfl _ rfl _ _ _ _ hbk Try.underlying35 rfl (by kernel_rfl) ?_)
  refine (messageFault_any m _ _ _ _ _ _ _ _ r1 hs).mono ?_
  rintro e w1 ⟨rfl, hb1⟩
  rw [H0.out]
  have hbl1 := hbl.trans (hb1.mono hbl.size)
  have hz1 := hbl1.size
  have hq := hbk.kept hb1
  have hlt1 := hq.lt
  have g0 := hq.cell 0; have g1 := hq.cell 1; have g2 := hq.cell 2; have g3 := hq.cell 3; have g4 := hq.cell 4; have g5 := hq.cell 5; have g6 := hq.cell 6; have g7 := hq.cell 7; have g8 := hq.cell 8; have g9 := hq.cell 9; have g10 := hq.cell 10; have g11 := hq.cell 11; have g12 := hq.cell 12; have g13 := hq.cell 13; have g14 := hq.cell 14; have g15 := hq.cell 15; have g16 := hq.cell 16; have g17 := hq.cell 17; have g18 := hq.cell 18
  simp at g0 g1 g2 g3 g4 g5 g6 g7 g8 g9 g10 g11 g12 g13 g14 g15 g16 g17 g18
  rw [Hk.out] at g2
  have r2 := r1.mono (vle_below hb1)
  have hlit : ∀ (W : World) (n : Nat) (xs : List UInt8), Blk W n 5 (xs.map encB).toArray → w1.heap.size ≤ n → xs.length = 3 → OwnB W w1.heap.size (.slice (some ⟨n, 0, none⟩) 3 3) xs := fun W n xs hb hn hl => OwnVec.lit hb hn hl.symm (by decide)
  clear r r1 hbk hsz hb1
  have hRl : Hid (R.length = 4 + (6 + m.crt.hdr.batches.flatten.length + m.crt.hdr.parents.flatten.length) + m.crt.voters.length) := by show _ = _; rw [hR.out]; simp only [List.length_append, List.length_cons, List.length_nil, List.length_map, headerB_len]; omega
  have e3 := byteI_wrap m.crt.voters.length
  obtain ⟨H, hH⟩ : ∃ H, Hid (headerB m.crt.hdr.author m.crt.hdr.round m.crt.hdr.batches m.crt.hdr.parents = H) := ⟨_, rfl⟩
  have hHl : H.length ≤ 240 := by rw [← hH.out, headerB_len]; omega
  rw [hH.out] at hR
  generalize byteI m.crt.voters.length = U3 at e3 hR
  obtain ⟨Y, hY⟩ : ∃ Y, Hid ([4, U1, U2] ++ H ++ [U3] = Y) := ⟨_, rfl⟩
  obtain ⟨X, hX⟩ : ∃ X, Hid ([4, U1, U2] ++ H = X) := ⟨_, rfl⟩
  have hXl : X.length ≤ 250 := by rw [← hX.out]; simp only [List.length_append, List.length_cons, List.length_nil]; omega
  have hYX : Hid (Y = X ++ [U3]) := by show _ = _; rw [← hY.out, ← hX.out]
  have hYl : Y.length ≤ 300 := by rw [← hY.out]; simp only [List.length_append, List.length_cons, List.length_nil]; omega
  have hRY : Hid (R = Y ++ m.crt.voters.map byteI) := by show _ = _; rw [hR.out, ← hY.out]; simp
  go_wp2_with fail
  refine one_block _ _ _ (fun W => Calls Try.prog _ _ W _) (fun W2 hk2 hsz2 hbl2 => ?_)
  have ho := hlit W2 _ [4, U1, U2] hk2 (Nat.le_refl _) rfl
  have hz2 := hbl2.size
  have hq2 := hq.kept hbl2
  refine (headerBytes_any _ _ _ _ m.crt.hdr.batches m.crt.hdr.parents _ (by omega) (by omega) (r2.cbats.mono RDig.mono (vle_below hbl2)) (r2.cpars.mono RDig.mono (vle_below hbl2)) (by omega)).mono ?_
  rintro e w2 ⟨v2, rfl, hb2, ho2⟩
  rw [hH.out] at ho2
  obtain ⟨A2, c2, rfl⟩ := ho2.form
  have ho3 := ho.kept hb2
  have hb3 := hbl2.trans (hb2.mono hz2)
  have hq3 := hq2.kept hb2
  clear g0 g1 g3 g4 g5 g6 g7 g8 g9 g10 g11 g12 g13 g14 g15 g16 g17 g18
  clear hsz2 hk2
  go_wp2_with fail
  refine (joined_any _ _ [4, U1, U2] H _ (ho3.reads (bs := 1) (by simp)) (ho2.reads (bs := 1) (by omega)) 140737488355328 (Nat.le_refl _) (by simp only [List.length_cons, List.length_nil]; omega)).mono ?_
  rintro e w3 ⟨v3, rfl, hb4, ho4⟩
  have hb5 := hb3.trans (hb4.mono hb3.size)
  have hz5 := hb5.size
  have hq4 := hq3.kept hb4
  have ho4 := ho4.base hb3.size
  rw [hX.out] at ho4
  obtain ⟨A4, c4, rfl⟩ := ho4.form
  clear ho ho2 ho3
  have a17 := (hq4).cell 17
  simp at a17
  go_wp2_with (at_builtin; first
    | (refine wpList_append_vec (n := 140737488355328) (W := w1) (xs := X) (ys := [U3]) elemByte encB_one _ _ rfl rfl rfl (ho4.alloc _) (hb5.alloc hz5 _) (le_alloc _ hz5) rfl (byBlk (xs := [U3]) (Blk.new _ _ _) (by simp) (by simp)) (by decide) (by simp only [List.length_cons, List.length_nil]; omega) (by simp only [List.length_cons, List.length_nil]; omega) ?_))
  intro v1 w4 o1 b1 gg1
  have hq5 := (keeps_alloc w3 (.cells #[encB U3] 5)).trans (keeps_grown (ho4.alloc _) gg1) _ _ _ (by decide) hq4
  rw [← hYX.out] at o1
  clear gg1 ho4 a17 hq4
  obtain ⟨_, _, _, hvel⟩ := r2.vots.at
  have Hvel := Lib.hid hvel
  clear hvel
  go_wp2
  go_loopw [5, 6] (fun v i wr => ∃ k : Nat, k ≤ m.crt.voters.length ∧ i = .int .i64 k ∧ OwnB wr w1.heap.size v (Y ++ (m.crt.voters.take k).map byteI) ∧ Below w1.heap.size w1 wr ∧ Blk wr w.heap.size 35 (msgC m (.slice tA m.bat.txs.length tc) (.slice bA m.hdr.batches.length bc) (.slice pA m.hdr.parents.length pc) (.slice dA m.slt.digest.length dc) (.slice cA m.crt.hdr.batches.length cc) (.slice qA m.crt.hdr.parents.length qc) (.slice vA m.crt.voters.length vc))) (fun _ i _ => m.crt.voters.length - (intOf i).toNat)
  case atStart => exact ⟨0, Nat.zero_le _, rfl, by simpa using o1, b1, hq5⟩
  case round =>
    clear o1 b1 hq5
    obtain ⟨k, hk, rfl, hown, hbl3, hS⟩ := hrel
    have hz3 := hbl3.size
    have a17 := hS.cell 17
    simp [msgC] at a17
    by_cases hlt : k < m.crt.voters.length
    · obtain ⟨b0, o0, rfl, q0'⟩ := Hvel.out k hlt
      have c0 := vle_below hbl3 _ _ q0'
      have Hn := Lib.hid (show (m.crt.voters.take (k + 1)).map byteI = (m.crt.voters.take k).map byteI ++ [byteI m.crt.voters[k]] by rw [List.take_succ_eq_append_getElem hlt, List.map_append, List.map_singleton])
      have hLl : ((m.crt.voters.take k).map byteI).length ≤ 4 := by simp; omega
      have e4 := byteI_wrap m.crt.voters[k]
      generalize byteI m.crt.voters[k] = U4 at e4 Hn
      generalize (m.crt.voters.take k).map byteI = Zz at hown Hn hLl
      generalize m.crt.voters[k] = x at c0 e4
      clear q0'
      go_wp2_with (at_builtin; first
        | (refine wpList_append_vec (n := 140737488355328) (W := w1) (ys := [U4]) elemByte encB_one _ _ rfl rfl rfl (hown.alloc _) (hbl3.alloc hz3 _) (le_alloc _ hz3) rfl (byBlk (xs := [U4]) (Blk.new _ _ _) (by simp) (by simp)) (by decide) (by simp only [List.length_append, List.length_cons, List.length_nil]; omega) (by simp only [List.length_append, List.length_cons, List.length_nil]; omega) ?_))
      intro v' w5 ho' hb' gg'
      have hS' := (keeps_alloc wr (.cells #[encB U4] 5)).trans (keeps_grown (hown.alloc _) gg') _ _ _ (by decide) hS
      clear hown c0 gg' hS a17
      go_wp2
      go_roundw
      case rel => exact ⟨k + 1, by omega, by go_num, by rw [Hn.out]; simpa using ho', hb', hS'⟩
      case measure => simp [intOf]; omega
    · have hkl : k = m.crt.voters.length := by omega
      rw [hkl, List.take_length] at hown
      clear Hvel
      go_wp2
      go_ret2
      exact ⟨_, rfl, hbl1.trans (hbl3.mono hz1), by rw [hRY.out]; exact hown.from_ (bs := 1) (by rw [← hRY.out, hRl.out]; omega) hz1⟩
end Go.Proofs.Ytedealljhmokoaa

namespace Go.Proofs.Ytedealljhmokoaa
open Go.ChangeShapes Go.WideShapes Go.ChangeAt Go.RowKit
set_option linter.unusedVariables false
set_option linter.unusedSimpArgs false
set_option maxHeartbeats 10000000 in
set_option maxRecDepth 100000 in
theorem encode_5 (m : Msg) (hk : m.kind = 5) (h0 : msgF m = 0) (vt vb vp vd cb cp cv : Value) (w : World) (r : RMsg w.cell? m vt vb vp vd cb cp cv) (hs : ∀ s ∈ m.bat.txs, s.size ≤ 140737488355328) :
    Calls Try.prog 11 #[.agg (msgC m vt vb vp vd cb cp cv)] w fun e w' => ∃ d, e = .returned (.tuple #[d, .int .i64 0]) ∧ Below w.heap.size w w' ∧ RBytes (View.from w'.cell? w.heap.size) d (msgB m) := by
  obtain ⟨⟨tA, tc, rfl⟩, ⟨bA, bc, rfl⟩, ⟨pA, pc, rfl⟩, ⟨dA, dc, rfl⟩, ⟨cA, cc, rfl⟩, ⟨qA, qc, rfl⟩, ⟨vA, vc, rfl⟩⟩ := r.forms
  have e1 := byteI_wrap m.src
  have e2 := byteI_wrap m.dst
  have hR : Hid (msgB m = [5, byteI m.src, byteI m.dst] ++ wideB m.round) := by show _ = _; simp [msgB, msgBody, hk, byteI]
  generalize byteI m.src = U1 at e1 hR
  generalize byteI m.dst = U2 at e2 hR
  generalize msgB m = R at hR ⊢
  obtain ⟨q0, q1⟩ := body_5 hk h0
  have Hk := Lib.hid hk
  have H0 := Lib.hid h0
  clear hk h0
  unfold msgC
  go_enter Try.func11, Try.ntmps11
  go_upto_region 1 with fail
  refine one_block _ _ _ (fun W => Code.wp _ _ _ _ W) (fun W hbk hsz hbl => ?_)
  have r1 := r.mono (vle_below hbl)
  go_wp2_with (refine wpList_load_row rfl 35 _ rfl _ rfl _ _ _ _ hbk Try.underlying35 rfl (by kernel_rfl) ?_)
  refine (check_any m _ _ _ _ _ _ _ _ r1 hs).mono ?_
  rintro e w1 ⟨rfl, hb1⟩
  rw [H0.out]
  have hbl1 := hbl.trans (hb1.mono hbl.size)
  have hz1 := hbl1.size
  have hq := hbk.kept hb1
  have hlt1 := hq.lt
  have g0 := hq.cell 0; have g1 := hq.cell 1; have g2 := hq.cell 2; have g3 := hq.cell 3; have g4 := hq.cell 4; have g5 := hq.cell 5; have g6 := hq.cell 6; have g7 := hq.cell 7; have g8 := hq.cell 8; have g9 := hq.cell 9; have g10 := hq.cell 10; have g11 := hq.cell 11; have g12 := hq.cell 12; have g13 := hq.cell 13; have g14 := hq.cell 14; have g15 := hq.cell 15; have g16 := hq.cell 16; have g17 := hq.cell 17; have g18 := hq.cell 18
  simp at g0 g1 g2 g3 g4 g5 g6 g7 g8 g9 g10 g11 g12 g13 g14 g15 g16 g17 g18
  rw [Hk.out] at g2
  have r2 := r1.mono (vle_below hb1)
  have hlit : ∀ (W : World) (n : Nat) (xs : List UInt8), Blk W n 5 (xs.map encB).toArray → w1.heap.size ≤ n → xs.length = 3 → OwnB W w1.heap.size (.slice (some ⟨n, 0, none⟩) 3 3) xs := fun W n xs hb hn hl => OwnVec.lit hb hn hl.symm (by decide)
  clear r r1 hbk hsz hb1
  have hRl : Hid (R.length = 6) := by show _ = _; rw [hR.out]; rfl
  go_wp2_with fail
  refine (wide_any _ m.round [5, U1, U2] w1.heap.size _ (hlit _ _ [5, U1, U2] (Blk.new _ _ _) (Nat.le_refl _) rfl) (by simp) (by omega) (by omega) (by simp)).mono ?_
  rintro e w2 ⟨v2, rfl, hb2', hkp, ho2, _⟩
  have hb2 := (below_one w1 (.cells #[.int .u8 5, .int .u8 U1.toNat, .int .u8 U2.toNat] 5)).trans hb2'
  clear g0 g1 g3 g4 g5 g6 g7 g8 g9 g10 g11 g12 g13 g14 g15 g16 g17 g18
  go_wp2
  go_ret2
  exact ⟨_, rfl, hbl1.trans (hb2.mono hz1), by rw [hR.out]; exact (ho2).from_ (bs := 1) (by rw [← hR.out]; rw [hRl.out]; omega) hz1⟩
end Go.Proofs.Ytedealljhmokoaa

namespace Go.Proofs.Ytedealljhmokoaa
open Go.ChangeShapes Go.WideShapes Go.ChangeAt Go.RowKit
set_option linter.unusedVariables false
set_option linter.unusedSimpArgs false
set_option maxHeartbeats 10000000 in
set_option maxRecDepth 100000 in
theorem msgBytes_5 (m : Msg) (hk : m.kind = 5) (h0 : msgF m = 0) (vt vb vp vd cb cp cv : Value) (w : World) (r : RMsg w.cell? m vt vb vp vd cb cp cv) (hs : ∀ s ∈ m.bat.txs, s.size ≤ 140737488355328) :
    Calls Try.prog 12 #[.agg (msgC m vt vb vp vd cb cp cv)] w fun e w' => ∃ d, e = .returned (.tuple #[d, .int .i64 0]) ∧ Below w.heap.size w w' ∧ RBytes (View.from w'.cell? w.heap.size) d (msgB m) := by
  obtain ⟨⟨tA, tc, rfl⟩, ⟨bA, bc, rfl⟩, ⟨pA, pc, rfl⟩, ⟨dA, dc, rfl⟩, ⟨cA, cc, rfl⟩, ⟨qA, qc, rfl⟩, ⟨vA, vc, rfl⟩⟩ := r.forms
  have e1 := byteI_wrap m.src
  have e2 := byteI_wrap m.dst
  have hR : Hid (msgB m = [5, byteI m.src, byteI m.dst] ++ wideB m.round) := by show _ = _; simp [msgB, msgBody, hk, byteI]
  generalize byteI m.src = U1 at e1 hR
  generalize byteI m.dst = U2 at e2 hR
  generalize msgB m = R at hR ⊢
  obtain ⟨q0, q1⟩ := body_5 hk h0
  have Hk := Lib.hid hk
  have H0 := Lib.hid h0
  clear hk h0
  unfold msgC
  go_enter Try.func12, Try.ntmps12
  go_upto_region 1 with fail
  refine one_block _ _ _ (fun W => Code.wp _ _ _ _ W) (fun W hbk hsz hbl => ?_)
  have r1 := r.mono (vle_below hbl)
  go_wp2_with (refine wpList_load_row rfl 35 _ rfl _ rfl _ _ _ _ hbk Try.underlying35 rfl (by kernel_rfl) ?_)
  refine (messageFault_any m _ _ _ _ _ _ _ _ r1 hs).mono ?_
  rintro e w1 ⟨rfl, hb1⟩
  rw [H0.out]
  have hbl1 := hbl.trans (hb1.mono hbl.size)
  have hz1 := hbl1.size
  have hq := hbk.kept hb1
  have hlt1 := hq.lt
  have g0 := hq.cell 0; have g1 := hq.cell 1; have g2 := hq.cell 2; have g3 := hq.cell 3; have g4 := hq.cell 4; have g5 := hq.cell 5; have g6 := hq.cell 6; have g7 := hq.cell 7; have g8 := hq.cell 8; have g9 := hq.cell 9; have g10 := hq.cell 10; have g11 := hq.cell 11; have g12 := hq.cell 12; have g13 := hq.cell 13; have g14 := hq.cell 14; have g15 := hq.cell 15; have g16 := hq.cell 16; have g17 := hq.cell 17; have g18 := hq.cell 18
  simp at g0 g1 g2 g3 g4 g5 g6 g7 g8 g9 g10 g11 g12 g13 g14 g15 g16 g17 g18
  rw [Hk.out] at g2
  have r2 := r1.mono (vle_below hb1)
  have hlit : ∀ (W : World) (n : Nat) (xs : List UInt8), Blk W n 5 (xs.map encB).toArray → w1.heap.size ≤ n → xs.length = 3 → OwnB W w1.heap.size (.slice (some ⟨n, 0, none⟩) 3 3) xs := fun W n xs hb hn hl => OwnVec.lit hb hn hl.symm (by decide)
  clear r r1 hbk hsz hb1
  obtain ⟨Y, hY⟩ : ∃ Y, Hid (wideB m.round = Y) := ⟨_, rfl⟩
  have hYl : Y.length ≤ 300 := by rw [← hY.out]; simp [wideB]
  have hRY : Hid (R = [5, U1, U2] ++ Y) := by show _ = _; rw [hR.out, hY.out]
  go_wp2_with fail
  refine one_block _ _ _ (fun W => Calls Try.prog _ _ W _) (fun W2 hk2 hsz2 hbl2 => ?_)
  have ho := hlit W2 _ [5, U1, U2] hk2 (Nat.le_refl _) rfl
  have hz2 := hbl2.size
  refine (three_any m.round _ (by omega) (by omega)).mono ?_
  rintro e w2 ⟨v2, rfl, hb2, ho2⟩
  rw [hY.out] at ho2
  obtain ⟨A2, c2, rfl⟩ := ho2.form
  have ho3 := ho.kept hb2
  have hb3 := hbl2.trans (hb2.mono hz2)
  clear g0 g1 g3 g4 g5 g6 g7 g8 g9 g10 g11 g12 g13 g14 g15 g16 g17 g18
  go_wp2_with fail
  refine (joined_any _ _ [5, U1, U2] Y _ (ho3.reads (bs := 1) (by simp)) (ho2.reads (bs := 1) (by omega)) 140737488355328 (Nat.le_refl _) (by simp only [List.length_cons, List.length_nil]; omega)).mono ?_
  rintro e w3 ⟨v3, rfl, hb4, ho4⟩
  have hb5 := hb3.trans (hb4.mono hb3.size)
  go_wp2
  go_ret2
  exact ⟨_, rfl, hbl1.trans (hb5.mono hz1), by rw [hRY.out]; exact ho4.from_ (bs := 1) (by simp only [List.length_append, List.length_cons, List.length_nil]; omega) (Nat.le_trans hz1 hb3.size)⟩
end Go.Proofs.Ytedealljhmokoaa

namespace Go.Proofs.Ytedealljhmokoaa
open Go.ChangeShapes Go.WideShapes Go.ChangeAt Go.RowKit
set_option linter.unusedVariables false
set_option linter.unusedSimpArgs false
set_option maxHeartbeats 10000000 in
set_option maxRecDepth 100000 in
theorem encode_any (m : Msg) (vt vb vp vd cb cp cv : Value) (w : World) (r : RMsg w.cell? m vt vb vp vd cb cp cv) (hs : ∀ s ∈ m.bat.txs, s.size ≤ 140737488355328) :
    Calls Try.prog 11 #[.agg (msgC m vt vb vp vd cb cp cv)] w fun e w' => ∃ d, e = .returned (.tuple #[d, .int .i64 (msgF m)]) ∧ Below w.heap.size w w' ∧ RBytes (View.from w'.cell? w.heap.size) d (msgBR m) := by
  by_cases h0 : msgF m = 0
  · rw [h0, show msgBR m = msgB m from if_pos h0]
    rcases (msgF_zero h0).1 with hk | hk | hk | hk | hk
    · exact encode_1 m hk h0 _ _ _ _ _ _ _ w r hs
    · exact encode_2 m hk h0 _ _ _ _ _ _ _ w r hs
    · exact encode_3 m hk h0 _ _ _ _ _ _ _ w r hs
    · exact encode_4 m hk h0 _ _ _ _ _ _ _ w r hs
    · exact encode_5 m hk h0 _ _ _ _ _ _ _ w r hs
  · rw [show msgBR m = [] from if_neg h0]
    obtain ⟨E, hE⟩ : ∃ E, Hid (msgF m = E) := ⟨_, rfl⟩
    have h0' : ¬ E = 0 := by rw [← hE.out]; exact h0
    rw [hE.out]
    clear h0
    unfold msgC
    go_enter Try.func11, Try.ntmps11
    go_upto_region 1 with fail
    refine one_block _ _ _ (fun W => Code.wp _ _ _ _ W) (fun W hbk hsz hbl => ?_)
    have r1 := r.mono (vle_below hbl)
    go_wp2_with (refine wpList_load_row rfl 35 _ rfl _ rfl _ _ _ _ hbk Try.underlying35 rfl (by kernel_rfl) ?_)
    refine (check_any m _ _ _ _ _ _ _ _ r1 hs).mono ?_
    rintro e w1 ⟨rfl, hb1⟩
    rw [hE.out]
    have hbl1 := hbl.trans (hb1.mono hbl.size)
    clear r r1 hbk hsz hb1 hE
    go_wp2
    go_ret2
    exact ⟨_, rfl, hbl1, RVec.nil _ _ _⟩
set_option maxHeartbeats 10000000 in
set_option maxRecDepth 100000 in
theorem msgBytes_any (m : Msg) (vt vb vp vd cb cp cv : Value) (w : World) (r : RMsg w.cell? m vt vb vp vd cb cp cv) (hs : ∀ s ∈ m.bat.txs, s.size ≤ 140737488355328) :
    Calls Try.prog 12 #[.agg (msgC m vt vb vp vd cb cp cv)] w fun e w' => ∃ d, e = .returned (.tuple #[d, .int .i64 (msgF m)]) ∧ Below w.heap.size w w' ∧ RBytes (View.from w'.cell? w.heap.size) d (msgBR m) := by
  by_cases h0 : msgF m = 0
  · rw [h0, show msgBR m = msgB m from if_pos h0]
    rcases (msgF_zero h0).1 with hk | hk | hk | hk | hk
    · exact msgBytes_1 m hk h0 _ _ _ _ _ _ _ w r hs
    · exact msgBytes_2 m hk h0 _ _ _ _ _ _ _ w r hs
    · exact msgBytes_3 m hk h0 _ _ _ _ _ _ _ w r hs
    · exact msgBytes_4 m hk h0 _ _ _ _ _ _ _ w r hs
    · exact msgBytes_5 m hk h0 _ _ _ _ _ _ _ w r hs
  · rw [show msgBR m = [] from if_neg h0]
    obtain ⟨E, hE⟩ : ∃ E, Hid (msgF m = E) := ⟨_, rfl⟩
    have h0' : ¬ E = 0 := by rw [← hE.out]; exact h0
    rw [hE.out]
    clear h0
    unfold msgC
    go_enter Try.func12, Try.ntmps12
    go_upto_region 1 with fail
    refine one_block _ _ _ (fun W => Code.wp _ _ _ _ W) (fun W hbk hsz hbl => ?_)
    have r1 := r.mono (vle_below hbl)
    go_wp2_with (refine wpList_load_row rfl 35 _ rfl _ rfl _ _ _ _ hbk Try.underlying35 rfl (by kernel_rfl) ?_)
    refine (messageFault_any m _ _ _ _ _ _ _ _ r1 hs).mono ?_
    rintro e w1 ⟨rfl, hb1⟩
    rw [hE.out]
    have hbl1 := hbl.trans (hb1.mono hbl.size)
    clear r r1 hbk hsz hb1 hE
    go_wp2
    go_ret2
    exact ⟨_, rfl, hbl1, RVec.nil _ _ _⟩
end Go.Proofs.Ytedealljhmokoaa

namespace Go.Proofs.Ytedealljhmokoaa
open Go.ChangeShapes Go.WideShapes Go.ChangeAt Go.RowKit
set_option linter.unusedVariables false
set_option maxHeartbeats 1000000 in
set_option maxRecDepth 100000 in
theorem tapes_any (nx : Int) (v : Value) (l : List UInt8) (w : World) (hd : RBytes w.cell? v l) :
    Calls Try.prog 14 #[.agg #[v, .int .i64 nx]] w fun e w' => ∃ d', e = .returned (.agg #[d', .int .i64 nx]) ∧ Below w.heap.size w w' ∧ OwnB w' w.heap.size d' l := by
  go_enter Try.func14, Try.ntmps14
  go_wp2
  refine two_blocks _ _ _ _ _ (fun W => (Code.region _ _ _).wp _ _ _ W) (fun W hb1 hb2 hsz hbl => ?_)
  have hd1 := hd.below_but hbl (Nat.le_succ _)
  refine wp_region_plan (fun w' => W.grownBy w' (some (w.heap.size + 1)) ∧ ∃ cs, Blk w' (w.heap.size + 1) 44 cs ∧ cs.size = 2) [(0, true), (1, true), (3, true), (4, true), (2, false), (5, true), (6, false)] (by kernel_rfl) (by kernel_rfl) (fun _ _ d _ _ h => by cases d <;> exact h) rfl (by kernel_rfl) ?_ ?_
  · exact ⟨grownBy_drew _ _, _, hb2, rfl⟩
  intro W1 hS1
  repeat (first
    | (refine wpPlan_takes rfl rfl ?_; apply Exists.intro; refine ⟨fun w' hS => ?_, ?_⟩; (· (have hq := hb1.grown hS.1 (by simp); have h0 := hq.cell 0; have h1 := hq.cell 1; simp at h0 h1; go_simp; exact rfl)); simp only [List.getElem_toArray, List.getElem_cons_zero, List.getElem_cons_succ, Act.put, List.setIfInBounds_toArray, List.set_cons_zero, List.set_cons_succ])
    | (refine wpPlan_skip (by assumption) rfl rfl ?_; simp only [List.getElem_toArray, List.getElem_cons_zero, List.getElem_cons_succ, Act.put, List.setIfInBounds_toArray, List.set_cons_zero, List.set_cons_succ]))
  refine wpPlan_do rfl rfl (fun K hK => ?_)
  try simp only [List.getElem_toArray, List.getElem_cons_zero, List.getElem_cons_succ]
  go_simp
  obtain ⟨hg1, cs, hc, hcs⟩ := hS1
  refine (octets_any _ _ _ (hd1.mono (vle_grown hg1))).mono ?_
  rintro e w1 ⟨d', rfl, hj, hown⟩
  obtain ⟨A', c', rfl⟩ := hown.form
  refine hK.out _ _ (⟨grownBy_trans hg1 (grownBy_below _ hj), _, hc.kept hj, hcs⟩) (fun hS => ?_)
  clear hK K
  try simp only [List.getElem_toArray, List.getElem_cons_zero, List.getElem_cons_succ, Act.put, List.setIfInBounds_toArray, List.set_cons_zero, List.set_cons_succ]
  repeat (first
    | (refine wpPlan_takes rfl rfl ?_; apply Exists.intro; refine ⟨fun w' hS => ?_, ?_⟩; (· (have hq := hb1.grown hS.1 (by simp); have h0 := hq.cell 0; have h1 := hq.cell 1; simp at h0 h1; go_simp; exact rfl)); simp only [List.getElem_toArray, List.getElem_cons_zero, List.getElem_cons_succ, Act.put, List.setIfInBounds_toArray, List.set_cons_zero, List.set_cons_succ])
    | (refine wpPlan_skip (by assumption) rfl rfl ?_; simp only [List.getElem_toArray, List.getElem_cons_zero, List.getElem_cons_succ, Act.put, List.setIfInBounds_toArray, List.set_cons_zero, List.set_cons_succ]))
  refine wpPlan_do rfl rfl (fun K hK => ?_)
  try simp only [List.getElem_toArray, List.getElem_cons_zero, List.getElem_cons_succ]
  refine wp_store_whole rfl rfl rfl (n := 2) (by kernel_rfl) rfl (hc.kept hj) hcs rfl ?_
  intro w2 hb3 hg
  have hsz1 := hg1.size
  refine hK.out _ _ (⟨grownBy_trans hS.1 hg, _, hb3, rfl⟩) (fun hS => ?_)
  clear hK K
  try simp only [List.getElem_toArray, List.getElem_cons_zero, List.getElem_cons_succ, Act.put, List.setIfInBounds_toArray, List.set_cons_zero, List.set_cons_succ]
  refine wpPlan_nil ?_
  go_wp2
  refine bodyPost_ret (results_blk rfl rfl (by kernel_rfl) (by kernel_rfl) hb3 rfl) rfl ?_
  have hA := below_grownBy (B := w.heap.size) hbl (by omega) (grownBy_trans (grownBy_trans hg1 (grownBy_below _ hj)) hg) (fun k e => by injection e; omega)
  exact ⟨_, rfl, hA, (hown.grown hg (by omega)).base (by omega)⟩

def tapeMay (l : List UInt8) (a : Int) : Bool := decide (0 ≤ a ∧ a ≤ l.length ∧ l.length ≤ 400000)
theorem below_two (w : World) (o1 o2 : Obj) : Below w.heap.size w ((w.alloc o1).alloc o2) := ((Below.refl _ _).alloc (Nat.le_refl _) _).alloc (le_alloc _ (Nat.le_refl _)) _
set_option maxHeartbeats 1000000 in
set_option maxRecDepth 100000 in
theorem open_no (a : Int) (A : Option Addr) (c : Nat) (l : List UInt8) (w : World) (hl : l.length ≤ 140737488355328) (hm : tapeMay l a = false) :
    Calls Try.prog 40 #[.agg #[.slice A l.length c, .int .i64 a]] w fun e w' => e = .returned (.tuple #[.agg #[.slice none 0 0, .int .i64 0], .bool false]) ∧ Below w.heap.size w w' := by
  have Hm := Lib.hid hm
  clear hm
  by_cases h1 : a < 0
  rotate_left
  by_cases h2 : (l.length : Int) < a
  rotate_left
  have h3 : 400000 < l.length := by have := Hm.out; simp [tapeMay] at this; omega
  all_goals
    go_enter Try.func40, Try.ntmps40
    go_wp2
    refine bodyPost_ret (v := .tuple #[.agg #[.slice none 0 0, .int .i64 0], .bool false]) (by simp [results, Try.results40, go_sem]) rfl ⟨rfl, ?_⟩
    exact below_two _ _ _
set_option maxHeartbeats 1000000 in
set_option maxRecDepth 100000 in
theorem open_yes (a : Int) (v : Value) (l : List UInt8) (w : World) (hv : RBytes w.cell? v l) (hm : tapeMay l a = true) :
    Calls Try.prog 40 #[.agg #[v, .int .i64 a]] w fun e w' => ∃ d, e = .returned (.tuple #[.agg #[d, .int .i64 a], .bool true]) ∧ Below w.heap.size w w' ∧ OwnB w' w.heap.size d l := by
  have Hm : 0 ≤ a ∧ a ≤ l.length ∧ l.length ≤ 400000 := by simpa [tapeMay] using hm
  obtain ⟨m1, m2, m3⟩ := Hm
  clear hm
  obtain ⟨A, c, rfl, _⟩ := id hv
  go_enter Try.func40, Try.ntmps40
  go_wp2
  refine two_blocks _ _ _ _ _ (fun W => (Code.region _ _ _).wp _ _ _ W) (fun W hb1 hb2 hsz hbl => ?_)
  have hd1 := hv.below_but hbl (Nat.le_succ _)
  refine wp_region_plan (fun w' => W.grownBy w' (some (w.heap.size + 1)) ∧ ∃ cs, Blk w' (w.heap.size + 1) 44 cs ∧ cs.size = 2) [(0, true), (1, true), (3, true), (4, true), (2, false), (5, true), (6, false), (7, true)] (by kernel_rfl) (by kernel_rfl) (fun _ _ d _ _ h => by cases d <;> exact h) rfl (by kernel_rfl) ?_ ?_
  · exact ⟨grownBy_drew _ _, _, hb2, rfl⟩
  intro W1 hS1
  repeat (first
    | (refine wpPlan_takes rfl rfl ?_; apply Exists.intro; refine ⟨fun w' hS => ?_, ?_⟩; (· (have hq := hb1.grown hS.1 (by simp); have h0 := hq.cell 0; have h1 := hq.cell 1; simp at h0 h1; go_simp; exact rfl)); simp only [List.getElem_toArray, List.getElem_cons_zero, List.getElem_cons_succ, Act.put, List.setIfInBounds_toArray, List.set_cons_zero, List.set_cons_succ])
    | (refine wpPlan_skip (by assumption) rfl rfl ?_; simp only [List.getElem_toArray, List.getElem_cons_zero, List.getElem_cons_succ, Act.put, List.setIfInBounds_toArray, List.set_cons_zero, List.set_cons_succ]))
  refine wpPlan_do rfl rfl (fun K hK => ?_)
  try simp only [List.getElem_toArray, List.getElem_cons_zero, List.getElem_cons_succ]
  go_simp
  obtain ⟨hg1, cs, hc, hcs⟩ := hS1
  refine (cloneB_any _ _ _ (hd1.mono (vle_grown hg1))).mono ?_
  rintro e w1 ⟨d', rfl, hj, hown⟩
  obtain ⟨A', c', rfl⟩ := hown.form
  refine hK.out _ _ (⟨grownBy_trans hg1 (grownBy_below _ hj), _, hc.kept hj, hcs⟩) (fun hS => ?_)
  clear hK K
  try simp only [List.getElem_toArray, List.getElem_cons_zero, List.getElem_cons_succ, Act.put, List.setIfInBounds_toArray, List.set_cons_zero, List.set_cons_succ]
  repeat (first
    | (refine wpPlan_takes rfl rfl ?_; apply Exists.intro; refine ⟨fun w' hS => ?_, ?_⟩; (· (have hq := hb1.grown hS.1 (by simp); have h0 := hq.cell 0; have h1 := hq.cell 1; simp at h0 h1; go_simp; exact rfl)); simp only [List.getElem_toArray, List.getElem_cons_zero, List.getElem_cons_succ, Act.put, List.setIfInBounds_toArray, List.set_cons_zero, List.set_cons_succ])
    | (refine wpPlan_skip (by assumption) rfl rfl ?_; simp only [List.getElem_toArray, List.getElem_cons_zero, List.getElem_cons_succ, Act.put, List.setIfInBounds_toArray, List.set_cons_zero, List.set_cons_succ]))
  refine wpPlan_do rfl rfl (fun K hK => ?_)
  try simp only [List.getElem_toArray, List.getElem_cons_zero, List.getElem_cons_succ]
  refine wp_store_whole rfl rfl rfl (n := 2) (by kernel_rfl) rfl (hc.kept hj) hcs rfl ?_
  intro w2 hb3 hg
  have hsz1 := hg1.size
  refine hK.out _ _ (⟨grownBy_trans hS.1 hg, _, hb3, rfl⟩) (fun hS => ?_)
  clear hK K
  try simp only [List.getElem_toArray, List.getElem_cons_zero, List.getElem_cons_succ, Act.put, List.setIfInBounds_toArray, List.set_cons_zero, List.set_cons_succ]
  repeat (first
    | (refine wpPlan_takes rfl rfl ?_; apply Exists.intro; refine ⟨fun w' hS => ?_, ?_⟩; (· (skip; go_simp; exact rfl)); simp only [List.getElem_toArray, List.getElem_cons_zero, List.getElem_cons_succ, Act.put, List.setIfInBounds_toArray, List.set_cons_zero, List.set_cons_succ])
    | (refine wpPlan_skip (by assumption) rfl rfl ?_; simp only [List.getElem_toArray, List.getElem_cons_zero, List.getElem_cons_succ, Act.put, List.setIfInBounds_toArray, List.set_cons_zero, List.set_cons_succ]))
  refine wpPlan_nil ?_
  go_wp2
  refine bodyPost_ret (results_blk_tmp rfl rfl (by kernel_rfl) (by kernel_rfl) hb3 rfl) rfl ?_
  have hA := below_grownBy (B := w.heap.size) hbl (by omega) (grownBy_trans (grownBy_trans hg1 (grownBy_below _ hj)) hg) (fun k e => by injection e; omega)
  exact ⟨_, rfl, hA, (hown.grown hg (by omega)).base (by omega)⟩
set_option maxHeartbeats 1000000 in
set_option maxRecDepth 100000 in
theorem tapeMay_any (a : Int) (A : Option Addr) (c : Nat) (l : List UInt8) (w : World) (hl : l.length ≤ 140737488355328) :
    Calls Try.prog 41 #[.agg #[.slice A l.length c, .int .i64 a]] w fun e w' => e = .returned (.bool (tapeMay l a)) ∧ Below w.heap.size w w' := by
  have Hq : Hid (tapeMay l a = decide (0 ≤ a ∧ a ≤ l.length ∧ l.length ≤ 400000)) := rfl
  by_cases h1 : l.length ≤ 400000 <;> cases h2 : inB a 0 l.length
  all_goals
    go_enter Try.func41, Try.ntmps41
    go_wp2_with (go_at_call 46; refine (in_any _ _ _ _).mono ?_; rintro e w' ⟨rfl, rfl⟩)
    go_ret
    exact ⟨ret_bool (by rw [Hq.out]; simp [inB] at h2; simp; omega), (Below.refl _ _).alloc (Nat.le_refl _) _⟩
/-- what a call leaves that makes memory, for the caller's own blocks -/
theorem keep_blk {w w1 : World} {g : Nat} {t : TypeId} {cs : Array Value} (h : Blk w g t cs) (hb : Below w.heap.size w w1) : Blk w1 g t cs := h.kept hb
set_option maxHeartbeats 1000000 in
set_option maxRecDepth 100000 in
theorem sameTape_any (va vb : Value) (la lb : List UInt8) (a b : Int) (w : World) (ha : RBytes w.cell? va la) (hb : RBytes w.cell? vb lb) :
    Calls Try.prog 17 #[.agg #[va, .int .i64 a], .agg #[vb, .int .i64 b]] w fun e w' => e = .returned (.bool (a == b && la == lb)) ∧ Below w.heap.size w w' := by
  have ga := run_toStr (ha.mono (vle_below (below_two w (.cells #[va, .int .i64 a] 44) (.cells #[vb, .int .i64 b] 44))))
  have gb := run_toStr (hb.mono (vle_below (below_two w (.cells #[va, .int .i64 a] 44) (.cells #[vb, .int .i64 b] 44))))
  have He := Lib.hid (bstr_eq la lb)
  clear ha hb
  cases h : (a == b)
  all_goals
    go_enter Try.func17, Try.ntmps17
    go_wp2
    go_ret
    exact ⟨ret_bool (by simp [He.out]), below_two _ _ _⟩
end Go.Proofs.Ytedealljhmokoaa

namespace Go.Proofs.Ytedealljhmokoaa
open Go.ChangeShapes Go.WideShapes Go.ChangeAt Go.RowKit
set_option linter.unusedVariables false
set_option linter.unusedSimpArgs false
def appF (m : Msg) : List UInt8 := [byteI ((msgB m).length / 256 : Nat), byteI ((msgB m).length : Nat)] ++ msgB m
def appE (l : List UInt8) (a : Int) (m : Msg) : Int := if tapeMay l a then (if recF m ≠ 0 then recF m else if 400000 < l.length + 2 + (msgB m).length then 6 else 0) else 12
def appL (l : List UInt8) (a : Int) (m : Msg) : List UInt8 := if appE l a m = 0 then l ++ appF m else []
def appA (l : List UInt8) (a : Int) (m : Msg) : Int := if appE l a m = 0 then a else 0
theorem three_blocks (w : World) (c1 c2 c3 : Array Value) (t1 t2 t3 : TypeId) (R : World → Prop)
    (h : ∀ W, Blk W w.heap.size t1 c1 → Blk W (w.heap.size + 1) t2 c2 → Blk W (w.heap.size + 2) t3 c3 → w.heap.size + 3 ≤ W.heap.size → Below w.heap.size w W → R W) : R (((w.alloc (.cells c1 t1)).alloc (.cells c2 t2)).alloc (.cells c3 t3)) := by
  refine h _ (((Blk.new w t1 c1).alloc _).alloc _) ?_ ?_ (by simp) ((((Below.refl _ _).alloc (Nat.le_refl _) _).alloc (le_alloc _ (Nat.le_refl _)) _).alloc (le_alloc _ (le_alloc _ (Nat.le_refl _))) _)
  · have := (Blk.new (w.alloc (.cells c1 t1)) t2 c2).alloc (.cells c3 t3)
    simpa using this
  · have := Blk.new ((w.alloc (.cells c1 t1)).alloc (.cells c2 t2)) t3 c3
    simpa using this
theorem vle_from_grown {w w' : World} {b : Nat} {row : Option Nat} (hg : w.grownBy w' row) (hr : ∀ q, row = some q → q < b) : VLe (View.from w.cell? b) w'.cell? := fun a u hu => by
  unfold View.from at hu
  split at hu
  · cases hu
  · rename_i hne
    exact hg.cell hu (by intro e; have := hr _ e.symm; omega)
theorem ne_own {w : World} {B : Nat} {v : Value} {xs : List UInt8} (ho : OwnB w B v xs) {g : Nat} {T : TypeId} {cs : Array Value} (hT : T ≠ 5) (hb : Blk w g T cs) : ¬ (v.ownBlock = some g) := fun e => by
  rcases ho.own.2 with ⟨rfl, _⟩ | ⟨g', cap, cur, rfl, _, h3, _⟩
  · cases e
  · have e1 : g' = g := by simpa [Value.ownBlock] using e
    subst e1
    unfold Blk at hb
    rw [h3] at hb
    injection hb with hb
    injection hb with _ hb
    exact hT hb.symm
theorem rec_msg {m : Msg} (h : recF m = 0) : msgF m = 0 := by
  unfold recF at h
  split at h
  · rename_i h1; exact absurd h h1
  · rename_i h1; exact Classical.not_not.1 h1
theorem msgB_len {m : Msg} (h : msgF m = 0) : (msgB m).length ≤ 400 := by
  unfold msgB msgBody
  rcases (msgF_zero h).1 with hk | hk | hk | hk | hk
  · obtain ⟨q0, q1, q2⟩ := batchF_zero (body_1 hk h)
    simp only [hk, if_true, List.length_append, List.length_cons, List.length_nil, batchB_len]; omega
  · obtain ⟨q0, q1, q2, q3⟩ := headF_zero (body_2 hk h)
    rw [if_neg (by omega), if_pos hk]
    simp only [List.length_append, List.length_cons, List.length_nil, headerB_len]; omega
  · obtain ⟨q0, q1, q2⟩ := slotF_zero (body_3 hk h)
    rw [if_neg (by omega), if_neg (by omega), if_pos hk]
    simp only [List.length_append, List.length_cons, List.length_nil, wideB]; omega
  · obtain ⟨q0, q1, q2, q3, q4, q5, q6⟩ := certF_zero (body_4 hk h)
    rw [if_neg (by omega), if_neg (by omega), if_neg (by omega), if_pos hk]
    simp only [List.length_append, List.length_cons, List.length_nil, headerB_len, List.length_map]; omega
  · rw [if_neg (by omega), if_neg (by omega), if_neg (by omega), if_neg (by omega)]
    simp only [List.length_append, List.length_cons, List.length_nil, wideB]; omega
set_option maxHeartbeats 4000000 in
set_option maxRecDepth 100000 in
theorem append_any (a : Int) (v : Value) (l : List UInt8) (m : Msg) (vt vb vp vd cb cp cv : Value) (w : World) (hv : RBytes w.cell? v l) (r : RMsg w.cell? m vt vb vp vd cb cp cv) (hs : ∀ s ∈ m.bat.txs, s.size ≤ 140737488355328) :
    Calls Try.prog 15 #[.agg #[v, .int .i64 a], .agg (msgC m vt vb vp vd cb cp cv)] w fun e w' => ∃ d, e = .returned (.tuple #[.agg #[d, .int .i64 (appA l a m)], .int .i64 (appE l a m)]) ∧ Below w.heap.size w w' ∧ RBytes (View.from w'.cell? w.heap.size) d (appL l a m) := by
  obtain ⟨A, c, rfl, hform⟩ := id hv
  have hl1 : l.length ≤ 140737488355328 := by omega
  clear hform
  obtain ⟨⟨tA, tc, rfl⟩, ⟨bA, bc, rfl⟩, ⟨pA, pc, rfl⟩, ⟨dA, dc, rfl⟩, ⟨cA, cc, rfl⟩, ⟨qA, qc, rfl⟩, ⟨vA, vc, rfl⟩⟩ := r.forms
  have hE0 : Hid (appE l a m = if tapeMay l a then (if recF m ≠ 0 then recF m else if 400000 < l.length + 2 + (msgB m).length then 6 else 0) else 12) := rfl
  have hA0 : Hid (appA l a m = if appE l a m = 0 then a else 0) := rfl
  have hL0 : Hid (appL l a m = if appE l a m = 0 then l ++ appF m else []) := rfl
  obtain ⟨QE, hQE⟩ : ∃ q, Hid (appE l a m = q) := ⟨_, rfl⟩
  obtain ⟨QA, hQA⟩ : ∃ q, Hid (appA l a m = q) := ⟨_, rfl⟩
  obtain ⟨QL, hQL⟩ : ∃ q, Hid (appL l a m = q) := ⟨_, rfl⟩
  rw [hQE.out, hQA.out, hQL.out]
  rw [hQE.out] at hE0 hA0 hL0
  rw [hQA.out] at hA0
  rw [hQL.out] at hL0
  have Hv := Lib.hid hv
  have Hs := Lib.hid hs
  clear hQE hQA hQL hv hs
  unfold msgC
  go_enter Try.func15, Try.ntmps15
  go_upto_region 1 with fail
  refine three_blocks _ _ _ _ _ _ _ (fun W => Code.wp _ _ _ _ W) (fun W hk1 hk2 hk3 hsz hbl => ?_)
  have hz := hbl.size
  have rW := r.mono (vle_below hbl)
  have g0 := hk1.cell 0; have g1 := hk1.cell 1
  simp at g0 g1
  clear r
  cases hm : tapeMay l a
  · have HE : Hid (QE = 12) := by show _ = _; rw [hE0.out, hm]; rfl
    have HA : Hid (QA = 0) := by show _ = _; rw [hA0.out, HE.out]; rfl
    have HL : Hid (QL = []) := by show _ = _; rw [hL0.out, HE.out]; rfl
    go_wp2_with fail
    refine (open_no _ _ _ _ _ hl1 hm).mono ?_
    rintro e w1 ⟨rfl, hb1⟩
    have hk31 := hk3.kept hb1
    have hbl1 := hbl.trans (hb1.mono hz)
    have hz1 := hbl1.size
    go_wp2_with (refine wpList_store_whole (n := 2) rfl rfl rfl rfl (by kernel_rfl) rfl (hk31.alloc _) rfl rfl ?_)
    intro w2 hB2 hg2
    go_wp2
    refine bodyPost_ret (results_blk_tmp rfl rfl (by kernel_rfl) (by kernel_rfl) hB2 rfl) rfl ?_
    exact ⟨_, by rw [HE.out, HA.out]; rfl, below_grownBy (hbl1.alloc hz1 _) (le_alloc _ hz1) hg2 (by intro k e; injection e; omega), by rw [HL.out]; exact RVec.nil _ _ _⟩
  · have Hm := Lib.hid hm
    have hE1 : Hid (QE = if recF m ≠ 0 then recF m else if 400000 < l.length + 2 + (msgB m).length then 6 else 0) := by show _ = _; rw [hE0.out, hm]; rfl
    have hl4 : l.length ≤ 400000 := by simp [tapeMay] at hm; omega
    clear hm hE0
    go_wp2_with fail
    refine (open_yes _ _ l _ (Hv.out.mono (vle_below hbl)) Hm.out).mono ?_
    rintro e w1 ⟨d1, rfl, hb1, o1⟩
    obtain ⟨A1, c1, rfl⟩ := o1.form
    have hk21 := hk2.kept hb1
    have hk31 := hk3.kept hb1
    have hbl1 := hbl.trans (hb1.mono hz)
    have hz1 := hbl1.size
    have hzz1 := hb1.size
    clear g0 g1 hk1
    go_upto_region 4 with fail
    refine one_block _ _ _ (fun W => Code.wp _ _ _ _ W) (fun W6 h6 hs6 hb6 => ?_)
    clear hs6
    have hz6 : w.heap.size ≤ W6.heap.size := Nat.le_trans hz1 hb6.size
    have hzW6 : W.heap.size ≤ W6.heap.size := Nat.le_trans hzz1 hb6.size
    have hbl6 := hbl1.trans (hb6.mono hz1)
    have o6 := o1.kept hb6
    have hk26 := hk21.kept hb6
    have hk36 := hk31.kept hb6
    have r6 := (rW.mono (vle_below hb1)).mono (vle_below hb6)
    clear o1 hk21 hk31 hb1 hb6 rW
    go_wp2_with (refine wpList_load_row rfl 35 _ rfl _ rfl _ _ _ _ hk26 Try.underlying35 rfl (by kernel_rfl) ?_)
    refine (tapeCheck_any m _ _ _ _ _ _ _ _ r6 Hs.out).mono ?_
    rintro e w7 ⟨rfl, hb7⟩
    have hbl7 := hbl6.trans (hb7.mono hz6)
    have hz7 := hbl7.size
    have hzW7 := Nat.le_trans hzW6 hb7.size
    have h67 := h6.kept hb7
    have o7 := o6.kept hb7
    have hk27 := hk26.kept hb7
    have hk37 := hk36.kept hb7
    have r7 := r6.mono (vle_below hb7)
    clear o6 hk26 hk36 h6 r6
    obtain ⟨RF, hRF⟩ : ∃ q, Hid (recF m = q) := ⟨_, rfl⟩
    rw [hRF.out]
    rw [hRF.out] at hE1
    by_cases hr0 : RF = 0
    · have hM0 := Lib.hid (rec_msg (hRF.out.trans hr0))
      have HB := Lib.hid (msgB_len hM0.out)
      have hE2 : Hid (QE = if 400000 < l.length + 2 + (msgB m).length then 6 else 0) := by show _ = _; rw [hE1.out, hr0]; rfl
      clear hE1 hRF
      subst hr0
      go_wp2_with (refine wpList_load_row rfl 35 _ rfl _ rfl _ _ _ _ hk27 Try.underlying35 rfl (by kernel_rfl) ?_)
      refine (encode_any m _ _ _ _ _ _ _ _ r7 Hs.out).mono ?_
      rintro e w8 ⟨d2, rfl, hb8, hr8⟩
      rw [hM0.out]
      have hbl8 := hbl7.trans (hb8.mono hz7)
      have hz8 := hbl8.size
      have hzW8 := Nat.le_trans hzW7 hb8.size
      have h68 := h67.kept hb8
      have o8 := o7.kept hb8
      have hk38 := hk37.kept hb8
      have hF : Hid (appF m = [byteI ((msgB m).length / 256 : Nat), byteI ((msgB m).length : Nat)] ++ msgB m) := rfl
      have hrow := fun q hq => (o7.own.lt q hq).2
      rw [show msgBR m = msgB m from if_pos hM0.out] at hr8
      clear o7 hk27 hk37 h67 r7
      generalize appF m = F at hF hL0
      generalize msgB m = B at HB hE2 hF hr8
      have hBl := HB.out
      obtain ⟨B2, c2, rfl, hf2⟩ := id hr8
      clear hf2
      have e1 := byteI_wrap ((B.length / 256 : Nat) : Int)
      have e2 := byteI_wrap (B.length : Nat)
      generalize byteI ((B.length / 256 : Nat) : Int) = U1 at e1 hF
      generalize byteI (B.length : Nat) = U2 at e2 hF
      obtain ⟨nb, hnb⟩ : ∃ n, Hid (B.length = n) := ⟨_, rfl⟩
      obtain ⟨nl, hnl⟩ : ∃ n, Hid (l.length = n) := ⟨_, rfl⟩
      rw [hnb.out] at e1 e2 hE2 hBl hr8 ⊢
      have hg60 := h68.cell 0
      have hg61 := h68.cell 1
      simp at hg60 hg61
      by_cases hfull : 400000 < l.length + 2 + nb
      · have HE : Hid (QE = 6) := by show _ = _; rw [hE2.out, if_pos hfull]
        have HA : Hid (QA = 0) := by show _ = _; rw [hA0.out, HE.out]; rfl
        have HL : Hid (QL = []) := by show _ = _; rw [hL0.out, HE.out]; rfl
        have hfull' : (400000 : Int) < l.length + 2 + nb := by omega
        clear hE2 hA0 hL0 e1 e2 o8
        go_wp2_with (refine wpList_store_whole (n := 2) rfl rfl rfl rfl (by kernel_rfl) rfl hk38 rfl rfl ?_)
        intro w9 hB9 hg9
        go_wp2
        refine bodyPost_ret (results_blk_tmp rfl rfl (by kernel_rfl) (by kernel_rfl) hB9 rfl) rfl ?_
        exact ⟨_, by rw [HE.out, HA.out]; rfl, below_grownBy hbl8 hz8 hg9 (by intro k e; injection e; omega), by rw [HL.out]; exact RVec.nil _ _ _⟩
      · have HE : Hid (QE = 0) := by show _ = _; rw [hE2.out, if_neg hfull]
        have HA : Hid (QA = a) := by show _ = _; rw [hA0.out, HE.out]; rfl
        have HL : Hid (QL = l ++ F) := by show _ = _; rw [hL0.out, HE.out]; rfl
        have hfull' : ¬ (400000 : Int) < l.length + 2 + nb := by omega
        clear hE2 hA0 hL0
        have e1' : IntKind.u8.wrap ((nb : Int) / 256) = (U1.toNat : Int) := by rw [← e1]; congr 1
        have hob : W.heap.size ≤ w8.heap.size := hzW8
        go_wp2_with (at_builtin; first
          | (refine wpList_append_at (n := 140737488355328) (xs := l) (ys := [U1, U2]) elemByte encB_one _ _ rfl rfl rfl (o8.alloc _) (le_alloc _ hob) rfl (byBlk (xs := [U1, U2]) (Blk.new _ _ _) (by simp) (by simp)) (by decide) (by simp; omega) (by simp; omega) ?_))
        intro v9 w9 o9 hg9 hloc9
        clear hloc9
        have hk9 := (keeps_alloc w8 (.cells #[encB U1, encB U2] 5)).trans (keeps_grown (o8.alloc _) hg9)
        have hb89 : Below W.heap.size w8 w9 := ((Below.refl _ _).alloc hob _).grown hg9 (le_alloc _ hob) (fun g hg => (o8.own.lt g hg).1)
        have h69 := hk9 _ _ _ (by decide) h68
        have hk39 := hk9 _ _ _ (by decide) hk38
        have hg9' : w8.grownBy w9 (Value.slice A1 l.length c1).ownBlock := grownBy_trans (World.grownBy_alloc w8 _ _) hg9
        have r9 : RBytes w9.cell? (.slice B2 nb c2) B := hr8.mono (vle_from_grown hg9' hrow)
        have hz9 : W.heap.size ≤ w9.heap.size := Nat.le_trans hob hb89.size
        clear hr8 hg9 hg9' hrow h68 hk38 hk9 o8 hg60 hg61
        have hlU : (l ++ [U1, U2]).length = l.length + 2 := by simp
        go_wp2_with (at_builtin; first
          | (refine wpList_append_at (n := 140737488355328) (xs := l ++ [U1, U2]) (ys := B) elemByte encB_one _ _ rfl rfl rfl o9 hz9 rfl r9 (by decide) (by rw [hlU, hnb.out]; omega) (by rw [hlU, hnb.out]; omega) ?_))
        intro v10 w10 o10 hg10 hloc10
        clear hloc10
        have hk10 := keeps_grown o9 hg10
        have hb910 : Below W.heap.size w9 w10 := (Below.refl _ _).grown hg10 hz9 (fun g hg => (o9.own.lt g hg).1)
        have h610 := hk10 _ _ _ (by decide) h69
        have hk310 := hk10 _ _ _ (by decide) hk39
        have o10 : OwnB w10 W.heap.size v10 QL := by rw [HL.out, hF.out]; simpa using o10
        have hb10 : Below w.heap.size w w10 := (hbl8.trans (hb89.mono (by omega))).trans (hb910.mono (by omega))
        have hQl : QL.length ≤ 400002 := by rw [HL.out, hF.out]; simp only [List.length_append, List.length_cons, List.length_nil]; rw [hnb.out]; omega
        obtain ⟨A10, c10, rfl⟩ := o10.form
        clear o9 hg10 r9 h69 hk39 hk10
        have hz10 : W.heap.size ≤ w10.heap.size := Nat.le_trans hz9 hb910.size
        go_wp2_with (refine wpList_store_blk (n := 1) rfl rfl rfl rfl (by kernel_rfl) rfl h610 (by simp) rfl ?_)
        intro w11 hB11 hg11
        have hB11 : Blk w11 w1.heap.size 44 #[.slice A10 QL.length c10, .int .i64 a] := hB11
        have hk311 := hk310.grown hg11 (by simp; omega)
        have o11 : OwnB w11 W.heap.size (.slice A10 QL.length c10) QL := ⟨o10.own.kept hg11 (.inr (ne_own o10 (by decide) h610))⟩
        have hb11 : Below w.heap.size w w11 := below_grownBy hb10 (by omega) hg11 (by intro k e; injection e; omega)
        clear hg11 h610 hk310 o10
        have f0 := hB11.cell 0; have f1 := hB11.cell 1
        simp at f0 f1
        have hz11 := hb11.size
        go_wp2_with (refine wpList_store_whole (n := 2) rfl rfl rfl rfl (by kernel_rfl) rfl hk311 rfl rfl ?_)
        intro w12 hB12 hg12
        have o12 := o11.grown hg12 (by omega)
        go_wp2
        refine bodyPost_ret (results_blk_tmp rfl rfl (by kernel_rfl) (by kernel_rfl) hB12 rfl) rfl ?_
        exact ⟨_, by rw [HE.out, HA.out]; rfl, below_grownBy hb11 hz11 hg12 (by intro k e; injection e; omega), o12.from_ (bs := 1) (by omega) hz⟩
    · have HE : Hid (QE = RF) := by show _ = _; rw [hE1.out, if_pos hr0]
      have HA : Hid (QA = 0) := by show _ = _; rw [hA0.out, HE.out, if_neg hr0]
      have HL : Hid (QL = []) := by show _ = _; rw [hL0.out, HE.out, if_neg hr0]
      clear hA0 hL0 hE1 hRF o7 hk27 r7
      go_wp2_with (refine wpList_store_whole (n := 2) rfl rfl rfl rfl (by kernel_rfl) rfl hk37 rfl rfl ?_)
      intro w8 hB8 hg8
      go_wp2
      refine bodyPost_ret (results_blk_tmp rfl rfl (by kernel_rfl) (by kernel_rfl) hB8 rfl) rfl ?_
      exact ⟨_, by rw [HE.out, HA.out]; rfl, below_grownBy hbl7 hz7 hg8 (by intro k e; injection e; omega), by rw [HL.out]; exact RVec.nil _ _ _⟩
end Go.Proofs.Ytedealljhmokoaa

namespace Go.Proofs.Ytedealljhmokoaa
open Go.ChangeShapes Go.WideShapes Go.ChangeAt Go.RowKit
set_option linter.unusedVariables false
set_option linter.unusedSimpArgs false
set_option maxHeartbeats 4000000 in
set_option maxRecDepth 100000 in
theorem tapeAppended_any (a : Int) (v : Value) (l : List UInt8) (m : Msg) (vt vb vp vd cb cp cv : Value) (w : World) (hv : RBytes w.cell? v l) (r : RMsg w.cell? m vt vb vp vd cb cp cv) (hs : ∀ s ∈ m.bat.txs, s.size ≤ 140737488355328) :
    Calls Try.prog 16 #[.agg #[v, .int .i64 a], .agg (msgC m vt vb vp vd cb cp cv)] w fun e w' => ∃ d, e = .returned (.tuple #[.agg #[d, .int .i64 (appA l a m)], .int .i64 (appE l a m)]) ∧ Below w.heap.size w w' ∧ RBytes (View.from w'.cell? w.heap.size) d (appL l a m) := by
  obtain ⟨A, c, rfl, hform⟩ := id hv
  have hl1 : l.length ≤ 140737488355328 := by omega
  clear hform
  obtain ⟨⟨tA, tc, rfl⟩, ⟨bA, bc, rfl⟩, ⟨pA, pc, rfl⟩, ⟨dA, dc, rfl⟩, ⟨cA, cc, rfl⟩, ⟨qA, qc, rfl⟩, ⟨vA, vc, rfl⟩⟩ := r.forms
  have hE0 : Hid (appE l a m = if tapeMay l a then (if recF m ≠ 0 then recF m else if 400000 < l.length + 2 + (msgB m).length then 6 else 0) else 12) := rfl
  have hA0 : Hid (appA l a m = if appE l a m = 0 then a else 0) := rfl
  have hL0 : Hid (appL l a m = if appE l a m = 0 then l ++ appF m else []) := rfl
  obtain ⟨QE, hQE⟩ : ∃ q, Hid (appE l a m = q) := ⟨_, rfl⟩
  obtain ⟨QA, hQA⟩ : ∃ q, Hid (appA l a m = q) := ⟨_, rfl⟩
  obtain ⟨QL, hQL⟩ : ∃ q, Hid (appL l a m = q) := ⟨_, rfl⟩
  rw [hQE.out, hQA.out, hQL.out]
  rw [hQE.out] at hE0 hA0 hL0
  rw [hQA.out] at hA0
  rw [hQL.out] at hL0
  have Hv := Lib.hid hv
  have Hs := Lib.hid hs
  clear hQE hQA hQL hv hs
  unfold msgC
  go_enter Try.func16, Try.ntmps16
  go_upto_region 1 with fail
  refine three_blocks _ _ _ _ _ _ _ (fun W => Code.wp _ _ _ _ W) (fun W hk1 hk2 hk3 hsz hbl => ?_)
  have hz := hbl.size
  have rW := r.mono (vle_below hbl)
  have g0 := hk1.cell 0; have g1 := hk1.cell 1
  simp at g0 g1
  clear r
  have HmE : Hid (∀ q, tapeMay l a = q → tapeMay l a = q) := fun q h => h
  go_wp2_with fail
  refine (tapeMay_any _ _ _ _ _ hl1).mono ?_
  rintro e w1 ⟨rfl, hb1⟩
  have hbl1 := hbl.trans (hb1.mono hz)
  have hz1 := hbl1.size
  have hk11 := hk1.kept hb1
  have hk21 := hk2.kept hb1
  have hk31 := hk3.kept hb1
  have r1 := rW.mono (vle_below hb1)
  have hzW1 := hb1.size
  clear g0 g1 hk1 hk2 hk3 rW
  cases hm : tapeMay l a
  · have HE : Hid (QE = 12) := by show _ = _; rw [hE0.out, hm]; rfl
    have HA : Hid (QA = 0) := by show _ = _; rw [hA0.out, HE.out]; rfl
    have HL : Hid (QL = []) := by show _ = _; rw [hL0.out, HE.out]; rfl
    clear hE0 hA0 hL0
    go_wp2_with (refine wpList_store_whole (n := 2) rfl rfl rfl rfl (by kernel_rfl) rfl hk31 rfl rfl ?_)
    intro w2 hB2 hg2
    go_wp2
    refine bodyPost_ret (results_blk_tmp rfl rfl (by kernel_rfl) (by kernel_rfl) hB2 rfl) rfl ?_
    exact ⟨_, by rw [HE.out, HA.out]; rfl, below_grownBy hbl1 hz1 hg2 (by intro k e; injection e; omega), by rw [HL.out]; exact RVec.nil _ _ _⟩
  · have hE1 : Hid (QE = if recF m ≠ 0 then recF m else if 400000 < l.length + 2 + (msgB m).length then 6 else 0) := by show _ = _; rw [hE0.out, hm]; rfl
    have hl4 : l.length ≤ 400000 := by simp [tapeMay] at hm; omega
    clear hm hE0
    go_wp2_with (refine wpList_load_row rfl 35 _ rfl _ rfl _ _ _ _ hk21 Try.underlying35 rfl (by kernel_rfl) ?_)
    refine (recordFault_any m _ _ _ _ _ _ _ _ r1 Hs.out).mono ?_
    rintro e w7 ⟨rfl, hb7⟩
    have hbl7 := hbl1.trans (hb7.mono hz1)
    have hz7 := hbl7.size
    have hzW7 := Nat.le_trans hzW1 hb7.size
    have hk17 := hk11.kept hb7
    have hk27 := hk21.kept hb7
    have hk37 := hk31.kept hb7
    have r7 := r1.mono (vle_below hb7)
    clear hk11 hk21 hk31 r1
    obtain ⟨RF, hRF⟩ : ∃ q, Hid (recF m = q) := ⟨_, rfl⟩
    rw [hRF.out]
    rw [hRF.out] at hE1
    by_cases hr0 : RF = 0
    · have hM0 := Lib.hid (rec_msg (hRF.out.trans hr0))
      have HB := Lib.hid (msgB_len hM0.out)
      have hE2 : Hid (QE = if 400000 < l.length + 2 + (msgB m).length then 6 else 0) := by show _ = _; rw [hE1.out, hr0]; rfl
      clear hE1 hRF
      subst hr0
      go_wp2_with (refine wpList_load_row rfl 35 _ rfl _ rfl _ _ _ _ hk27 Try.underlying35 rfl (by kernel_rfl) ?_)
      refine (msgBytes_any m _ _ _ _ _ _ _ _ r7 Hs.out).mono ?_
      rintro e w8 ⟨d2, rfl, hb8, hr8⟩
      rw [hM0.out]
      have hbl8 := hbl7.trans (hb8.mono hz7)
      have hz8 := hbl8.size
      have hzW8 := Nat.le_trans hzW7 hb8.size
      have hk18 := hk17.kept hb8
      have hk38 := hk37.kept hb8
      have hF : Hid (appF m = [byteI ((msgB m).length / 256 : Nat), byteI ((msgB m).length : Nat)] ++ msgB m) := rfl
      rw [show msgBR m = msgB m from if_pos hM0.out] at hr8
      have hr8 := hr8.mono (View.from_le _ _)
      clear hk17 hk27 hk37 r7
      generalize appF m = F at hF hL0
      generalize msgB m = B at HB hE2 hF hr8
      have hBl := HB.out
      obtain ⟨B2, c2, rfl, hf2⟩ := id hr8
      clear hf2
      have e1 := byteI_wrap ((B.length / 256 : Nat) : Int)
      have e2 := byteI_wrap (B.length : Nat)
      generalize byteI ((B.length / 256 : Nat) : Int) = U1 at e1 hF
      generalize byteI (B.length : Nat) = U2 at e2 hF
      obtain ⟨nb, hnb⟩ : ∃ n, Hid (B.length = n) := ⟨_, rfl⟩
      rw [hnb.out] at e1 e2 hE2 hBl hr8 ⊢
      have e1' : IntKind.u8.wrap ((nb : Int) / 256) = (U1.toNat : Int) := by rw [← e1]; congr 1
      have e2' : IntKind.u8.wrap ((nb : Int) % 256) = (U2.toNat : Int) := by have := e2; rw [IntKind.wrap_u8] at this ⊢; omega
      have t1 : Int.tdiv (nb : Int) 256 = (nb : Int) / 256 := Int.tdiv_eq_ediv_of_nonneg (by omega)
      have t2 : Int.tmod (nb : Int) 256 = (nb : Int) % 256 := Int.tmod_eq_emod_of_nonneg (by omega)
      have hFl : F.length = nb + 2 := by rw [hF.out]; simp only [List.length_append, List.length_cons, List.length_nil]; rw [hnb.out]; omega
      go_wp2_with fail
      refine one_block _ _ _ (fun W => Calls Try.prog _ _ W _) (fun W9 hk9 hsz9 hb9 => ?_)
      have h9 : OwnB W9 w8.heap.size (.slice (some ⟨w8.heap.size, 0, none⟩) 2 2) [U1, U2] := OwnVec.lit (xs := [U1, U2]) hk9 (Nat.le_refl _) rfl (by decide)
      refine (joined_any _ _ [U1, U2] B _ (h9.reads (bs := 1) (by simp)) (hr8.mono (vle_below hb9)) 140737488355328 (Nat.le_refl _) (by rw [hnb.out]; simp only [List.length_cons, List.length_nil]; omega)).mono ?_
      rintro e w10 ⟨v10, rfl, hb10, o10⟩
      rw [← hF.out] at o10
      have hb810 := hb9.trans (hb10.mono hb9.size)
      have hbl10 := hbl8.trans (hb810.mono hz8)
      have hz10 := hbl10.size
      have hk110 := hk18.kept hb810
      have hk310 := hk38.kept hb810
      obtain ⟨A10, c10, rfl⟩ := o10.form
      have HFl := Lib.hid hFl
      rw [hFl] at o10
      rw [hFl]
      clear hk9 hsz9 h9 hr8 hk18 hk38 e1 e2 e1' e2' t1 t2 hFl
      have g0 := hk110.cell 0; have g1 := hk110.cell 1
      simp at g0 g1
      by_cases hfull : 400000 < l.length + 2 + nb
      · have HE : Hid (QE = 6) := by show _ = _; rw [hE2.out, if_pos hfull]
        have HA : Hid (QA = 0) := by show _ = _; rw [hA0.out, HE.out]; rfl
        have HL : Hid (QL = []) := by show _ = _; rw [hL0.out, HE.out]; rfl
        have hfull' : (400000 : Int) < l.length + (nb + 2) := by omega
        clear hE2 hA0 hL0
        go_wp2_with (refine wpList_store_whole (n := 2) rfl rfl rfl rfl (by kernel_rfl) rfl hk310 rfl rfl ?_)
        intro w11 hB11 hg11
        go_wp2
        refine bodyPost_ret (results_blk_tmp rfl rfl (by kernel_rfl) (by kernel_rfl) hB11 rfl) rfl ?_
        exact ⟨_, by rw [HE.out, HA.out]; rfl, below_grownBy hbl10 hz10 hg11 (by intro k e; injection e; omega), by rw [HL.out]; exact RVec.nil _ _ _⟩
      · have HE : Hid (QE = 0) := by show _ = _; rw [hE2.out, if_neg hfull]
        have HA : Hid (QA = a) := by show _ = _; rw [hA0.out, HE.out]; rfl
        have HL : Hid (QL = l ++ F) := by show _ = _; rw [hL0.out, HE.out]; rfl
        obtain ⟨s0, hs0⟩ : ∃ s0 : Int, Hid ((l.length : Int) + (nb + 2) = s0) := ⟨_, rfl⟩
        have hfull' : ¬ (400000 : Int) < s0 := by have := hs0.out; omega
        have hs0' : (l.length : Int) + (nb + 2) = s0 := hs0.out
        clear hE2 hA0 hL0
        have hQl := Lib.hid (show QL.length ≤ 400002 by rw [HL.out, List.length_append, HFl.out]; omega)
        have Hsz := Lib.hid (show l.length + (nb + 2) ≤ 400000 by omega)
        clear hfull hl4 hBl
        have rF : RBytes w10.cell? (.slice A10 (nb + 2) c10) F := by have := o10.reads (bs := 1) (by rw [HFl.out]; have := Hsz.out; omega); exact this
        have rl := Hv.out.mono (vle_below hbl10)
        go_wp2_with fail
        refine wp_region_pl0 (fun w' => Below w10.heap.size w10 w') (fun w' => Below w10.heap.size w10 w') [7, 8] (.q 0 (.q 1 (.q 2 (.q 4 (.q 5 (.l 3 (.q 6 (.l 7 (.qc 8 .nil))))))))) (by kernel_rfl) (by kernel_rfl) (fun _ _ d _ _ h => by cases d <;> exact h) rfl (by kernel_rfl) ?_ ?_
        · exact ⟨below_drew _, below_drew _⟩
        intro W11 _ hS1
        repeat (first
          | (refine pl_q (by assumption) rfl rfl ?_; apply Exists.intro; refine ⟨fun w' hS => ?_, ?_⟩; (· (have hq := hk110.kept hS; have h0 := hq.cell 0; have h1 := hq.cell 1; simp at h0 h1; go_simp; exact rfl)); simp only [List.getElem_toArray, List.getElem_cons_zero, List.getElem_cons_succ, Act.put, List.setIfInBounds_toArray, List.set_cons_zero, List.set_cons_succ])
          | (refine pl_qc rfl rfl ?_; apply Exists.intro; refine ⟨fun w' _ => ?_, ?_⟩; (· (go_simp; exact rfl)); simp only [List.getElem_toArray, List.getElem_cons_zero, List.getElem_cons_succ, Act.put, List.setIfInBounds_toArray, List.set_cons_zero, List.set_cons_succ])
          | (refine pl_skip (by assumption) rfl rfl ?_; simp only [List.getElem_toArray, List.getElem_cons_zero, List.getElem_cons_succ, Act.put, List.setIfInBounds_toArray, List.set_cons_zero, List.set_cons_succ])
          | (refine pl_skipl (by assumption) rfl rfl ?_; simp only [List.getElem_toArray, List.getElem_cons_zero, List.getElem_cons_succ, Act.put, List.setIfInBounds_toArray, List.set_cons_zero, List.set_cons_succ]))
        first
          | refine pl_do rfl rfl (fun K hK => ?_)
          | refine op_do rfl rfl (fun K hK => ?_)
        try simp only [List.getElem_toArray, List.getElem_cons_zero, List.getElem_cons_succ]
        go_simp
        refine (joined_any _ _ l F _ (rl.mono (vle_below hS1)) (rF.mono (vle_below hS1)) 140737488355328 (Nat.le_refl _) (by rw [HFl.out]; have := Hsz.out; omega)).mono ?_
        rintro e w12 ⟨v12, rfl, hb12, o12⟩
        rw [← HL.out] at o12
        have hS12 := hS1.trans (hb12.mono hS1.size)
        obtain ⟨A12, c12, rfl⟩ := o12.form
        have hk312 := hk310.kept hS12
        refine hK.out _ _ (hS12) (fun hS => ?_)
        clear hK K
        try simp only [List.getElem_toArray, List.getElem_cons_zero, List.getElem_cons_succ, Act.put, List.setIfInBounds_toArray, List.set_cons_zero, List.set_cons_succ]
        repeat (first
          | (refine pl_q (by assumption) rfl rfl ?_; apply Exists.intro; refine ⟨fun w' hS => ?_, ?_⟩; (· (have hq := hk110.kept hS; have h0 := hq.cell 0; have h1 := hq.cell 1; simp at h0 h1; go_simp; exact rfl)); simp only [List.getElem_toArray, List.getElem_cons_zero, List.getElem_cons_succ, Act.put, List.setIfInBounds_toArray, List.set_cons_zero, List.set_cons_succ])
          | (refine pl_qc rfl rfl ?_; apply Exists.intro; refine ⟨fun w' _ => ?_, ?_⟩; (· (go_simp; exact rfl)); simp only [List.getElem_toArray, List.getElem_cons_zero, List.getElem_cons_succ, Act.put, List.setIfInBounds_toArray, List.set_cons_zero, List.set_cons_succ])
          | (refine pl_skip (by assumption) rfl rfl ?_; simp only [List.getElem_toArray, List.getElem_cons_zero, List.getElem_cons_succ, Act.put, List.setIfInBounds_toArray, List.set_cons_zero, List.set_cons_succ])
          | (refine pl_skipl (by assumption) rfl rfl ?_; simp only [List.getElem_toArray, List.getElem_cons_zero, List.getElem_cons_succ, Act.put, List.setIfInBounds_toArray, List.set_cons_zero, List.set_cons_succ]))
        first
          | refine pl_close rfl rfl rfl (fun K hK => ?_)
          | refine op_close rfl rfl rfl (fun K hK => ?_)
        try simp only [List.getElem_toArray, List.getElem_cons_zero, List.getElem_cons_succ]
        refine wp_store_whole (n := 2) rfl rfl rfl (by kernel_rfl) rfl hk312 rfl rfl ?_
        intro w13 hB13 hg13
        have o13 := o12.grown hg13 (by have := hS1.size; have := hb810.size; omega)
        refine hK.out _ _ ?_
        clear hK K
        try simp only [List.getElem_toArray, List.getElem_cons_zero, List.getElem_cons_succ, Act.put, List.setIfInBounds_toArray, List.set_cons_zero, List.set_cons_succ]
        repeat (first
          | (refine pl_q (by assumption) rfl rfl ?_; apply Exists.intro; refine ⟨fun w' hS => ?_, ?_⟩; (· (skip; go_simp; exact rfl)); simp only [List.getElem_toArray, List.getElem_cons_zero, List.getElem_cons_succ, Act.put, List.setIfInBounds_toArray, List.set_cons_zero, List.set_cons_succ])
          | (refine pl_qc rfl rfl ?_; apply Exists.intro; refine ⟨fun w' _ => ?_, ?_⟩; (· (go_simp; exact rfl)); simp only [List.getElem_toArray, List.getElem_cons_zero, List.getElem_cons_succ, Act.put, List.setIfInBounds_toArray, List.set_cons_zero, List.set_cons_succ])
          | (refine pl_skip (by assumption) rfl rfl ?_; simp only [List.getElem_toArray, List.getElem_cons_zero, List.getElem_cons_succ, Act.put, List.setIfInBounds_toArray, List.set_cons_zero, List.set_cons_succ])
          | (refine pl_skipl (by assumption) rfl rfl ?_; simp only [List.getElem_toArray, List.getElem_cons_zero, List.getElem_cons_succ, Act.put, List.setIfInBounds_toArray, List.set_cons_zero, List.set_cons_succ]))
        refine pl_nil ?_
        go_wp2
        refine bodyPost_ret (results_blk_tmp rfl rfl (by kernel_rfl) (by kernel_rfl) hB13 rfl) rfl ?_
        exact ⟨_, by rw [HE.out, HA.out]; rfl, below_grownBy (hbl10.trans (hS12.mono hz10)) (by have := hS12.size; omega) hg13 (by intro k e; injection e; omega), o13.from_ (bs := 1) (by have := hQl.out; omega) (by have := hS1.size; have := hb810.size; omega)⟩
    · have HE : Hid (QE = RF) := by show _ = _; rw [hE1.out, if_pos hr0]
      have HA : Hid (QA = 0) := by show _ = _; rw [hA0.out, HE.out, if_neg hr0]
      have HL : Hid (QL = []) := by show _ = _; rw [hL0.out, HE.out, if_neg hr0]
      clear hA0 hL0 hE1 hRF hk27 r7
      go_wp2_with (refine wpList_store_whole (n := 2) rfl rfl rfl rfl (by kernel_rfl) rfl hk37 rfl rfl ?_)
      intro w8 hB8 hg8
      go_wp2
      refine bodyPost_ret (results_blk_tmp rfl rfl (by kernel_rfl) (by kernel_rfl) hB8 rfl) rfl ?_
      exact ⟨_, by rw [HE.out, HA.out]; rfl, below_grownBy hbl7 hz7 hg8 (by intro k e; injection e; omega), by rw [HL.out]; exact RVec.nil _ _ _⟩
end Go.Proofs.Ytedealljhmokoaa

namespace Go.Proofs.Ytedealljhmokoaa
open Go.ChangeShapes Go.WideShapes Go.ChangeAt Go.RowKit
set_option linter.unusedVariables false
theorem run_op_row {P : Program} {ev : Operand → Value} {o : Oper} {w : World} (ty : TypeId) (x : Operand) (ho : o.op = .load ty x)
    (g : Nat) (hx : ev x = .pointer (some ⟨g, 0, none⟩)) (t : TypeId) (cs : Array Value) (fr : Nat × Nat) (d : TypeDesc) (hg : w.heap[g]? = some (.cells cs t fr))
    (hu : P.underlying ty = some d) (hd : (match d with | .struct _ | .array _ _ => true | _ => false) = true) (hi : (P.info? ty).map (·.size) = some cs.size) : (execOp ev o).run P w = .ok (.value (.agg cs)) w := by
  unfold execOp
  simp only [ho, hx, Instr.loadAt, Instr.sureAddr, Sem.run_bind, Sem.run_pure, Result.andThen_ok, run_loadVar_row w g t ty cs fr d hg hu hd hi]
end Go.Proofs.Ytedealljhmokoaa

namespace Go.Proofs.Ytedealljhmokoaa
open Go.ChangeShapes Go.WideShapes Go.ChangeAt Go.RowKit
set_option linter.unusedVariables false
set_option linter.unusedSimpArgs false
set_option maxHeartbeats 4000000 in
set_option maxRecDepth 100000 in
theorem tapeAppends_any (a : Int) (v : Value) (l : List UInt8) (m : Msg) (vt vb vp vd cb cp cv : Value) (w : World) (hv : RBytes w.cell? v l) (r : RMsg w.cell? m vt vb vp vd cb cp cv) (hs : ∀ s ∈ m.bat.txs, s.size ≤ 140737488355328) :
    Calls Try.prog 5 #[.agg #[v, .int .i64 a], .agg (msgC m vt vb vp vd cb cp cv)] w fun e w' => e = .returned (.bool true) ∧ Below w.heap.size w w' := by
  obtain ⟨A, c, rfl, hform⟩ := id hv
  have Hl1 := Lib.hid (show l.length * 1 ≤ 140737488355328 by omega)
  clear hform
  obtain ⟨⟨tA, tc, rfl⟩, ⟨bA, bc, rfl⟩, ⟨pA, pc, rfl⟩, ⟨dA, dc, rfl⟩, ⟨cA, cc, rfl⟩, ⟨qA, qc, rfl⟩, ⟨vA, vc, rfl⟩⟩ := r.forms
  obtain ⟨QE, hQE⟩ : ∃ q, Hid (appE l a m = q) := ⟨_, rfl⟩
  obtain ⟨QA, hQA⟩ : ∃ q, Hid (appA l a m = q) := ⟨_, rfl⟩
  obtain ⟨QL, hQL⟩ : ∃ q, Hid (appL l a m = q) := ⟨_, rfl⟩
  have Hs := Lib.hid hs
  clear hs
  unfold msgC
  go_enter Try.func5, Try.ntmps5
  go_upto_region 1 with fail
  refine two_blocks _ _ _ _ _ (fun W => Code.wp _ _ _ _ W) (fun W hk1 hk2 hsz hbl => ?_)
  have hz := hbl.size
  have g0 := hk1.cell 0; have g1 := hk1.cell 1
  simp at g0 g1
  clear hsz
  go_wp2_with fail
  refine (tapes_any _ _ l _ (hv.mono (vle_below hbl))).mono ?_
  rintro e w1 ⟨d1, rfl, hb1, o1⟩
  have hbl1 := hbl.trans (hb1.mono hz)
  have hz1 := hbl1.size
  have hk11 := hk1.kept hb1
  have hk21 := hk2.kept hb1
  obtain ⟨A1, c1, rfl⟩ := o1.form
  have r1 := o1.reads (bs := 1) Hl1.out
  clear o1 g0 g1 hk1 hk2
  go_upto_region 2 with fail
  refine one_block _ _ _ (fun W => Code.wp _ _ _ _ W) (fun W2 ht5 hs5 hb5 => ?_)
  clear hs5
  have hbl2 := hbl1.trans (hb5.mono hz1)
  have hz2 := hbl2.size
  have hk12 := hk11.kept hb5
  have hk22 := hk21.kept hb5
  have r2 := r1.mono (vle_below hb5)
  have rm2 := r.mono (vle_below hbl2)
  have hv2 := hv.mono (vle_below hbl2)
  clear hk11 hk21 r1 r
  have hkM : Hid (Blk W2 (w.heap.size + 1) 35 (msgC m (.slice tA m.bat.txs.length tc) (.slice bA m.hdr.batches.length bc) (.slice pA m.hdr.parents.length pc) (.slice dA m.slt.digest.length dc) (.slice cA m.crt.hdr.batches.length cc) (.slice qA m.crt.hdr.parents.length qc) (.slice vA m.crt.voters.length vc))) := hk22
  clear hk22
  go_cut [6, 7] (fun p e w' => ∃ gb A5 c5, p = .pointer (some ⟨gb, 0, none⟩) ∧ e = .int .i64 QE ∧ Blk w' gb 44 #[.slice A5 QL.length c5, .int .i64 QA] ∧ RBytes w'.cell? (.slice A5 QL.length c5) QL ∧ Below W2.heap.size W2 w' ∧ W2.heap.size ≤ gb)
  case first =>
    refine wp_region_pl (fun w' => Below W2.heap.size W2 w') [9] (.q 0 (.q 1 (.alt 2 (.alt 3 (.q 4 (.q 5 (.q 6 (.l 7 (.l 8 (.qc 9 .nil)))))) 7 (.l 3 (.q 4 (.q 5 (.q 6 (.l 8 (.qc 9 .nil))))))) 7 (.l 2 (.l 3 (.q 4 (.q 5 (.q 6 (.l 8 (.qc 9 .nil)))))))))) (by kernel_rfl) (by kernel_rfl) (fun _ _ d _ _ h => by cases d <;> exact h) rfl (by kernel_rfl) ?_ ?_
    · exact below_drew _
    intro W3 hS3
    refine pl_q (by assumption) rfl rfl ?_
    apply Exists.intro
    refine ⟨fun w' hS => run_op_row 44 _ rfl _ rfl _ _ (0, 0) _ (ht5.kept hS) Try.underlying44 rfl (by kernel_rfl), ?_⟩
    simp only [List.getElem_toArray, List.getElem_cons_zero, List.getElem_cons_succ, Act.put, List.setIfInBounds_toArray, List.set_cons_zero, List.set_cons_succ]
    refine pl_q (by assumption) rfl rfl ?_
    apply Exists.intro
    refine ⟨fun w' hS => run_op_row 35 _ rfl _ rfl _ _ (0, 0) _ (hkM.out.kept hS) Try.underlying35 rfl (by kernel_rfl), ?_⟩
    simp only [List.getElem_toArray, List.getElem_cons_zero, List.getElem_cons_succ, Act.put, List.setIfInBounds_toArray, List.set_cons_zero, List.set_cons_succ]
    refine pl_alt ?_ ?_
    · first
        | refine pl_do rfl rfl (fun K hK => ?_)
        | refine op_do rfl rfl (fun K hK => ?_)
      try simp only [List.getElem_toArray, List.getElem_cons_zero, List.getElem_cons_succ]
      go_simp
      refine (messages_any m _ _ _ _ _ _ _ _ (rm2.mono (vle_below hS3))).mono ?_
      rintro e w4 ⟨vt1, vb1, vp1, vd1, cb1, cp1, cv1, rfl, hb4, rr⟩
      have hS4 := hS3.trans (hb4.mono hS3.size)
      have rm4 := rr.mono (View.from_le _ _)
      obtain ⟨⟨tA1, tc1, rfl⟩, ⟨bA1, bc1, rfl⟩, ⟨pA1, pc1, rfl⟩, ⟨dA1, dc1, rfl⟩, ⟨cA1, cc1, rfl⟩, ⟨qA1, qc1, rfl⟩, ⟨vA1, vc1, rfl⟩⟩ := rm4.forms
      clear rr
      refine hK.out _ _ (hS4) (fun hS => ?_)
      clear hK K
      try simp only [List.getElem_toArray, List.getElem_cons_zero, List.getElem_cons_succ, Act.put, List.setIfInBounds_toArray, List.set_cons_zero, List.set_cons_succ]
      repeat (first
        | (refine pl_q (by assumption) rfl rfl ?_; apply Exists.intro; refine ⟨fun w' hS => ?_, ?_⟩; (· (skip; go_simp; exact rfl)); simp only [List.getElem_toArray, List.getElem_cons_zero, List.getElem_cons_succ, Act.put, List.setIfInBounds_toArray, List.set_cons_zero, List.set_cons_succ])
        | (refine pl_qc rfl rfl ?_; apply Exists.intro; refine ⟨fun w' _ => ?_, ?_⟩; (· (go_simp; exact rfl)); simp only [List.getElem_toArray, List.getElem_cons_zero, List.getElem_cons_succ, Act.put, List.setIfInBounds_toArray, List.set_cons_zero, List.set_cons_succ])
        | (refine pl_skip (by assumption) rfl rfl ?_; simp only [List.getElem_toArray, List.getElem_cons_zero, List.getElem_cons_succ, Act.put, List.setIfInBounds_toArray, List.set_cons_zero, List.set_cons_succ])
        | (refine pl_skipl (by assumption) rfl rfl ?_; simp only [List.getElem_toArray, List.getElem_cons_zero, List.getElem_cons_succ, Act.put, List.setIfInBounds_toArray, List.set_cons_zero, List.set_cons_succ]))
      refine pl_alt ?_ ?_
      · first
          | refine pl_do rfl rfl (fun K hK => ?_)
          | refine op_do rfl rfl (fun K hK => ?_)
        try simp only [List.getElem_toArray, List.getElem_cons_zero, List.getElem_cons_succ]
        go_simp
        refine (append_any a _ l m _ _ _ _ _ _ _ _ (r2.mono (vle_below hS4)) rm4 Hs.out).mono ?_
        rintro e w5 ⟨d5, rfl, hb6, rd5⟩
        rw [hQE.out, hQA.out]
        rw [hQL.out] at rd5
        have hS5 := hS4.trans (hb6.mono hS4.size)
        obtain ⟨A5, c5, rfl, hf5⟩ := id rd5
        clear hf5
        refine hK.out _ _ (hS5) (fun hS => ?_)
        clear hK K
        try simp only [List.getElem_toArray, List.getElem_cons_zero, List.getElem_cons_succ, Act.put, List.setIfInBounds_toArray, List.set_cons_zero, List.set_cons_succ]
        repeat (first
          | (refine pl_q (by assumption) rfl rfl ?_; apply Exists.intro; refine ⟨fun w' hS => ?_, ?_⟩; (· (skip; go_simp; exact rfl)); simp only [List.getElem_toArray, List.getElem_cons_zero, List.getElem_cons_succ, Act.put, List.setIfInBounds_toArray, List.set_cons_zero, List.set_cons_succ])
          | (refine pl_qc rfl rfl ?_; apply Exists.intro; refine ⟨fun w' _ => ?_, ?_⟩; (· (go_simp; exact rfl)); simp only [List.getElem_toArray, List.getElem_cons_zero, List.getElem_cons_succ, Act.put, List.setIfInBounds_toArray, List.set_cons_zero, List.set_cons_succ])
          | (refine pl_skip (by assumption) rfl rfl ?_; simp only [List.getElem_toArray, List.getElem_cons_zero, List.getElem_cons_succ, Act.put, List.setIfInBounds_toArray, List.set_cons_zero, List.set_cons_succ])
          | (refine pl_skipl (by assumption) rfl rfl ?_; simp only [List.getElem_toArray, List.getElem_cons_zero, List.getElem_cons_succ, Act.put, List.setIfInBounds_toArray, List.set_cons_zero, List.set_cons_succ]))
        first
          | refine pl_do rfl rfl (fun K hK => ?_)
          | refine op_do rfl rfl (fun K hK => ?_)
        try simp only [List.getElem_toArray, List.getElem_cons_zero, List.getElem_cons_succ]
        go_simp
        have hn6 := Blk.new w5 44 #[.slice none 0 0, .int .i64 0]
        have hb66 := below_one w5 (.cells #[.slice none 0 0, .int .i64 0] 44)
        have hS6 := hS5.trans (hb66.mono hS5.size)
        have hgbW := hS5.size
        refine hK.out _ _ (hS6) (fun hS => ?_)
        clear hK K
        try simp only [List.getElem_toArray, List.getElem_cons_zero, List.getElem_cons_succ, Act.put, List.setIfInBounds_toArray, List.set_cons_zero, List.set_cons_succ]
        first
          | refine pl_do rfl rfl (fun K hK => ?_)
          | refine op_do rfl rfl (fun K hK => ?_)
        try simp only [List.getElem_toArray, List.getElem_cons_zero, List.getElem_cons_succ]
        refine wp_store_whole (n := 2) rfl rfl rfl (by kernel_rfl) rfl hn6 rfl rfl ?_
        intro w7 hB7 hg7
        have hS7 : Below W2.heap.size W2 w7 := below_grownBy hS6 hS6.size hg7 (by intro k e; injection e; omega)
        have rd7 := (rd5.mono (View.from_le _ _)).mono ((vle_below_but hb66 (Nat.le_refl _)).trans (vle_grown hg7))
        refine hK.out _ _ (hS7) (fun hS => ?_)
        clear hK K
        try simp only [List.getElem_toArray, List.getElem_cons_zero, List.getElem_cons_succ, Act.put, List.setIfInBounds_toArray, List.set_cons_zero, List.set_cons_succ]
        repeat (first
          | (refine pl_q (by assumption) rfl rfl ?_; apply Exists.intro; refine ⟨fun w' hS => ?_, ?_⟩; (· (skip; go_simp; exact rfl)); simp only [List.getElem_toArray, List.getElem_cons_zero, List.getElem_cons_succ, Act.put, List.setIfInBounds_toArray, List.set_cons_zero, List.set_cons_succ])
          | (refine pl_qc rfl rfl ?_; apply Exists.intro; refine ⟨fun w' _ => ?_, ?_⟩; (· (go_simp; exact rfl)); simp only [List.getElem_toArray, List.getElem_cons_zero, List.getElem_cons_succ, Act.put, List.setIfInBounds_toArray, List.set_cons_zero, List.set_cons_succ])
          | (refine pl_skip (by assumption) rfl rfl ?_; simp only [List.getElem_toArray, List.getElem_cons_zero, List.getElem_cons_succ, Act.put, List.setIfInBounds_toArray, List.set_cons_zero, List.set_cons_succ])
          | (refine pl_skipl (by assumption) rfl rfl ?_; simp only [List.getElem_toArray, List.getElem_cons_zero, List.getElem_cons_succ, Act.put, List.setIfInBounds_toArray, List.set_cons_zero, List.set_cons_succ]))
        refine pl_nil ?_
        go_wp2_with fail
        go_meet
        exact ⟨_, _, _, rfl, rfl, hB7, rd7, hS7, hgbW⟩
      · first
          | refine pl_do rfl rfl (fun K hK => ?_)
          | refine op_do rfl rfl (fun K hK => ?_)
        try simp only [List.getElem_toArray, List.getElem_cons_zero, List.getElem_cons_succ]
        go_simp
        have hn6 := Blk.new w4 44 #[.slice none 0 0, .int .i64 0]
        have hb66 := below_one w4 (.cells #[.slice none 0 0, .int .i64 0] 44)
        have hS6 := hS4.trans (hb66.mono hS4.size)
        have hgbW := hS4.size
        refine hK.out _ _ (hS6) (fun hS => ?_)
        clear hK K
        try simp only [List.getElem_toArray, List.getElem_cons_zero, List.getElem_cons_succ, Act.put, List.setIfInBounds_toArray, List.set_cons_zero, List.set_cons_succ]
        first
          | refine pl_do rfl rfl (fun K hK => ?_)
          | refine op_do rfl rfl (fun K hK => ?_)
        try simp only [List.getElem_toArray, List.getElem_cons_zero, List.getElem_cons_succ]
        go_simp
        refine (append_any a _ l m _ _ _ _ _ _ _ _ (r2.mono (vle_below hS6)) (rm4.mono (vle_below hb66)) Hs.out).mono ?_
        rintro e w5 ⟨d5, rfl, hb6, rd5⟩
        rw [hQE.out, hQA.out]
        rw [hQL.out] at rd5
        have hS5 := hS6.trans (hb6.mono hS6.size)
        obtain ⟨A5, c5, rfl, hf5⟩ := id rd5
        clear hf5
        refine hK.out _ _ (hS5) (fun hS => ?_)
        clear hK K
        try simp only [List.getElem_toArray, List.getElem_cons_zero, List.getElem_cons_succ, Act.put, List.setIfInBounds_toArray, List.set_cons_zero, List.set_cons_succ]
        repeat (first
          | (refine pl_q (by assumption) rfl rfl ?_; apply Exists.intro; refine ⟨fun w' hS => ?_, ?_⟩; (· (skip; go_simp; exact rfl)); simp only [List.getElem_toArray, List.getElem_cons_zero, List.getElem_cons_succ, Act.put, List.setIfInBounds_toArray, List.set_cons_zero, List.set_cons_succ])
          | (refine pl_qc rfl rfl ?_; apply Exists.intro; refine ⟨fun w' _ => ?_, ?_⟩; (· (go_simp; exact rfl)); simp only [List.getElem_toArray, List.getElem_cons_zero, List.getElem_cons_succ, Act.put, List.setIfInBounds_toArray, List.set_cons_zero, List.set_cons_succ])
          | (refine pl_skip (by assumption) rfl rfl ?_; simp only [List.getElem_toArray, List.getElem_cons_zero, List.getElem_cons_succ, Act.put, List.setIfInBounds_toArray, List.set_cons_zero, List.set_cons_succ])
          | (refine pl_skipl (by assumption) rfl rfl ?_; simp only [List.getElem_toArray, List.getElem_cons_zero, List.getElem_cons_succ, Act.put, List.setIfInBounds_toArray, List.set_cons_zero, List.set_cons_succ]))
        first
          | refine pl_do rfl rfl (fun K hK => ?_)
          | refine op_do rfl rfl (fun K hK => ?_)
        try simp only [List.getElem_toArray, List.getElem_cons_zero, List.getElem_cons_succ]
        refine wp_store_whole (n := 2) rfl rfl rfl (by kernel_rfl) rfl (hn6.kept hb6) rfl rfl ?_
        intro w7 hB7 hg7
        have hS7 : Below W2.heap.size W2 w7 := below_grownBy hS5 hS5.size hg7 (by intro k e; injection e; omega)
        have rd7 := rd5.mono ((from_but (by simp)).trans (vle_grown hg7))
        refine hK.out _ _ (hS7) (fun hS => ?_)
        clear hK K
        try simp only [List.getElem_toArray, List.getElem_cons_zero, List.getElem_cons_succ, Act.put, List.setIfInBounds_toArray, List.set_cons_zero, List.set_cons_succ]
        repeat (first
          | (refine pl_q (by assumption) rfl rfl ?_; apply Exists.intro; refine ⟨fun w' hS => ?_, ?_⟩; (· (skip; go_simp; exact rfl)); simp only [List.getElem_toArray, List.getElem_cons_zero, List.getElem_cons_succ, Act.put, List.setIfInBounds_toArray, List.set_cons_zero, List.set_cons_succ])
          | (refine pl_qc rfl rfl ?_; apply Exists.intro; refine ⟨fun w' _ => ?_, ?_⟩; (· (go_simp; exact rfl)); simp only [List.getElem_toArray, List.getElem_cons_zero, List.getElem_cons_succ, Act.put, List.setIfInBounds_toArray, List.set_cons_zero, List.set_cons_succ])
          | (refine pl_skip (by assumption) rfl rfl ?_; simp only [List.getElem_toArray, List.getElem_cons_zero, List.getElem_cons_succ, Act.put, List.setIfInBounds_toArray, List.set_cons_zero, List.set_cons_succ])
          | (refine pl_skipl (by assumption) rfl rfl ?_; simp only [List.getElem_toArray, List.getElem_cons_zero, List.getElem_cons_succ, Act.put, List.setIfInBounds_toArray, List.set_cons_zero, List.set_cons_succ]))
        refine pl_nil ?_
        go_wp2_with fail
        go_meet
        exact ⟨_, _, _, rfl, rfl, hB7, rd7, hS7, hgbW⟩
    · first
        | refine pl_do rfl rfl (fun K hK => ?_)
        | refine op_do rfl rfl (fun K hK => ?_)
      try simp only [List.getElem_toArray, List.getElem_cons_zero, List.getElem_cons_succ]
      go_simp
      have hn6 := Blk.new W3 44 #[.slice none 0 0, .int .i64 0]
      have hb66 := below_one W3 (.cells #[.slice none 0 0, .int .i64 0] 44)
      have hS6 := hS3.trans (hb66.mono hS3.size)
      have hgbW := hS3.size
      refine hK.out _ _ (hS6) (fun hS => ?_)
      clear hK K
      try simp only [List.getElem_toArray, List.getElem_cons_zero, List.getElem_cons_succ, Act.put, List.setIfInBounds_toArray, List.set_cons_zero, List.set_cons_succ]
      first
        | refine pl_do rfl rfl (fun K hK => ?_)
        | refine op_do rfl rfl (fun K hK => ?_)
      try simp only [List.getElem_toArray, List.getElem_cons_zero, List.getElem_cons_succ]
      go_simp
      refine (messages_any m _ _ _ _ _ _ _ _ (rm2.mono (vle_below hS6))).mono ?_
      rintro e w4 ⟨vt1, vb1, vp1, vd1, cb1, cp1, cv1, rfl, hb4, rr⟩
      have hS4 := hS6.trans (hb4.mono hS6.size)
      have rm4 := rr.mono (View.from_le _ _)
      obtain ⟨⟨tA1, tc1, rfl⟩, ⟨bA1, bc1, rfl⟩, ⟨pA1, pc1, rfl⟩, ⟨dA1, dc1, rfl⟩, ⟨cA1, cc1, rfl⟩, ⟨qA1, qc1, rfl⟩, ⟨vA1, vc1, rfl⟩⟩ := rm4.forms
      clear rr
      refine hK.out _ _ (hS4) (fun hS => ?_)
      clear hK K
      try simp only [List.getElem_toArray, List.getElem_cons_zero, List.getElem_cons_succ, Act.put, List.setIfInBounds_toArray, List.set_cons_zero, List.set_cons_succ]
      repeat (first
        | (refine pl_q (by assumption) rfl rfl ?_; apply Exists.intro; refine ⟨fun w' hS => ?_, ?_⟩; (· (skip; go_simp; exact rfl)); simp only [List.getElem_toArray, List.getElem_cons_zero, List.getElem_cons_succ, Act.put, List.setIfInBounds_toArray, List.set_cons_zero, List.set_cons_succ])
        | (refine pl_qc rfl rfl ?_; apply Exists.intro; refine ⟨fun w' _ => ?_, ?_⟩; (· (go_simp; exact rfl)); simp only [List.getElem_toArray, List.getElem_cons_zero, List.getElem_cons_succ, Act.put, List.setIfInBounds_toArray, List.set_cons_zero, List.set_cons_succ])
        | (refine pl_skip (by assumption) rfl rfl ?_; simp only [List.getElem_toArray, List.getElem_cons_zero, List.getElem_cons_succ, Act.put, List.setIfInBounds_toArray, List.set_cons_zero, List.set_cons_succ])
        | (refine pl_skipl (by assumption) rfl rfl ?_; simp only [List.getElem_toArray, List.getElem_cons_zero, List.getElem_cons_succ, Act.put, List.setIfInBounds_toArray, List.set_cons_zero, List.set_cons_succ]))
      first
        | refine pl_do rfl rfl (fun K hK => ?_)
        | refine op_do rfl rfl (fun K hK => ?_)
      try simp only [List.getElem_toArray, List.getElem_cons_zero, List.getElem_cons_succ]
      go_simp
      refine (append_any a _ l m _ _ _ _ _ _ _ _ (r2.mono (vle_below hS4)) rm4 Hs.out).mono ?_
      rintro e w5 ⟨d5, rfl, hb6, rd5⟩
      rw [hQE.out, hQA.out]
      rw [hQL.out] at rd5
      have hS5 := hS4.trans (hb6.mono hS4.size)
      obtain ⟨A5, c5, rfl, hf5⟩ := id rd5
      clear hf5
      refine hK.out _ _ (hS5) (fun hS => ?_)
      clear hK K
      try simp only [List.getElem_toArray, List.getElem_cons_zero, List.getElem_cons_succ, Act.put, List.setIfInBounds_toArray, List.set_cons_zero, List.set_cons_succ]
      repeat (first
        | (refine pl_q (by assumption) rfl rfl ?_; apply Exists.intro; refine ⟨fun w' hS => ?_, ?_⟩; (· (skip; go_simp; exact rfl)); simp only [List.getElem_toArray, List.getElem_cons_zero, List.getElem_cons_succ, Act.put, List.setIfInBounds_toArray, List.set_cons_zero, List.set_cons_succ])
        | (refine pl_qc rfl rfl ?_; apply Exists.intro; refine ⟨fun w' _ => ?_, ?_⟩; (· (go_simp; exact rfl)); simp only [List.getElem_toArray, List.getElem_cons_zero, List.getElem_cons_succ, Act.put, List.setIfInBounds_toArray, List.set_cons_zero, List.set_cons_succ])
        | (refine pl_skip (by assumption) rfl rfl ?_; simp only [List.getElem_toArray, List.getElem_cons_zero, List.getElem_cons_succ, Act.put, List.setIfInBounds_toArray, List.set_cons_zero, List.set_cons_succ])
        | (refine pl_skipl (by assumption) rfl rfl ?_; simp only [List.getElem_toArray, List.getElem_cons_zero, List.getElem_cons_succ, Act.put, List.setIfInBounds_toArray, List.set_cons_zero, List.set_cons_succ]))
      first
        | refine pl_do rfl rfl (fun K hK => ?_)
        | refine op_do rfl rfl (fun K hK => ?_)
      try simp only [List.getElem_toArray, List.getElem_cons_zero, List.getElem_cons_succ]
      refine wp_store_whole (n := 2) rfl rfl rfl (by kernel_rfl) rfl ((hn6.kept hb4).kept hb6) rfl rfl ?_
      intro w7 hB7 hg7
      have hS7 : Below W2.heap.size W2 w7 := below_grownBy hS5 hS5.size hg7 (by intro k e; injection e; omega)
      have rd7 := rd5.mono ((from_but (by have := hb4.size; simp at this; omega)).trans (vle_grown hg7))
      refine hK.out _ _ (hS7) (fun hS => ?_)
      clear hK K
      try simp only [List.getElem_toArray, List.getElem_cons_zero, List.getElem_cons_succ, Act.put, List.setIfInBounds_toArray, List.set_cons_zero, List.set_cons_succ]
      repeat (first
        | (refine pl_q (by assumption) rfl rfl ?_; apply Exists.intro; refine ⟨fun w' hS => ?_, ?_⟩; (· (skip; go_simp; exact rfl)); simp only [List.getElem_toArray, List.getElem_cons_zero, List.getElem_cons_succ, Act.put, List.setIfInBounds_toArray, List.set_cons_zero, List.set_cons_succ])
        | (refine pl_qc rfl rfl ?_; apply Exists.intro; refine ⟨fun w' _ => ?_, ?_⟩; (· (go_simp; exact rfl)); simp only [List.getElem_toArray, List.getElem_cons_zero, List.getElem_cons_succ, Act.put, List.setIfInBounds_toArray, List.set_cons_zero, List.set_cons_succ])
        | (refine pl_skip (by assumption) rfl rfl ?_; simp only [List.getElem_toArray, List.getElem_cons_zero, List.getElem_cons_succ, Act.put, List.setIfInBounds_toArray, List.set_cons_zero, List.set_cons_succ])
        | (refine pl_skipl (by assumption) rfl rfl ?_; simp only [List.getElem_toArray, List.getElem_cons_zero, List.getElem_cons_succ, Act.put, List.setIfInBounds_toArray, List.set_cons_zero, List.set_cons_succ]))
      refine pl_nil ?_
      go_wp2_with fail
      go_meet
      exact ⟨_, _, _, rfl, rfl, hB7, rd7, hS7, hgbW⟩
  case rest =>
    obtain ⟨gb, A5, c5, rfl, rfl, hB7, rd7, hS7, hgb⟩ := hcut
    have hk17 := hk12.kept hS7
    have hk27 := hkM.out.kept hS7
    have h57 := ht5.kept hS7
    have hbl7 := hbl2.trans (hS7.mono hz2)
    have r57 := r2.mono (vle_below hS7)
    clear hk12 hkM ht5
    have g0 := hk17.cell 0; have g1 := hk17.cell 1
    simp at g0 g1
    have hk27' : Blk wc (w.heap.size + 1) 35 #[.int .i64 m.src, .int .i64 m.dst, .int .i64 m.kind, .int .i64 m.bat.author, .int .i64 m.bat.number, .slice tA m.bat.txs.length tc, .int .i64 m.hdr.author, .int .i64 m.hdr.round, .slice bA m.hdr.batches.length bc, .slice pA m.hdr.parents.length pc, .int .i64 m.slt.author, .int .i64 m.slt.round, .slice dA m.slt.digest.length dc, .int .i64 m.crt.hdr.author, .int .i64 m.crt.hdr.round, .slice cA m.crt.hdr.batches.length cc, .slice qA m.crt.hdr.parents.length qc, .slice vA m.crt.voters.length vc, .int .i64 m.round] := hk27
    clear hk27
    go_wp2_with (refine wpList_load_row rfl 35 _ rfl _ rfl _ _ _ _ hk27' Try.underlying35 rfl (by kernel_rfl) ?_)
    refine (tapeAppended_any a _ l m _ _ _ _ _ _ _ _ (hv.mono (vle_below hbl7)) (rm2.mono (vle_below hS7)) Hs.out).mono ?_
    rintro e w8 ⟨d8, rfl, hb8, rd8⟩
    rw [hQE.out, hQA.out]
    rw [hQL.out] at rd8
    have rd8' := rd8.mono (View.from_le _ _)
    obtain ⟨A8, c8, rfl, hf8⟩ := id rd8
    clear hf8 rd8 g0 g1 hk27'
    have hbl8 := hbl7.trans (hb8.mono hbl7.size)
    have hz8 := hbl8.size
    have hB8 := hB7.kept hb8
    have h58 := h57.kept hb8
    have hk18 := hk17.kept hb8
    have rd78 := rd7.mono (vle_below hb8)
    have r58 := r57.mono (vle_below hb8)
    clear hB7 h57 hk17 rd7 r57
    go_upto_region 4 with fail
    refine one_block _ _ _ (fun W => Code.wp _ _ _ _ W) (fun W9 h9 hs9 hb9 => ?_)
    clear hs9
    have hbl9 := hbl8.trans (hb9.mono hz8)
    have hz9 := hbl9.size
    have hB9 := hB8.kept hb9
    have h59 := h58.kept hb9
    have hk19 := hk18.kept hb9
    have x0 := hB9.cell 0; have x1 := hB9.cell 1; have y0 := h9.cell 0; have y1 := h9.cell 1
    simp at x0 x1 y0 y1
    have rx := rd78.mono (vle_below hb9)
    have ry := rd8'.mono (vle_below hb9)
    go_wp2_with fail
    refine (sameTape_any _ _ QL QL _ _ _ rx ry).mono ?_
    rintro e w10 ⟨rfl, hb10⟩
    have hbl10 := hbl9.trans (hb10.mono hz9)
    have h510 := h59.kept hb10
    have hk110 := hk19.kept hb10
    have z0 := h510.cell 0; have z1 := h510.cell 1; have g0 := hk110.cell 0; have g1 := hk110.cell 1
    simp at z0 z1 g0 g1
    rw [show (QA == QA && QL == QL) = true from by simp]
    clear x0 x1 y0 y1 rx ry hB8 hB9 h58 h59 hk18 hk19
    go_wp2_with fail
    refine (sameTape_any _ _ l l _ _ _ ((r58.mono (vle_below hb9)).mono (vle_below hb10)) (hv.mono (vle_below hbl10))).mono ?_
    rintro e w11 ⟨rfl, hb11⟩
    rw [show (a == a && l == l) = true from by simp]
    clear z0 z1 g0 g1
    go_wp2
    go_ret
    exact ⟨rfl, hbl10.trans (hb11.mono hbl10.size)⟩
set_option maxHeartbeats 1000000 in
set_option maxRecDepth 100000 in
theorem tapeAppends_open {H : Type} {enc : TypeId × Value → H} (W : World) {base : Nat} {v v1 : Value} {d d1 : DataW H} {p p1 : List MemPlace} (hval : Value.okWide Try.prog W .any base 44 v) (h : DataW.Trod enc Try.prog W 0 (fun _ => true) true 44 v d p)
    (hw : ∀ n ∈ DataW.weights Try.prog 44 d, n ≤ reachBytes) (hval1 : Value.okWide Try.prog W .any base 35 v1) (h1 : DataW.Trod enc Try.prog W 0 (fun _ => true) true 35 v1 d1 p1)
    (hw1 : ∀ n ∈ DataW.weights Try.prog 35 d1, n ≤ reachBytes) : Calls Try.prog 5 #[v, v1] W fun e w' => e = .returned (.bool true) ∧ Below W.heap.size W w' := by
  obtain ⟨a, l, x, rfl, hl, _, _⟩ := open_tape hval h hw
  obtain ⟨m, vt, vb, vp, vd, cb, cp, cv, rfl, r, hs⟩ := open_msg hval1 h1 hw1
  exact tapeAppends_any a _ l m _ _ _ _ _ _ _ _ hl r hs
set_option maxRecDepth 100000 in
theorem tapeAppends_lifted (os : Os) (started : os.Started) (H : Type) (enc : TypeId × Value → H) :
    ReturnsInHanded {} Try.checked os 5 .any (Rows.tapeAppendsSpec.pre6 enc Try.prog Try.f5 Rows.tapeAppendsRow.domain false) (Rows.tapeAppendsSpec.post enc Try.prog Try.f5 false true false false) := by
  refine returnsInHanded_of_change_sized (C := Try.checked) own_ started (by kernel_rfl) Try.func5
    (ChangeSpec.witness6 (enc := enc) (C := Try.checked) false ⟨#[], #[.agg #[.slice none 0 0, .int .i64 0], .agg #[.int .i64 0, .int .i64 0, .int .i64 0, .int .i64 0, .int .i64 0, .slice none 0 0, .int .i64 0, .int .i64 0, .slice none 0 0, .slice none 0 0, .int .i64 0, .int .i64 0, .slice none 0 0, .int .i64 0, .int .i64 0, .slice none 0 0, .slice none 0 0, .slice none 0 0, .int .i64 0]], []⟩ 8 (by kernel_rfl) (by kernel_rfl) (by kernel_rfl) (by kernel_rfl) (by kernel_rfl)) ?_
  intro W base args ds gs before hval hW _ hsz _
  have hW' := hW
  obtain ⟨p, q, hA, hV, rfl, hfz, hnd⟩ := hW
  obtain ⟨rfl, rfl⟩ := trodVars_none hV
  rw [Try.params5] at hA hval hsz
  obtain ⟨v0, v1, d0, d1, p0, p1, rfl, rfl, rfl, h0, h1⟩ := trodAll_two hA
  have hs0 : ∀ n ∈ DataW.weights Try.prog _ d0, n ≤ reachBytes := fun n hn => by simpa using List.all_eq_true.1 hsz n (DataW.weights_mem_each (j := 0) rfl rfl n hn)
  have hs1 : ∀ n ∈ DataW.weights Try.prog _ d1, n ≤ reachBytes := fun n hn => by simpa using List.all_eq_true.1 hsz n (DataW.weights_mem_each (j := 1) rfl rfl n hn)
  refine (tapeAppends_open W (hval 0 _ _ rfl rfl) h0 hs0 (hval 1 _ _ rfl rfl) h1 hs1).mono fun e W' ⟨he, hb⟩ => ?_
  exact law_close laidOut (b := 4) rfl Try.underlying4 rfl (readables _ (by kernel_rfl)) rfl hW' he hb
theorem tapeAppends_holds : Rows.TapeAppendsSaid :=
  OpenClaim.holds_of_wide 5 Try.f5 rfl rfl rfl rfl rfl rfl rfl ⟨rfl, rfl, rfl, rfl, rfl⟩ rfl rfl rfl rfl rfl (by kernel_rfl) Try.func5 (by kernel_rfl)
    (of_decide_eq_true (by kernel_rfl)) (by unfold Func.isWrapper; first | (rw [if_pos (by decide +kernel)]; kernel_rfl) | (rw [if_neg (by decide +kernel)]; exact ⟨rfl, rfl⟩))
    (fun os started H enc _ => tapeAppends_lifted os started H enc)
end Go.Proofs.Ytedealljhmokoaa
