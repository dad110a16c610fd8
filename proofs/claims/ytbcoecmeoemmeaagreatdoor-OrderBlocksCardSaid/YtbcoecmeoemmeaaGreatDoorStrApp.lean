/- 'append(b, s...)', s a string: onto a row of the call's own. -/
import Derived.Test.YtbcoecmeoemmeaaGreatDoorCopy
import Derived.Lib.ConvBytes
namespace Go.Proofs.YtbcoecmeoemmeaaGreatDoor
open Go.ChangeShapes Go.WideShapes Go.ChangeAt Go.RowKit
set_option linter.unusedVariables false
def sbytes (s : ByteArray) : List UInt8 := s.data.toList
theorem sbytes_len (s : ByteArray) : (sbytes s).length = s.size := by unfold sbytes; rw [Array.length_toList]; rfl
section
variable {P : Program} (w : World)
theorem run_firstCells_str (n : Nat) (s : ByteArray) (size : Nat) (hn : n = s.size) : (Builtin.firstCells size n (.string s)).run P w = .ok ((sbytes s).map encB).toArray w := by
  subst hn
  obtain ⟨⟨l⟩⟩ := s
  simp [Builtin.firstCells, sbytes]
  intro a _
  rfl
theorem run_append_str (t u ty e : TypeId) (i : TypeInfo) (z : Value) (base : Nat) (ht : P.underlying t = some (.slice e)) (hu : P.underlying u = some .string) (hi : P.info? e = some i) (hz : i.zero = some z)
    (hsize : i.size = 1) (hby : i.bytes = 1) (hzs : z.cells.size = 1) (v : Value) (n : Nat) (xs : List Value) (hown : w.ownsRow base e 1 v n xs) (s : ByteArray)
    (hbytes : n + s.size ≤ 140737488355328) (hbase : base ≤ w.heap.size) :
    ∃ v' w', (Builtin.append_ #[t, u] ty #[v, .string s]).run P w = .ok v' w' ∧ w'.ownsRow base e 1 v' (n + s.size) (xs ++ (sbytes s).map encB) ∧ w.grownBy w' v.ownBlock := by
  obtain ⟨news, hnews⟩ : ∃ news, news = (sbytes s).map encB := ⟨_, rfl⟩
  have hl : news.length = s.size := by rw [hnews, List.length_map, sbytes_len]
  have h1 : ∀ u ∈ news, u.oneCell' = true := fun u hu => by rw [hnews] at hu; obtain ⟨x, _, rfl⟩ := List.mem_map.1 hu; rfl
  have hfs : ∀ w : World, (Builtin.firstCells 1 s.size (.string s)).run P w = .ok news.toArray w := fun w => by rw [hnews]; exact run_firstCells_str w s.size s 1 rfl
  rw [← hnews]
  clear hnews
  have hm0 : s.size = s.size := rfl
  obtain ⟨m, hm'⟩ : ∃ m, s.size = m := ⟨_, rfl⟩
  rw [hm'] at hl hfs hbytes ⊢
  have hm0 := hm'
  have h63 : n + m ≤ maxLen := le_maxLen hbytes
  have hsmall : n + m ≤ 9223372036854775807 := by omega
  have hlen : (xs ++ news).length = (n + m) * 1 := by rw [List.length_append, hown.1, hl, Nat.add_mul]; omega
  have grown : ∀ (old : Nat), old < n + m → ∀ (row : Option Nat),
      (w.drew.alloc (.cells (xs.toArray ++ news.toArray ++ Builtin.zeroCells z.cells (grownCap w (n + m) old e - (n + m))) e)).ownsRow base e 1
        (.slice (some ⟨w.heap.size, 0, none⟩) (n + m) (grownCap w (n + m) old e)) (n + m) (xs ++ news) ∧
      w.grownBy (w.drew.alloc (.cells (xs.toArray ++ news.toArray ++ Builtin.zeroCells z.cells (grownCap w (n + m) old e - (n + m))) e)) row := by
    intro old ho row
    have hge := grownCap_ge w (n + m) old e
    have hcm : grownCap w (n + m) old e ≤ maxLen := grownCap_le_maxLen w (n + m) old e h63
    refine ⟨⟨hlen, .inr ⟨w.heap.size, _, _, rfl, hbase, heap_alloc_new w.drew _, hge, hcm, ?_, ?_⟩⟩, ⟨rfl, rfl, rfl, by simp, fun k hk _ => Below.heap_alloc w.drew _ k hk⟩⟩
    · simp only [Array.size_append, List.size_toArray, size_zeroCells, hzs, hown.1, hl]
      omega
    · simp only [Array.toList_append, List.append_assoc]
      rw [← List.append_assoc, ← hlen]
      exact List.take_left
  rcases hown.2 with ⟨rfl, rfl⟩ | ⟨g, cap, cur, rfl, hbg, hg, hnc, hcm, hcs, htake⟩
  · have hx : xs = [] := List.eq_nil_of_length_eq_zero (by simpa using hown.1)
    subst hx
    by_cases hm : m = 0
    · subst hm
      have hn : news = [] := List.eq_nil_of_length_eq_zero (by simpa using hl)
      subst hn
      refine ⟨.slice none 0 0, w, ?_, World.ownsRow_nil w base e 1, ⟨rfl, rfl, rfl, Nat.le_refl _, fun _ _ _ => rfl⟩⟩
      simp [Builtin.append_, run_underlying ht, run_underlying hu, sizeOf, typeInfo, hi, Builtin.lenOf, hsize, hm0, hfs, storeCells]
    · have hgr := grown 0 (by omega) (Value.ownBlock (.slice none 0 0))
      simp only [Nat.zero_add, List.nil_append] at hgr ⊢
      refine ⟨_, _, ?_, hgr.1, hgr.2⟩
      have h63' : ¬ (9223372036854775807 < (m : Int)) := by omega
      have h48' : ¬ (281474976710656 < Builtin.nextslicecap m 0 * i.bytes) := by rw [nextslicecap_zero (by omega), hby]; omega
      have hfn : (Builtin.firstCells 1 0 (.slice none 0 0)).run P w.drew = .ok #[] w.drew := by simp [Builtin.firstCells]
      simp [Builtin.append_, run_underlying ht, run_underlying hu, sizeOf, typeInfo, zeroValue, hi, hz, Builtin.lenOf, hm, hfn, h63', h48', Question.forced, newRow, grownCap, hsize, hfs, hm0]
  · by_cases hroom : n + m ≤ cap
    · have hfit : n * 1 + news.length ≤ cur.size := by rw [hl, hcs]; omega
      have hst := run_storeCells_at P g (n * 1) e news 0 cur w hg (by simpa using hfit) h1
      simp only [Nat.add_zero, Nat.mul_one] at hst
      refine ⟨_, w.setRow g (cur.toList.take (n * 1) ++ news ++ cur.toList.drop (n * 1 + news.length)).toArray, ?_, ⟨hlen, .inr ⟨g, cap, _, rfl, hbg, setRow_heap w g cur _ e _ hg, hroom, hcm, ?_, ?_⟩⟩, ⟨rfl, rfl, rfl, by simp [World.setRow], fun k _ hk => setRow_other w g k _ (fun e => hk (by simp [Value.ownBlock, e]))⟩⟩
      · simp [Builtin.append_, run_underlying ht, run_underlying hu, sizeOf, typeInfo, hi, Builtin.lenOf, hroom, hfs, Addr.add_lit, hst, hm0, hsize]
      · simp only [List.size_toArray, List.length_append, List.length_take, List.length_drop, Array.length_toList]
        omega
      · rw [htake, ← hlen]
        exact List.take_left
    · have holds : ∀ j u, xs[j]? = some u → w.cell? ((⟨g, 0, none⟩ : Addr).add j) = some u := hown.cells (g := g) rfl
      have hgr := grown cap (by omega) (Value.ownBlock (.slice (some ⟨g, 0, none⟩) n cap))
      refine ⟨_, _, ?_, hgr.1, hgr.2⟩
      have h63' : ¬ (9223372036854775807 < ((n : Int) + (m : Int))) := by omega
      have h48' : ¬ (281474976710656 < Builtin.nextslicecap (n + m) cap * i.bytes) := by
        have := growslice_fits (need := n + m) (old := cap) (bytes := i.bytes) (by omega) (by rw [hby]; omega)
        rw [hby] at this ⊢; omega
      have hfo := run_firstCells_some (P := P) w.drew 1 n ⟨g, 0, none⟩ n cap xs (by rw [hown.1]) (by simpa using holds)
      simp [Builtin.append_, run_underlying ht, run_underlying hu, sizeOf, typeInfo, zeroValue, hi, hz, Builtin.lenOf, hroom, h63', h48', Question.forced, newRow, grownCap, hsize, hfs, hfo, hm0]
      rw [← Array.append_assoc, show xs.toArray ++ news.toArray = (xs ++ news).toArray by simp]
end
theorem wpList_append_str {P : Program} {wr : World} {ops : Array Oper} {rest : List Oper} {o : Oper} {a : Act} {Q : Exit → Act → World → Prop} {t u e : TypeId} {base n : Nat} {v : Value} {xs : List UInt8} {W : World} (s : ByteArray)
    (hE : Elem1 P t e 1) (hu : P.underlying u = some .string) (x y : Operand) (hgd : o.guard = none)
    (ho : o.op = .call { callee := .builtin .append, args := #[x, y], argTypes := #[t, u] })
    (hs : a.eval x = v) (hy : a.eval y = .string s) (hown : OwnVec encB e wr base v xs) (hbl : Below base W wr) (hbase : base ≤ wr.heap.size)
    (hc : n ≤ 140737488355328) (hn : xs.length + s.size ≤ n)
    (h : ∀ v' w', OwnVec encB e w' base v' (xs ++ sbytes s) → Below base W w' → wr.grownBy w' v.ownBlock → wpList P ops Q rest (a.put o.dst v') w') : wpList P ops Q (o :: rest) a wr := by
  obtain ⟨ht, i, z, hi, hz0, hz1, hz2, hzs⟩ := hE
  obtain ⟨v', w', hr, hro, hg⟩ := run_append_str (P := P) wr t u o.type e i z base ht hu hi hz0 hz1 hz2 hzs v xs.length (xs.map encB) hown.own s (Nat.le_trans hn hc) hbase
  refine wpList_plain hgd fun _ hK => ?_
  unfold Oper.wp execOp
  simp [ho, resolve, invoke, builtin, hs, hy, hr, Result.andThen, Oper.upon]
  refine hK _ _ (h v' w' ⟨?_⟩ (hbl.grown hg hbase (fun g hg => (hown.own.lt g hg).1)) hg)
  rw [List.map_append, List.length_append, sbytes_len]
  exact hro
theorem bytesWorld_below (w : World) (e : TypeId) (s : ByteArray) : Below w.heap.size w (Lib.bytesWorld w e s) :=
  ⟨rfl, rfl, rfl, by rw [Lib.bytesWorld_size]; omega, fun k hk => Lib.bytesWorld_at_old w e s k hk⟩
theorem bytesWorld_reads (w : World) (e : TypeId) (s : ByteArray) (hn : s.size ≤ 140737488355328) : RBytes (Lib.bytesWorld w e s).cell? (.slice (some ⟨w.heap.size, 0, none⟩) s.size (grownCap w s.size 0 e)) (sbytes s) := by
  refine ⟨_, _, by rw [sbytes_len], by rw [sbytes_len]; exact grownCap_ge _ _ _ _, grownCap_le_maxLen w _ _ e (le_maxLen hn), by rw [sbytes_len]; omega, (fun h => by cases h), fun hp => ⟨w.heap.size, 0, rfl, fun i hi => ?_⟩⟩
  rw [sbytes_len] at hi
  rw [Nat.zero_add, Lib.bytesWorld_cell w e s i hi]
  simp only [encB, sbytes, List.getD, Array.getElem?_toList]
  rw [Array.getElem?_eq_getElem (by exact hi)]
  simp
theorem wpList_convert_bytes {P : Program} {wr : World} {ops : Array Oper} {rest : List Oper} {o : Oper} {a : Act} {Q : Exit → Act → World → Prop} {src dst e : TypeId} (s : ByteArray)
    (hs : P.underlying src = some .string) (hd : P.underlying dst = some (.slice e)) (he : P.underlying e = some (.int .u8)) (hgd : o.guard = none) (y : Operand) (ho : o.op = .convert src dst y) (hy : a.eval y = .string s)
    (hn : s.size ≤ 140737488355328)
    (h : ∀ v' w', RBytes w'.cell? v' (sbytes s) → Below wr.heap.size wr w' → wpList P ops Q rest (a.put o.dst v') w') : wpList P ops Q (o :: rest) a wr := by
  have hr := Lib.run_convert_string_bytes (P := P) wr src dst e s hs hd he
  refine wpList_plain hgd fun _ hK => ?_
  unfold Oper.wp execOp
  simp [ho, resolve, hy, hr, Result.andThen, Oper.upon]
  exact hK _ _ (h _ _ (bytesWorld_reads wr e s hn) (bytesWorld_below wr e s))
end Go.Proofs.YtbcoecmeoemmeaaGreatDoor
