/- The sum of bytes, as the document tells it, over plain numbers. -/
import Derived.Test.YtbcoecmeoemmeaaGreatDoorBits
namespace Go.Proofs.YtbcoecmeoemmeaaGreatDoor
open Go.ChangeShapes Go.WideShapes Go.ChangeAt Go.RowKit
set_option linter.unusedVariables false
def first8 : List Nat := [1779033703, 3144134277, 1013904242, 2773480762, 1359893119, 2600822924, 528734635, 1541459225]
def ordRows : List (List Nat) := [[0, 1, 2, 3, 4, 5, 6, 7, 8, 9, 10, 11, 12, 13, 14, 15], [14, 10, 4, 8, 9, 15, 13, 6, 1, 12, 0, 2, 11, 7, 5, 3], [11, 8, 12, 0, 5, 2, 15, 13, 10, 14, 3, 6, 7, 1, 9, 4], [7, 9, 3, 1, 13, 12, 11, 14, 2, 6, 5, 10, 4, 0, 15, 8], [9, 0, 5, 7, 2, 4, 10, 15, 14, 1, 11, 12, 6, 8, 3, 13], [2, 12, 6, 10, 0, 11, 8, 3, 4, 13, 7, 5, 15, 14, 1, 9], [12, 5, 1, 15, 14, 13, 4, 10, 0, 7, 6, 3, 9, 2, 8, 11], [13, 11, 7, 14, 12, 1, 3, 9, 5, 0, 15, 4, 8, 6, 2, 10], [6, 15, 14, 9, 11, 3, 0, 8, 12, 2, 13, 7, 1, 4, 10, 5], [10, 2, 8, 4, 7, 6, 1, 5, 15, 11, 9, 14, 3, 12, 13, 0]]
def ord (r i : Nat) : Nat := (ordRows.getD r []).getD i 0
/-- the four places of a lane -/
def lane (i : Nat) : Nat × Nat × Nat × Nat := if i < 4 then (i, i + 4, i + 8, i + 12) else (i - 4, 4 + (i - 4 + 1) % 4, 8 + (i - 4 + 2) % 4, 12 + (i - 4 + 3) % 4)
def at0 (v : List Nat) (i : Nat) : Nat := v.getD i 0
def mixA (v : List Nat) (a b x : Nat) : List Nat := v.set a (add3 (at0 v a) (at0 v b) x)
def mixC (v : List Nat) (c d : Nat) : List Nat := v.set c (add2 (at0 v c) (at0 v d))
def mixD (v : List Nat) (d a s : Nat) : List Nat := v.set d (rot (xor32 (at0 v d) (at0 v a)) s)
def mix (v : List Nat) (a b c d x y : Nat) : List Nat := mixD (mixC (mixD (mixA (mixD (mixC (mixD (mixA v a b x) d a 16) c d) b c 12) a b y) d a 8) c d) b c 7
def mixLane (m : List Nat) (r : Nat) (v : List Nat) (i : Nat) : List Nat := mix v (lane i).1 (lane i).2.1 (lane i).2.2.1 (lane i).2.2.2 (at0 m (ord r (2 * i))) (at0 m (ord r (2 * i + 1)))
def lanesTo (m : List Nat) (r : Nat) (v : List Nat) (k : Nat) : List Nat := (List.range k).foldl (mixLane m r) v
def roundsTo (m : List Nat) (v : List Nat) (k : Nat) : List Nat := (List.range k).foldl (fun v r => lanesTo m r v 8) v
theorem lanesTo_succ (m : List Nat) (r : Nat) (v : List Nat) (k : Nat) : lanesTo m r v (k + 1) = mixLane m r (lanesTo m r v k) k := by simp [lanesTo, List.range_succ, List.foldl_append]
theorem roundsTo_succ (m : List Nat) (v : List Nat) (k : Nat) : roundsTo m v (k + 1) = lanesTo m k (roundsTo m v k) 8 := by simp [roundsTo, List.range_succ, List.foldl_append]
/-- words of a state: so many, and each of 32 bits -/
def Ws (n : Nat) (v : List Nat) : Prop := v.length = n ∧ ∀ i, W32 (at0 v i)
theorem Ws.set {n : Nat} {v : List Nat} (h : Ws n v) {i x : Nat} (hx : W32 x) : Ws n (v.set i x) := by
  refine ⟨by rw [List.length_set]; exact h.1, fun j => ?_⟩
  have hj := h.2 j
  unfold at0 at *
  rw [List.getD_eq_getElem?_getD] at *
  rw [List.getElem?_set]
  split
  · split
    · exact hx
    · show W32 0; unfold W32; decide
  · exact hj
theorem Ws.mixA {n : Nat} {v : List Nat} (h : Ws n v) (a b x : Nat) : Ws n (mixA v a b x) := h.set (add3_lt ..)
theorem Ws.mixC {n : Nat} {v : List Nat} (h : Ws n v) (c d : Nat) : Ws n (mixC v c d) := h.set (add2_lt ..)
theorem Ws.mixD {n : Nat} {v : List Nat} (h : Ws n v) (d a s : Nat) : Ws n (mixD v d a s) := h.set (rot_lt (xor32_lt (h.2 d) (h.2 a)))
theorem Ws.mix {n : Nat} {v : List Nat} (h : Ws n v) (a b c d x y : Nat) : Ws n (mix v a b c d x y) := (((((((h.mixA ..).mixD ..).mixC ..).mixD ..).mixA ..).mixD ..).mixC ..).mixD ..
theorem Ws.lanesTo {n : Nat} {v : List Nat} (h : Ws n v) (m : List Nat) (r k : Nat) : Ws n (lanesTo m r v k) := by
  induction k with
  | zero => exact h
  | succ k ih => rw [lanesTo_succ]; exact ih.mix ..
theorem Ws.roundsTo {n : Nat} {v : List Nat} (h : Ws n v) (m : List Nat) (k : Nat) : Ws n (roundsTo m v k) := by
  induction k with
  | zero => exact h
  | succ k ih => rw [roundsTo_succ]; exact ih.lanesTo ..
/-- word j of a block -/
def wordAt (b : List UInt8) (j : Nat) : Nat := (b.getD (4 * j) 0).toNat + 256 * (b.getD (4 * j + 1) 0).toNat + 65536 * (b.getD (4 * j + 2) 0).toNat + 16777216 * (b.getD (4 * j + 3) 0).toNat
def words (b : List UInt8) : List Nat := (List.range 16).map (wordAt b)
def startOf (s : List Nat) (many : Nat) (last : Bool) : List Nat :=
  let v := (s ++ first8).set 12 (xor32 (at0 (s ++ first8) 12) many)
  if last then v.set 14 (xor32 (at0 v 14) 4294967295) else v
def closed (s v : List Nat) (i : Nat) : Nat := xor32 (xor32 (at0 s i) (at0 v i)) (at0 v (i + 8))
def takenOf (s : List Nat) (block : List UInt8) (many : Nat) (last : Bool) : List Nat := (List.range 8).map (closed s (roundsTo (words block) (startOf s many last) 10))
def init8 : List Nat := first8.set 0 (xor32 (at0 first8 0) 16842784)
def blocksTo (b : List UInt8) (k : Nat) : List Nat := (List.range k).foldl (fun s i => takenOf s ((b.drop (64 * i)).take 64) (64 * i + 64) false) init8
theorem blocksTo_succ (b : List UInt8) (k : Nat) : blocksTo b (k + 1) = takenOf (blocksTo b k) ((b.drop (64 * k)).take 64) (64 * k + 64) false := by simp [blocksTo, List.range_succ, List.foldl_append]
def byteOf (s : List Nat) (i : Nat) : UInt8 := UInt8.ofNat (at0 s (i / 4) / 2 ^ (8 * (i % 4)) % 256)
/-- how many blocks go ahead of the last one -/
def ahead (n : Nat) : Nat := (n - 1) / 64
def sumB (b : List UInt8) : List UInt8 := (List.range 32).map (byteOf (takenOf (blocksTo b (ahead b.length)) (b.drop (64 * ahead b.length)) b.length true))
theorem sumB_len (b : List UInt8) : (sumB b).length = 32 := by simp [sumB]
end Go.Proofs.YtbcoecmeoemmeaaGreatDoor
