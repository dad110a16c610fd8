/- Words of 32 bits: sums, turns, bits; how a block is mixed: in plain numbers. -/
import Derived.Test.YtbcoecmeoemmeaaGreatDoorBase
import Derived.Laws.BitsLemmas
namespace Go.Proofs.YtbcoecmeoemmeaaGreatDoor
open Go.ChangeShapes Go.WideShapes Go.ChangeAt Go.RowKit
set_option linter.unusedVariables false
def add2 (x y : Nat) : Nat := (x + y) % 4294967296
def add3 (x y z : Nat) : Nat := (x + y + z) % 4294967296
/-- turned right by s -/
def rot (x s : Nat) : Nat := x * 2 ^ (32 - s) % 4294967296 ||| x / 2 ^ s
def xor32 (x y : Nat) : Nat := x ^^^ y
def W32 (x : Nat) : Prop := x < 4294967296
theorem pow32 : (4294967296 : Nat) = 2 ^ 32 := by decide
theorem add2_lt (x y : Nat) : W32 (add2 x y) := Nat.mod_lt _ (by decide)
theorem add3_lt (x y z : Nat) : W32 (add3 x y z) := Nat.mod_lt _ (by decide)
theorem rot_lt {x s : Nat} (h : W32 x) : W32 (rot x s) := by
  unfold W32 rot at *
  rw [pow32] at *
  refine Nat.or_lt_two_pow (Nat.mod_lt _ (by decide)) (Nat.lt_of_le_of_lt (Nat.div_le_self _ _) h)
theorem xor32_lt {x y : Nat} (h : W32 x) (k : W32 y) : W32 (xor32 x y) := by
  unfold W32 xor32 at *
  rw [pow32] at *
  exact Nat.xor_lt_two_pow h k
theorem bits_xor (k : IntKind) (j : Nat) (hj : j ≤ k.bits) (hk : ∀ n : Int, 0 ≤ n → n < 2 ^ j → k.wrap n = n) (a b : Nat) (ha : a < 2 ^ j) (hb : b < 2 ^ j) :
    bits .xor k a b = ((a ^^^ b : Nat) : Int) := by
  have hp : 2 ^ j ≤ 2 ^ k.bits := Nat.pow_le_pow_right (by decide) hj
  have ha' : a % 2 ^ k.bits = a := Nat.mod_eq_of_lt (Nat.lt_of_lt_of_le ha hp)
  have hb' : b % 2 ^ k.bits = b := Nat.mod_eq_of_lt (Nat.lt_of_lt_of_le hb hp)
  have cast : ∀ n : Nat, n < 2 ^ j → ((n : Nat) : Int) < 2 ^ j := fun n h => by exact_mod_cast h
  simp only [bits, BitVec.ofInt_natCast, BitVec.toNat_xor, BitVec.toNat_ofNat, ha', hb']
  exact hk _ (Int.natCast_nonneg _) (cast _ (Nat.xor_lt_two_pow ha hb))
theorem wraps32 (n : Int) (h₀ : 0 ≤ n) (h₁ : n < 2 ^ 32) : IntKind.u32.wrap n = n := by rw [IntKind.wrap_u32]; omega
theorem wraps62 (n : Int) (h₀ : 0 ≤ n) (h₁ : n < 2 ^ 62) : IntKind.i64.wrap n = n := by rw [IntKind.wrap_i64]; omega
theorem u32_xor {a b : Nat} (ha : W32 a) (hb : W32 b) : bits .xor .u32 a b = (xor32 a b : Int) := by
  unfold W32 at *; rw [pow32] at *; exact bits_xor .u32 32 (by decide) wraps32 a b ha hb
theorem i64_xor {a b : Nat} (ha : W32 a) (hb : W32 b) : bits .xor .i64 a b = (xor32 a b : Int) := by
  unfold W32 at *; rw [pow32] at *
  exact bits_xor .i64 62 (by decide) wraps62 a b (Nat.lt_of_lt_of_le ha (by decide)) (Nat.lt_of_lt_of_le hb (by decide))
theorem i64_mask {a : Nat} (ha : a < 4611686018427387904) : bits .and .i64 a 4294967295 = ((a % 4294967296 : Nat) : Int) := by
  have h := bits_mask .i64 62 (by decide) wraps62 32 (by decide) (a : Int) (by omega) (by rw [show (2:Int)^62 = 4611686018427387904 from by decide]; omega)
  rw [show ((2:Int)^32 - 1) = 4294967295 from by decide, show ((2:Int)^32) = 4294967296 from by decide] at h
  rw [h]; omega
/-- as the program turns: to the left by 32 - s -/
theorem u32_rot {x s : Nat} (hx : W32 x) (hs : s ≤ 32) : bits .or .u32 (IntKind.u32.wrap ((x : Int) * 2 ^ (32 - s))) ((x : Int) / 2 ^ s) = (rot x s : Int) := by
  unfold W32 at hx
  have e1 : IntKind.u32.wrap ((x : Int) * 2 ^ (32 - s)) = ((x * 2 ^ (32 - s) % 4294967296 : Nat) : Int) := by
    have e : (x : Int) * 2 ^ (32 - s) = ((x * 2 ^ (32 - s) : Nat) : Int) := by push_cast; rfl
    rw [IntKind.wrap_u32, e]; omega
  have e2 : (x : Int) / 2 ^ s = ((x / 2 ^ s : Nat) : Int) := by push_cast; rfl
  rw [e1, e2]
  unfold rot
  rw [pow32] at *
  exact (bits_nat .u32 32 (by decide) wraps32 _ _ (Nat.mod_lt _ (by decide)) (Nat.lt_of_le_of_lt (Nat.div_le_self _ _) hx)).2
/-- as the document turns -/
theorem i64_rot {x s : Nat} (hx : W32 x) (hs : 2 ≤ s) (hs' : s ≤ 32) : bits .and .i64 (bits .or .i64 ((x : Int) / 2 ^ s) ((x : Int) * 2 ^ (32 - s))) 4294967295 = (rot x s : Int) := by
  unfold W32 at hx
  have hp : 2 ^ (32 - s) ≤ 2 ^ 30 := Nat.pow_le_pow_right (by decide) (by omega)
  have hx' : x < 2 ^ 32 := by rw [← pow32]; exact hx
  have hm : x * 2 ^ (32 - s) < 2 ^ 62 := Nat.lt_of_le_of_lt (Nat.mul_le_mul_left _ hp) (by rw [show (2:Nat)^62 = 2^32 * 2^30 from by decide]; exact Nat.mul_lt_mul_of_pos_right hx' (by decide))
  have hd : x / 2 ^ s < 2 ^ 32 := Nat.lt_of_le_of_lt (Nat.div_le_self _ _) hx'
  have e1 : (x : Int) * 2 ^ (32 - s) = ((x * 2 ^ (32 - s) : Nat) : Int) := by push_cast; rfl
  have e2 : (x : Int) / 2 ^ s = ((x / 2 ^ s : Nat) : Int) := by push_cast; rfl
  rw [e1, e2, (bits_nat .i64 62 (by decide) wraps62 _ _ (Nat.lt_of_lt_of_le hd (by decide)) hm).2]
  rw [i64_mask (by have := Nat.or_lt_two_pow (Nat.lt_of_lt_of_le hd (by decide : 2^32 ≤ 2^62)) hm; rwa [show (2:Nat)^62 = 4611686018427387904 from by decide] at this)]
  congr 1
  unfold rot
  rw [pow32, Nat.or_mod_two_pow, Nat.mod_eq_of_lt hd, Nat.or_comm]
theorem i64_shl {x s : Nat} (hx : W32 x) (hs : 2 ≤ s) (hs' : s ≤ 32) : IntKind.i64.wrap ((x : Int) * 2 ^ (32 - s)) = (x : Int) * 2 ^ (32 - s) := by
  unfold W32 at hx
  have hp : 2 ^ (32 - s) ≤ 2 ^ 30 := Nat.pow_le_pow_right (by decide) (by omega)
  have hx' : x < 2 ^ 32 := by rw [← pow32]; exact hx
  have hm : x * 2 ^ (32 - s) < 2 ^ 62 := Nat.lt_of_lt_of_le (Nat.mul_lt_mul_of_pos_right hx' (Nat.two_pow_pos _)) (by rw [show (2:Nat)^62 = 2^32 * 2^30 from by decide]; exact Nat.mul_le_mul_left _ hp)
  have e1 : (x : Int) * 2 ^ (32 - s) = ((x * 2 ^ (32 - s) : Nat) : Int) := by push_cast; rfl
  rw [e1]
  exact wraps62 _ (by omega) (by exact_mod_cast hm)
theorem i64_add3 {x y z : Nat} (hx : W32 x) (hy : W32 y) (hz : W32 z) : bits .and .i64 (IntKind.i64.wrap (IntKind.i64.wrap ((x : Int) + (y : Int)) + (z : Int))) 4294967295 = (add3 x y z : Nat) := by
  unfold W32 at *
  rw [wraps62 ((x : Int) + y) (by omega) (by omega), wraps62 _ (by omega) (by omega)]
  have := i64_mask (a := x + y + z) (by omega)
  rw [show ((x + y + z : Nat) : Int) = (x : Int) + y + z by omega] at this
  rw [this]; rfl
theorem i64_add2 {x y : Nat} (hx : W32 x) (hy : W32 y) : bits .and .i64 (IntKind.i64.wrap ((x : Int) + (y : Int))) 4294967295 = (add2 x y : Nat) := by
  unfold W32 at *
  rw [wraps62 ((x : Int) + y) (by omega) (by omega)]
  have := i64_mask (a := x + y) (by omega)
  rw [show ((x + y : Nat) : Int) = (x : Int) + y by omega] at this
  rw [this]; rfl
theorem u32_add3 {x y z : Nat} : IntKind.u32.wrap ((x : Int) + IntKind.u32.wrap ((y : Int) + (z : Int))) = (add3 x y z : Nat) := by
  rw [IntKind.wrap_u32, IntKind.wrap_u32]; unfold add3; omega
theorem u32_add2 {x y : Nat} : IntKind.u32.wrap ((x : Int) + (y : Int)) = (add2 x y : Nat) := by
  rw [IntKind.wrap_u32]; unfold add2; omega
end Go.Proofs.YtbcoecmeoemmeaaGreatDoor
