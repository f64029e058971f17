/- Plain facts for package wrap: what each operation makes of two numbers. No program in sight. -/
import Derived.WalkKit
namespace Go.Proofs.Ythmeonabdpbmjaa.Wr
open Go.RowKit

def b2i (b : Bool) : Int := if b = true then 1 else 0
theorem b2i_true : b2i true = 1 := rfl
theorem b2i_false : b2i false = 0 := rfl

def doV (op a b : Int) : Int :=
  if op = 3 then wrap64 (a + b) else if op = 4 then wrap64 (a - b) else if op = 5 then wrap64 (a * b)
  else if op = 6 then (if b = 0 then 0 else wrap64 (a.tdiv b)) else if op = 7 then (if b = 0 then 0 else a.tmod b)
  else if op = 8 then b2i (decide (a < b)) else if op = 9 then b2i (a == b)
  else if op = 10 then bits .and .i64 a b else if op = 11 then bits .or .i64 a b else if op = 12 then bits .xor .i64 a b else 0
def doF (op b : Int) : Int := if (op = 6 ∨ op = 7) ∧ b = 0 then 1 else 0

/-- numbers added one behind the other, going round -/
def sumW (zs : List Int) : Int := zs.foldl (fun n x => wrap64 (n + x)) 0
theorem sumW_snoc (zs : List Int) (x : Int) : sumW (zs ++ [x]) = wrap64 (sumW zs + x) := by simp [sumW]
theorem take_snoc (zs : List Int) (k : Nat) (h : k < zs.length) : zs.take (k + 1) = zs.take k ++ [zs.getD k 0] := by
  rw [List.take_succ_eq_append_getElem h]; simp [List.getD, List.getElem?_eq_getElem h]
theorem sumW_take (zs : List Int) (k : Nat) (h : k < zs.length) : sumW (zs.take (k + 1)) = wrap64 (sumW (zs.take k) + zs.getD k 0) := by
  rw [take_snoc zs k h, sumW_snoc]

/-- a number times itself, so often, going round -/
def powW (a : Int) : Nat → Int
  | 0 => 1
  | n + 1 => wrap64 (powW a n * a)
def powN (n : Int) : Nat := (min (max n 0) 1000).toNat

/-! ### bits of 64-bit numbers -/
theorem wrap_i64 (n : Int) : IntKind.i64.wrap n = wrap64 n := by rw [IntKind.wrap_i64, wrap64]
theorem wrap_toNat (x : BitVec 64) : wrap64 (x.toNat : Int) = x.toInt := by
  have h := x.isLt
  unfold wrap64
  rw [BitVec.toInt_eq_toNat_cond]
  split <;> omega
theorem toInt_of (a : Int) (h0 : -9223372036854775808 ≤ a) (h1 : a ≤ 9223372036854775807) : (BitVec.ofInt 64 a).toInt = a := by
  rw [BitVec.toInt_ofInt]
  unfold Int.bmod
  simp
  split <;> omega
theorem bits_xor (a b : Int) : bits .xor .i64 a b = (BitVec.ofInt 64 a ^^^ BitVec.ofInt 64 b).toInt := by
  show IntKind.i64.wrap _ = _
  rw [wrap_i64]; exact wrap_toNat _
theorem bits_and (a b : Int) : bits .and .i64 a b = (BitVec.ofInt 64 a &&& BitVec.ofInt 64 b).toInt := by
  show IntKind.i64.wrap _ = _
  rw [wrap_i64]; exact wrap_toNat _
theorem bits_or (a b : Int) : bits .or .i64 a b = (BitVec.ofInt 64 a ||| BitVec.ofInt 64 b).toInt := by
  show IntKind.i64.wrap _ = _
  rw [wrap_i64]; exact wrap_toNat _

theorem wrap64_bd (n : Int) : -9223372036854775808 ≤ wrap64 n ∧ wrap64 n ≤ 9223372036854775807 := by unfold wrap64; omega
theorem toInt_bd (x : BitVec 64) : -9223372036854775808 ≤ x.toInt ∧ x.toInt ≤ 9223372036854775807 := by
  have h := x.isLt
  rw [BitVec.toInt_eq_toNat_cond]
  split <;> omega

theorem xor_back (a b : Int) (h0 : -9223372036854775808 ≤ a) (h1 : a ≤ 9223372036854775807) : bits .xor .i64 (bits .xor .i64 a b) b = a := by
  rw [bits_xor, bits_xor, BitVec.ofInt_toInt, BitVec.xor_assoc, BitVec.xor_self, BitVec.xor_zero, toInt_of a h0 h1]

theorem and_add_or (x y : Nat) : (x &&& y) + (x ||| y) = x + y := by
  induction x using Nat.strongRecOn generalizing y with
  | ind x ih =>
    by_cases hx : x = 0
    · subst hx; simp
    · have hd : x / 2 < x := Nat.div_lt_self (by omega) (by decide)
      have := ih (x / 2) hd (y / 2)
      have e1 : (x &&& y) / 2 = (x / 2) &&& (y / 2) := Nat.and_div_two
      have e2 : (x ||| y) / 2 = (x / 2) ||| (y / 2) := Nat.or_div_two
      have m1 : (x &&& y) % 2 = (x % 2) &&& (y % 2) := Nat.and_mod_two_pow (n := 1)
      have m2 : (x ||| y) % 2 = (x % 2) ||| (y % 2) := Nat.or_mod_two_pow (n := 1)
      rw [← e1, ← e2] at this
      clear e1 e2
      generalize (x &&& y) = p at *
      generalize (x ||| y) = q at *
      rcases Nat.mod_two_eq_zero_or_one x with hx2 | hx2 <;> rcases Nat.mod_two_eq_zero_or_one y with hy2 | hy2 <;> rw [hx2, hy2] at m1 m2
      · replace m1 : p % 2 = 0 := m1
        replace m2 : q % 2 = 0 := m2
        omega
      · replace m1 : p % 2 = 0 := m1
        replace m2 : q % 2 = 1 := m2
        omega
      · replace m1 : p % 2 = 0 := m1
        replace m2 : q % 2 = 1 := m2
        omega
      · replace m1 : p % 2 = 1 := m1
        replace m2 : q % 2 = 1 := m2
        omega
theorem or_eq_xor_add_and (x y : Nat) : (x ||| y) = (x ^^^ y) + (x &&& y) := by
  induction x using Nat.strongRecOn generalizing y with
  | ind x ih =>
    by_cases hx : x = 0
    · subst hx; simp
    · have hd : x / 2 < x := Nat.div_lt_self (by omega) (by decide)
      have := ih (x / 2) hd (y / 2)
      have e1 : (x &&& y) / 2 = (x / 2) &&& (y / 2) := Nat.and_div_two
      have e2 : (x ||| y) / 2 = (x / 2) ||| (y / 2) := Nat.or_div_two
      have e3 : (x ^^^ y) / 2 = (x / 2) ^^^ (y / 2) := Nat.xor_div_two
      have m1 : (x &&& y) % 2 = (x % 2) &&& (y % 2) := Nat.and_mod_two_pow (n := 1)
      have m2 : (x ||| y) % 2 = (x % 2) ||| (y % 2) := Nat.or_mod_two_pow (n := 1)
      have m3 : (x ^^^ y) % 2 = (x % 2) ^^^ (y % 2) := Nat.xor_mod_two_pow (n := 1)
      rw [← e1, ← e2, ← e3] at this
      clear e1 e2 e3
      generalize (x &&& y) = p at *
      generalize (x ||| y) = q at *
      generalize (x ^^^ y) = r at *
      rcases Nat.mod_two_eq_zero_or_one x with hx2 | hx2 <;> rcases Nat.mod_two_eq_zero_or_one y with hy2 | hy2 <;> rw [hx2, hy2] at m1 m2 m3
      · replace m1 : p % 2 = 0 := m1
        replace m2 : q % 2 = 0 := m2
        replace m3 : r % 2 = 0 := m3
        omega
      · replace m1 : p % 2 = 0 := m1
        replace m2 : q % 2 = 1 := m2
        replace m3 : r % 2 = 1 := m3
        omega
      · replace m1 : p % 2 = 0 := m1
        replace m2 : q % 2 = 1 := m2
        replace m3 : r % 2 = 1 := m3
        omega
      · replace m1 : p % 2 = 1 := m1
        replace m2 : q % 2 = 1 := m2
        replace m3 : r % 2 = 0 := m3
        omega

theorem toNat_of (a : Int) : ((BitVec.ofInt 64 a).toNat : Int) = a % 18446744073709551616 := by
  rw [BitVec.toNat_ofInt]; omega
theorem toInt_wrap (x : BitVec 64) : x.toInt = wrap64 (x.toNat : Int) := (wrap_toNat x).symm
/-- what both have, and what either has, are together both -/
theorem and_or_sum (a b : Int) : wrap64 (bits .and .i64 a b + bits .or .i64 a b) = wrap64 (a + b) := by
  have h := and_add_or (BitVec.ofInt 64 a).toNat (BitVec.ofInt 64 b).toNat
  have e1 := toNat_of a
  have e2 := toNat_of b
  rw [bits_and, bits_or, toInt_wrap, toInt_wrap, BitVec.toNat_and, BitVec.toNat_or]
  have h' : (((BitVec.ofInt 64 a).toNat &&& (BitVec.ofInt 64 b).toNat : Nat) : Int) + (((BitVec.ofInt 64 a).toNat ||| (BitVec.ofInt 64 b).toNat : Nat) : Int) = (BitVec.ofInt 64 a).toNat + (BitVec.ofInt 64 b).toNat := by exact_mod_cast h
  generalize (((BitVec.ofInt 64 a).toNat &&& (BitVec.ofInt 64 b).toNat : Nat) : Int) = p at *
  generalize (((BitVec.ofInt 64 a).toNat ||| (BitVec.ofInt 64 b).toNat : Nat) : Int) = q at *
  unfold wrap64
  omega
theorem or_sub_and (a b : Int) : wrap64 (bits .or .i64 a b - bits .and .i64 a b) = bits .xor .i64 a b := by
  have h := or_eq_xor_add_and (BitVec.ofInt 64 a).toNat (BitVec.ofInt 64 b).toNat
  rw [bits_and, bits_or, bits_xor, toInt_wrap, toInt_wrap, toInt_wrap, BitVec.toNat_and, BitVec.toNat_or, BitVec.toNat_xor]
  have h' : (((BitVec.ofInt 64 a).toNat ||| (BitVec.ofInt 64 b).toNat : Nat) : Int) = (((BitVec.ofInt 64 a).toNat ^^^ (BitVec.ofInt 64 b).toNat : Nat) : Int) + (((BitVec.ofInt 64 a).toNat &&& (BitVec.ofInt 64 b).toNat : Nat) : Int) := by exact_mod_cast h
  generalize (((BitVec.ofInt 64 a).toNat &&& (BitVec.ofInt 64 b).toNat : Nat) : Int) = p at *
  generalize (((BitVec.ofInt 64 a).toNat ||| (BitVec.ofInt 64 b).toNat : Nat) : Int) = q at *
  generalize (((BitVec.ofInt 64 a).toNat ^^^ (BitVec.ofInt 64 b).toNat : Nat) : Int) = r at *
  unfold wrap64
  omega

theorem bd_i64 {n : Int} (h : (Lit.int .i64 n).wf = true) : -9223372036854775808 ≤ n ∧ n ≤ 9223372036854775807 := by
  simp [Lit.wf, IntKind.min, IntKind.max, IntKind.signed, IntKind.bits] at h; omega

/-- a quotient times the divisor, and what is left, is the dividend (all going round) -/
theorem div_back (a b : Int) (h0 : -9223372036854775808 ≤ a) (h1 : a ≤ 9223372036854775807) : wrap64 (wrap64 (wrap64 (a.tdiv b) * b) + a.tmod b) = a := by
  have h := Int.tdiv_mul_add_tmod a b
  have e1 : wrap64 (a.tdiv b) = a.tdiv b + 18446744073709551616 * ((wrap64 (a.tdiv b) - a.tdiv b) / 18446744073709551616) := by unfold wrap64; omega
  generalize (wrap64 (a.tdiv b) - a.tdiv b) / 18446744073709551616 = k at e1
  rw [e1, Int.add_mul, Int.mul_assoc]
  generalize a.tdiv b * b = x at *
  generalize k * b = y at *
  generalize a.tmod b = r at *
  unfold wrap64
  omega
theorem tmod_near (a b : Int) (hb : b ≠ 0) : -(b.natAbs : Int) < a.tmod b ∧ a.tmod b < b.natAbs := by
  have h1 := Int.natAbs_tmod a b
  have h2 : a.natAbs % b.natAbs < b.natAbs := Nat.mod_lt _ (by omega)
  omega
theorem tmod_sign (a b : Int) : (0 ≤ a → 0 ≤ a.tmod b) ∧ (a ≤ 0 → a.tmod b ≤ 0) := by
  refine ⟨fun h => Int.tmod_nonneg b h, fun h => ?_⟩
  have h1 : 0 ≤ (-a).tmod b := Int.tmod_nonneg b (by omega)
  rw [Int.neg_tmod] at h1
  omega

end Go.Proofs.Ythmeonabdpbmjaa.Wr
