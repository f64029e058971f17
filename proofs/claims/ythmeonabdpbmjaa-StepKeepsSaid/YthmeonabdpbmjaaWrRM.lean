/- Plain facts for the reference of package wrap: sums with a carry, products by hand, long division, bits one by one. -/
import Derived.Test.YthmeonabdpbmjaaWrM
namespace Go.Proofs.Ythmeonabdpbmjaa.Wr
open Go.RowKit
set_option linter.unusedSimpArgs false

def bitN (x i : Nat) : Nat := x / 2 ^ i % 2
theorem bitN_le (x i : Nat) : bitN x i ≤ 1 := by unfold bitN; omega
def aN (x y k : Nat) : Nat := (x % 2 ^ k + y % 2 ^ k) % 2 ^ k
def aC (x y k : Nat) : Nat := (x % 2 ^ k + y % 2 ^ k) / 2 ^ k
def addN (x y : Nat) : Nat := (x + y) % 18446744073709551616
def u64N (a : Int) : Nat := (a % 18446744073709551616).toNat

theorem bit_val (x i : Nat) (hx : (x : Int) ≤ 18446744073709551615) : bits .and .u64 ((x : Int) / 2 ^ i) 1 = (bitN x i : Nat) := by
  have e : ((x : Int) / 2 ^ i) = ((x / 2 ^ i : Nat) : Int) := by rw [Int.natCast_ediv, Int.natCast_pow]; rfl
  have hlt : x / 2 ^ i < 18446744073709551616 := Nat.lt_of_le_of_lt (Nat.div_le_self _ _) (by omega)
  rw [e]
  have := u64_and_nat (x / 2 ^ i) 1 hlt (by decide)
  rw [nat_mask1] at this
  exact this

theorem aC_le (x y k : Nat) : aC x y k ≤ 1 := by
  unfold aC
  have h1 := Nat.mod_lt x (Nat.two_pow_pos k)
  have h2 := Nat.mod_lt y (Nat.two_pow_pos k)
  have : x % 2 ^ k + y % 2 ^ k < 2 ^ k * 2 := by omega
  have := Nat.div_lt_of_lt_mul this
  omega
theorem aN_lt (x y k : Nat) : aN x y k < 2 ^ k := Nat.mod_lt _ (Nat.two_pow_pos k)
theorem a_eq (x y k : Nat) : x % 2 ^ k + y % 2 ^ k = aN x y k + 2 ^ k * aC x y k := by
  unfold aN aC
  have := Nat.div_add_mod (x % 2 ^ k + y % 2 ^ k) (2 ^ k)
  omega
theorem a_succ (x y k : Nat) : x % 2 ^ (k + 1) + y % 2 ^ (k + 1) = aN x y k + 2 ^ k * (bitN x k + bitN y k + aC x y k) := by
  have h := a_eq x y k
  rw [Nat.mod_pow_succ, Nat.mod_pow_succ]
  show x % 2 ^ k + 2 ^ k * bitN x k + (y % 2 ^ k + 2 ^ k * bitN y k) = _
  rw [Nat.mul_add, Nat.mul_add]
  omega
theorem aC_succ (x y k : Nat) : aC x y (k + 1) = (bitN x k + bitN y k + aC x y k) / 2 := by
  have h := a_succ x y k
  have hl := aN_lt x y k
  conv => lhs; unfold aC
  rw [h, Nat.pow_succ, ← Nat.div_div_eq_div_mul, Nat.add_mul_div_left _ _ (Nat.two_pow_pos k), Nat.div_eq_of_lt hl, Nat.zero_add]
theorem aN_succ (x y k : Nat) : aN x y (k + 1) = aN x y k + 2 ^ k * ((bitN x k + bitN y k + aC x y k) % 2) := by
  have h := a_succ x y k
  have hl := aN_lt x y k
  conv => lhs; unfold aN
  rw [h]
  generalize bitN x k + bitN y k + aC x y k = s
  rw [Nat.mod_pow_succ, Nat.add_mul_mod_self_left, Nat.mod_eq_of_lt hl, Nat.add_mul_div_left _ _ (Nat.two_pow_pos k), Nat.div_eq_of_lt hl, Nat.zero_add]

theorem pow_lt64 (k : Nat) (hk : k < 64) : 2 ^ k ≤ 9223372036854775808 := by
  have := Nat.pow_le_pow_right (n := 2) (by decide) (show k ≤ 63 by omega)
  exact this
theorem or_top (n k b : Nat) (hk : k < 64) (hn : n < 2 ^ k) (hb : b ≤ 1) : bits .or .u64 (n : Int) (((2 ^ k * b : Nat)) : Int) = ((n + 2 ^ k * b : Nat) : Int) := by
  have hp := pow_lt64 k hk
  have h1 : 2 ^ k * b ≤ 2 ^ k * 1 := Nat.mul_le_mul_left _ hb
  rw [u64_or_nat n (2 ^ k * b) (by omega) (by omega), Nat.or_comm, nat_join k _ n (by simp) hn, Nat.add_comm]
theorem wrap_u64 (n : Nat) (h : n < 18446744073709551616) : IntKind.u64.wrap (n : Int) = n := by
  simp [IntKind.wrap, IntKind.bits, IntKind.signed]; omega
theorem wrap_u64' (n : Int) : IntKind.u64.wrap n = n % 18446744073709551616 := by
  simp [IntKind.wrap, IntKind.bits, IntKind.signed]
theorem and_one (s : Nat) (h : s < 18446744073709551616) : bits .and .u64 (s : Int) 1 = ((s % 2 : Nat) : Int) := by
  have := u64_and_nat s 1 h (by decide)
  rw [nat_mask1] at this
  exact this
/-- the round of 'add' -/
theorem add_round (x y k : Nat) (hk : k < 64) :
    bits .or .u64 (aN x y k : Nat) (IntKind.u64.wrap (bits .and .u64 ((bitN x k : Int) + bitN y k + aC x y k) 1 * 2 ^ k)) = (aN x y (k + 1) : Nat) := by
  have hp := pow_lt64 k hk
  have b1 := bitN_le x k
  have b2 := bitN_le y k
  have b3 := aC_le x y k
  have e : ((bitN x k : Int) + bitN y k + aC x y k) = ((bitN x k + bitN y k + aC x y k : Nat) : Int) := by omega
  rw [e, and_one _ (by omega), aN_succ]
  generalize bitN x k + bitN y k + aC x y k = s at *
  have h1 : 2 ^ k * (s % 2) ≤ 2 ^ k * 1 := Nat.mul_le_mul_left _ (by omega)
  have e2 : (((s % 2 : Nat) : Int) * 2 ^ k) = ((2 ^ k * (s % 2) : Nat) : Int) := by
    rw [Int.natCast_mul, Int.mul_comm, Int.natCast_pow]; rfl
  rw [e2, wrap_u64 _ (by omega)]
  exact or_top _ k _ hk (aN_lt x y k) (by omega)
theorem add_carry (x y k : Nat) : ((bitN x k : Int) + bitN y k + aC x y k) / 2 = (aC x y (k + 1) : Nat) := by
  rw [aC_succ]; omega
theorem add_end (x y : Nat) (hx : (x : Int) ≤ 18446744073709551615) (hy : (y : Int) ≤ 18446744073709551615) : aN x y 64 = addN x y := by
  unfold aN addN
  have hx' : x % 2 ^ 64 = x := Nat.mod_eq_of_lt (by omega)
  have hy' : y % 2 ^ 64 = y := Nat.mod_eq_of_lt (by omega)
  rw [hx', hy']
theorem aN_zero (x y : Nat) : aN x y 0 = 0 := by unfold aN; omega
theorem aC_zero (x y : Nat) : aC x y 0 = 0 := by unfold aC; simp; omega

/-! products -/
def mulN (x y k : Nat) : Nat := x * (y % 2 ^ k) % 18446744073709551616
theorem mul_zero (x y : Nat) : mulN x y 0 = 0 := by unfold mulN; simp [Nat.mod_one]
theorem mul_skip (x y k : Nat) (h : bitN y k = 0) : mulN x y (k + 1) = mulN x y k := by
  unfold mulN
  rw [Nat.mod_pow_succ]
  show x * (y % 2 ^ k + 2 ^ k * bitN y k) % _ = _
  rw [h]; simp
theorem mul_take (x y k : Nat) (h : bitN y k = 1) : addN (mulN x y k) (x * 2 ^ k % 18446744073709551616) = mulN x y (k + 1) := by
  unfold mulN addN
  rw [Nat.mod_pow_succ]
  show _ = x * (y % 2 ^ k + 2 ^ k * bitN y k) % _
  rw [h, Nat.mul_one, Nat.mul_add]
  rw [← Nat.add_mod]
theorem mul_end (x y : Nat) (hy : (y : Int) ≤ 18446744073709551615) : mulN x y 64 = x * y % 18446744073709551616 := by
  unfold mulN
  have hy' : y % 2 ^ 64 = y := Nat.mod_eq_of_lt (by omega)
  rw [hy']
theorem shl_val (x k : Nat) : IntKind.u64.wrap ((x : Int) * 2 ^ k) = ((x * 2 ^ k % 18446744073709551616 : Nat) : Int) := by
  have e : ((x : Int) * 2 ^ k) = ((x * 2 ^ k : Nat) : Int) := by rw [Int.natCast_mul, Int.natCast_pow]; rfl
  rw [e, wrap_u64']; omega

/-! long division: A is what has been taken of the dividend's bits, from above -/
theorem top_succ (a k : Nat) : a / 2 ^ k = 2 * (a / 2 ^ (k + 1)) + bitN a k := by
  unfold bitN
  rw [Nat.pow_succ, ← Nat.div_div_eq_div_mul]; omega
theorem long_more (A b t : Nat) (ht : t ≤ 1) (hb : 0 < b) (h : b ≤ 2 * (A % b) + t) : (2 * A + t) / b = 2 * (A / b) + 1 ∧ (2 * A + t) % b = 2 * (A % b) + t - b := by
  have h1 := Nat.div_add_mod A b
  have h2 := Nat.mod_lt A hb
  have e : 2 * A + t = (2 * (A % b) + t - b) + b * (2 * (A / b) + 1) := by
    rw [Nat.mul_add, Nat.mul_left_comm]; omega
  constructor
  · rw [e, Nat.add_mul_div_left _ _ hb, Nat.div_eq_of_lt (by omega)]; omega
  · rw [e, Nat.add_mul_mod_self_left, Nat.mod_eq_of_lt (by omega)]
theorem long_less (A b t : Nat) (hb : 0 < b) (h : 2 * (A % b) + t < b) : (2 * A + t) / b = 2 * (A / b) ∧ (2 * A + t) % b = 2 * (A % b) + t := by
  have h1 := Nat.div_add_mod A b
  have e : 2 * A + t = (2 * (A % b) + t) + b * (2 * (A / b)) := by
    rw [Nat.mul_left_comm]; omega
  constructor
  · rw [e, Nat.add_mul_div_left _ _ hb, Nat.div_eq_of_lt h]; omega
  · rw [e, Nat.add_mul_mod_self_left, Nat.mod_eq_of_lt h]
/-- the quotient as it stands when k bits are still to come -/
def qN (a b k : Nat) : Nat := a / 2 ^ k / b * 2 ^ k
def rN (a b k : Nat) : Nat := a / 2 ^ k % b
theorem qN_le (a b k : Nat) : qN a b k ≤ a := by
  unfold qN
  calc a / 2 ^ k / b * 2 ^ k ≤ a / 2 ^ k * 2 ^ k := Nat.mul_le_mul_right _ (Nat.div_le_self _ _)
    _ ≤ a := Nat.div_mul_le_self a (2 ^ k)
theorem qN_more (a b k : Nat) (hb : 0 < b) (h : b ≤ 2 * rN a b (k + 1) + bitN a k) : qN a b k = qN a b (k + 1) + 2 ^ k ∧ rN a b k = 2 * rN a b (k + 1) + bitN a k - b := by
  obtain ⟨h1, h2⟩ := long_more (a / 2 ^ (k + 1)) b (bitN a k) (bitN_le a k) hb h
  unfold qN rN
  rw [top_succ a k, h1, h2, Nat.add_mul, Nat.mul_assoc, Nat.mul_comm 2, Nat.mul_assoc, Nat.pow_succ]
  exact ⟨by omega, rfl⟩
theorem qN_less (a b k : Nat) (hb : 0 < b) (h : 2 * rN a b (k + 1) + bitN a k < b) : qN a b k = qN a b (k + 1) ∧ rN a b k = 2 * rN a b (k + 1) + bitN a k := by
  obtain ⟨h1, h2⟩ := long_less (a / 2 ^ (k + 1)) b (bitN a k) hb h
  unfold qN rN
  rw [top_succ a k, h1, h2, Nat.mul_comm 2, Nat.mul_assoc, Nat.pow_succ, Nat.mul_comm 2]
  exact ⟨rfl, by rw [Nat.mul_comm]⟩
theorem qN_end (a b : Nat) : qN a b 0 = a / b ∧ rN a b 0 = a % b := by unfold qN rN; simp
theorem qN_begin (a b : Nat) (ha : (a : Int) ≤ 18446744073709551615) : qN a b 64 = 0 ∧ rN a b 64 = 0 := by
  have e : a / 2 ^ 64 = 0 := Nat.div_eq_of_lt (by omega)
  unfold qN rN
  rw [e]; simp
theorem rN_lt (a b k : Nat) (hb : 0 < b) : rN a b k < b := Nat.mod_lt _ hb
theorem qN_dvd (a b k : Nat) : qN a b k % 2 ^ k = 0 := by unfold qN; simp
/-- 'q | 1<<k' -/
theorem q_set (a b k : Nat) (hk : k < 64) (ha : (a : Int) ≤ 18446744073709551615) : bits .or .u64 (qN a b (k + 1) : Nat) (IntKind.u64.wrap (2 ^ k)) = ((qN a b (k + 1) + 2 ^ k : Nat) : Int) := by
  have hp := pow_lt64 k hk
  have hq := qN_le a b (k + 1)
  have e : ((2 : Int) ^ k) = ((2 ^ k : Nat) : Int) := by rw [Int.natCast_pow]; rfl
  rw [e, wrap_u64 _ (by omega), u64_or_nat _ _ (by omega) (by omega), nat_join (k + 1) _ _ (qN_dvd a b (k + 1)) (by rw [Nat.pow_succ]; have := Nat.two_pow_pos k; omega)]

/-! bits one by one -/
theorem bitN_testBit (x i : Nat) : bitN x i = (x.testBit i).toNat := by
  unfold bitN
  rw [Nat.testBit_eq_decide_div_mod_eq]
  have : x / 2 ^ i % 2 = 0 ∨ x / 2 ^ i % 2 = 1 := by omega
  rcases this with h | h <;> simp [h]
theorem bitN_and (x y i : Nat) : bitN (x &&& y) i = bitN x i &&& bitN y i := by
  simp only [bitN_testBit, Nat.testBit_and]; cases x.testBit i <;> cases y.testBit i <;> rfl
theorem bitN_or (x y i : Nat) : bitN (x ||| y) i = bitN x i ||| bitN y i := by
  simp only [bitN_testBit, Nat.testBit_or]; cases x.testBit i <;> cases y.testBit i <;> rfl
theorem bitN_xor (x y i : Nat) : bitN (x ^^^ y) i = bitN x i ^^^ bitN y i := by
  simp only [bitN_testBit, Nat.testBit_xor]; cases x.testBit i <;> cases y.testBit i <;> rfl
theorem low_skip (z k : Nat) (h : bitN z k = 0) : z % 2 ^ (k + 1) = z % 2 ^ k := by
  rw [Nat.mod_pow_succ]
  show z % 2 ^ k + 2 ^ k * bitN z k = _
  rw [h]; simp
theorem low_take (z k : Nat) (h : bitN z k = 1) : z % 2 ^ (k + 1) = z % 2 ^ k + 2 ^ k := by
  rw [Nat.mod_pow_succ]
  show z % 2 ^ k + 2 ^ k * bitN z k = _
  rw [h]; simp
theorem low_set (z k : Nat) (hk : k < 64) : bits .or .u64 ((z % 2 ^ k : Nat) : Int) (IntKind.u64.wrap (2 ^ k)) = ((z % 2 ^ k + 2 ^ k : Nat) : Int) := by
  have hp := pow_lt64 k hk
  have e : ((2 : Int) ^ k) = ((2 ^ k * 1 : Nat) : Int) := by rw [Nat.mul_one, Int.natCast_pow]; rfl
  rw [e, wrap_u64 _ (by omega), or_top _ k 1 hk (Nat.mod_lt _ (Nat.two_pow_pos k)) (Nat.le_refl _), Nat.mul_one]

/-! numbers with a sign -/
theorem u64_val (a : Int) : IntKind.u64.wrap a = (u64N a : Nat) := by rw [wrap_u64']; unfold u64N; omega
theorem u64N_le (a : Int) : (u64N a : Int) ≤ 18446744073709551615 := by unfold u64N; omega
theorem u64N_toNat (a : Int) : u64N a = (BitVec.ofInt 64 a).toNat := by
  have := toNat_of a
  unfold u64N; omega
theorem and_back (a b : Int) : wrap64 ((u64N a &&& u64N b : Nat) : Int) = bits .and .i64 a b := by
  rw [bits_and, toInt_wrap, BitVec.toNat_and, u64N_toNat, u64N_toNat]
theorem or_back (a b : Int) : wrap64 ((u64N a ||| u64N b : Nat) : Int) = bits .or .i64 a b := by
  rw [bits_or, toInt_wrap, BitVec.toNat_or, u64N_toNat, u64N_toNat]
theorem xor_val (a b : Int) : wrap64 ((u64N a ^^^ u64N b : Nat) : Int) = bits .xor .i64 a b := by
  rw [bits_xor, toInt_wrap, BitVec.toNat_xor, u64N_toNat, u64N_toNat]

/-! complements -/
def notN (n : Nat) : Nat := 18446744073709551615 - n
theorem notN_le (n : Nat) : (notN n : Int) ≤ 18446744073709551615 := by unfold notN; omega
theorem not_val (n : Nat) (h : (n : Int) ≤ 18446744073709551615) : bits .xor .u64 IntKind.u64.max (n : Int) = (notN n : Nat) := by
  have hm : IntKind.u64.max = ((18446744073709551615 : Nat) : Int) := by decide
  have hn : n < 18446744073709551616 := by omega
  rw [hm, u64_xor_nat _ n (by decide) hn]
  have h1 : 18446744073709551615 &&& n = n := by
    rw [Nat.and_comm]
    have := Nat.and_two_pow_sub_one_eq_mod n 64
    rw [Nat.mod_eq_of_lt (by omega)] at this
    exact this
  have h2 := and_add_or 18446744073709551615 n
  have h3 := or_eq_xor_add_and 18446744073709551615 n
  unfold notN
  generalize (18446744073709551615 ||| n) = p at *
  generalize (18446744073709551615 ^^^ n) = q at *
  omega
theorem neg_val (n : Nat) (h : (n : Int) ≤ 18446744073709551615) : wrap64 (addN (notN n) 1 : Nat) = wrap64 (-n) := by
  unfold addN notN wrap64; omega
theorem abs_neg (a : Int) (h0 : -9223372036854775808 ≤ a) (h1 : a < 0) : addN (notN (u64N a)) 1 = a.natAbs := by
  unfold addN notN u64N; omega
theorem sub_val (a b : Int) : wrap64 (addN (addN (u64N a) (notN (u64N b))) 1 : Nat) = wrap64 (a - b) := by
  unfold addN notN u64N wrap64; omega
theorem sum_val (a b : Int) : wrap64 (addN (u64N a) (u64N b) : Nat) = wrap64 (a + b) := by
  unfold addN u64N wrap64; omega
theorem prod_val (a b : Int) : wrap64 ((u64N a * u64N b % 18446744073709551616 : Nat) : Int) = wrap64 (a * b) := by
  have e1 : (u64N a : Int) = a + 18446744073709551616 * (-(a / 18446744073709551616)) := by unfold u64N; omega
  have e2 : (u64N b : Int) = b + 18446744073709551616 * (-(b / 18446744073709551616)) := by unfold u64N; omega
  rw [Int.natCast_emod, Int.natCast_mul, e1, e2, Int.add_mul, Int.mul_add, Int.mul_assoc]
  generalize a * b = x
  rw [Int.mul_left_comm a]
  generalize a * -(b / 18446744073709551616) = y
  generalize -(a / 18446744073709551616) * (b + 18446744073709551616 * -(b / 18446744073709551616)) = z
  unfold wrap64
  omega
theorem quot_val (a b : Int) (hb : b ≠ 0) : wrap64 (if decide (a < 0) != decide (b < 0) then -((a.natAbs / b.natAbs : Nat) : Int) else ((a.natAbs / b.natAbs : Nat) : Int)) = wrap64 (a.tdiv b) := by
  congr 1
  rcases Int.natAbs_eq a with ha | ha <;> rcases Int.natAbs_eq b with hb' | hb'
  all_goals
    generalize a.natAbs = m at *
    generalize b.natAbs = n at *
    subst ha hb'
    try rw [Int.neg_tdiv]
    try rw [Int.tdiv_neg]
    rw [Int.tdiv_eq_ediv_of_nonneg (by omega), Int.natCast_ediv]
    by_cases hm : m = 0
    · subst hm; simp
    · have hn : n ≠ 0 := by omega
      have h1 : ¬ (m : Int) < 0 := by omega
      have h2 : ¬ (n : Int) < 0 := by omega
      have h3 : (-(m : Int) < 0) := by omega
      have h4 : (-(n : Int) < 0) := by omega
      simp [h1, h2, h3, h4] <;> (intro hh; exfalso; omega)
theorem rem_val (a b : Int) : (if decide (a < 0) = true then -((a.natAbs % b.natAbs : Nat) : Int) else ((a.natAbs % b.natAbs : Nat) : Int)) = a.tmod b := by
  have h := Int.natAbs_tmod a b
  rw [← h]
  have h1 : 0 ≤ a → 0 ≤ a.tmod b := fun h => Int.tmod_nonneg b h
  have h2 := (tmod_sign a b).2
  by_cases ha : a < 0
  · rw [if_pos (by simp [ha])]; omega
  · rw [if_neg (by simp [ha])]; omega

/-! a round of the long division -/
theorem or_low (m t : Nat) (hm : m % 2 = 0) (hl : m < 18446744073709551616) (ht : t ≤ 1) : bits .or .u64 (m : Int) (t : Int) = ((m + t : Nat) : Int) := by
  rw [u64_or_nat m t hl (by omega), nat_join 1 m t hm (by omega)]
theorem r_small (r t : Nat) (h : (r : Int) < 9223372036854775808) (ht : t ≤ 1) : bits .or .u64 ((r : Int) * 2) (t : Int) = ((2 * r + t : Nat) : Int) := by
  have e : (r : Int) * 2 = ((2 * r : Nat) : Int) := by omega
  rw [e]; exact or_low _ _ (by omega) (by omega) ht
theorem r_great (r t : Nat) (h : 9223372036854775808 ≤ (r : Int)) (hr : (r : Int) ≤ 18446744073709551615) (ht : t ≤ 1) : bits .or .u64 (IntKind.u64.wrap ((r : Int) * 2)) (t : Int) = ((2 * r - 18446744073709551616 + t : Nat) : Int) := by
  have e : IntKind.u64.wrap ((r : Int) * 2) = ((2 * r - 18446744073709551616 : Nat) : Int) := by rw [wrap_u64']; omega
  rw [e]; exact or_low _ _ (by omega) (by omega) ht
theorem r_less (r t y : Nat) (h : 9223372036854775808 ≤ (r : Int)) (hr : r < y) (hy : (y : Int) ≤ 18446744073709551615) (ht : t ≤ 1) : IntKind.u64.wrap (((2 * r - 18446744073709551616 + t : Nat) : Int) - y) = ((2 * r + t - y : Nat) : Int) := by
  rw [wrap_u64']; omega

/-! the first k bits -/
def lowN (z k : Nat) : Nat := z % 2 ^ k
theorem lowN_zero (z : Nat) : lowN z 0 = 0 := by unfold lowN; rw [Nat.pow_zero, Nat.mod_one]
theorem lowN_skip (z k : Nat) (h : bitN z k = 0) : lowN z (k + 1) = lowN z k := low_skip z k h
theorem lowN_take (z k : Nat) (hk : k < 64) (h : bitN z k = 1) : bits .or .u64 (lowN z k : Nat) (IntKind.u64.wrap (2 ^ k)) = (lowN z (k + 1) : Nat) := by
  unfold lowN; rw [low_set z k hk, low_take z k h]
theorem lowN_end (z : Nat) (h : z < 2 ^ 64) : lowN z 64 = z := Nat.mod_eq_of_lt h

end Go.Proofs.Ythmeonabdpbmjaa.Wr
