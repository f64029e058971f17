/- Plain facts for package token: held numbers, joins of bits, quotients and remainders. No program in sight. -/
import Derived.WalkKit
namespace Go.Proofs.Ytgkbgkfgoplijaa.Tok

/-- a number held from 0 to 2^20-1 -/
def th (n : Int) : Int := min (max n 0) 1048575
/-- a number held from 0 to 2^60-1 -/
def tw (n : Int) : Int := min (max n 0) 1152921504606846975
def tokOf (l i s : Int) : Int := th l * 1099511627776 + th i * 1048576 + th s
def tokIs (t : Int) : Bool := decide (1099511627776 ≤ t ∧ t ≤ 1152921504606846975)
def tokLoop (t : Int) : Int := tw t / 1099511627776
def tokIter (t : Int) : Int := tw t / 1048576 % 1048576
def tokStage (t : Int) : Int := tw t % 1048576
def nextOk (t c : Int) : Bool := tokIs t && decide (tokStage t < c)
def nextV (t c : Int) : Int := if nextOk t c = true then tokIter t else 0

theorem th_bd (n : Int) : 0 ≤ th n ∧ th n ≤ 1048575 := by unfold th; omega
theorem tw_bd (n : Int) : 0 ≤ tw n ∧ tw n ≤ 1152921504606846975 := by unfold tw; omega

theorem wraps_i64 (n : Int) (h0 : 0 ≤ n) (h1 : n < 2 ^ 63) : IntKind.i64.wrap n = n := by rw [IntKind.wrap_i64]; omega

theorem or20 (x y : Int) (h0 : 0 ≤ x) (h1 : x ≤ 1099511627775) (y0 : 0 ≤ y) (y1 : y ≤ 1048575) : bits .or .i64 (x * 1048576) y = x * 1048576 + y :=
  bits_join .i64 63 (by decide) wraps_i64 20 (x * 1048576) y (by omega) (by omega) (by omega) y0 (by omega) (by omega)

theorem and20 (x : Int) (h0 : 0 ≤ x) (h1 : x < 2 ^ 63) : bits .and .i64 x 1048575 = x % 1048576 := by
  have := bits_mask .i64 63 (by decide) wraps_i64 20 (by decide) x h0 h1
  simpa using this

theorem of_val (l i s : Int) : bits .or .i64 (RowKit.wrap64 (bits .or .i64 (th l * 1048576) (th i) * 1048576)) (th s) = tokOf l i s := by
  have b1 := th_bd l
  have b2 := th_bd i
  have b3 := th_bd s
  rw [or20 (th l) (th i) (by omega) (by omega) (by omega) (by omega)]
  rw [IntWalk.wrap64_in _ ⟨by omega, by omega⟩]
  rw [or20 (th l * 1048576 + th i) (th s) (by omega) (by omega) (by omega) (by omega)]
  unfold tokOf; omega

theorem iter_val (t : Int) : bits .and .i64 (tw t / 1048576) 1048575 = tokIter t := by
  have b := tw_bd t
  rw [and20 _ (by omega) (by omega)]; rfl
theorem stage_val (t : Int) : bits .and .i64 (tw t) 1048575 = tokStage t := by
  have b := tw_bd t
  rw [and20 _ (by omega) (by omega)]; rfl

theorem th_in (n : Int) (h0 : 0 ≤ n) (h1 : n ≤ 1048575) : th n = n := by unfold th; omega
theorem tokOf_in (l i s : Int) (l0 : 0 ≤ l) (l1 : l ≤ 1048575) (i0 : 0 ≤ i) (i1 : i ≤ 1048575) (s0 : 0 ≤ s) (s1 : s ≤ 1048575) : tokOf l i s = l * 1099511627776 + i * 1048576 + s := by
  unfold tokOf; rw [th_in l l0 l1, th_in i i0 i1, th_in s s0 s1]
theorem tokLoop_of (l i s : Int) (l0 : 0 ≤ l) (l1 : l ≤ 1048575) (i0 : 0 ≤ i) (i1 : i ≤ 1048575) (s0 : 0 ≤ s) (s1 : s ≤ 1048575) : tokLoop (tokOf l i s) = l := by
  rw [tokOf_in l i s l0 l1 i0 i1 s0 s1]; unfold tokLoop tw; omega
theorem tokIter_of (l i s : Int) (l0 : 0 ≤ l) (l1 : l ≤ 1048575) (i0 : 0 ≤ i) (i1 : i ≤ 1048575) (s0 : 0 ≤ s) (s1 : s ≤ 1048575) : tokIter (tokOf l i s) = i := by
  rw [tokOf_in l i s l0 l1 i0 i1 s0 s1]; unfold tokIter tw; omega
theorem tokStage_of (l i s : Int) (l0 : 0 ≤ l) (l1 : l ≤ 1048575) (i0 : 0 ≤ i) (i1 : i ≤ 1048575) (s0 : 0 ≤ s) (s1 : s ≤ 1048575) : tokStage (tokOf l i s) = s := by
  rw [tokOf_in l i s l0 l1 i0 i1 s0 s1]; unfold tokStage tw; omega
theorem tokIs_of (l i s : Int) (l0 : 0 ≤ l) (l1 : l ≤ 1048575) (i0 : 0 ≤ i) (i1 : i ≤ 1048575) (s0 : 0 ≤ s) (s1 : s ≤ 1048575) : tokIs (tokOf l i s) = decide (0 < l) := by
  rw [tokOf_in l i s l0 l1 i0 i1 s0 s1]; unfold tokIs; rw [decide_eq_decide]; omega

end Go.Proofs.Ytgkbgkfgoplijaa.Tok
