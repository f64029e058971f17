/- Of Turns: scripts in blocks; no walk. -/
import Derived.Test.YthjncmnemppfhaaSdP
namespace Go.Proofs.Ythjncmnemppfhaa.Sd
open Go.RowKit
set_option linter.unusedVariables false

/-- the byte that orders a block -/
def ordB (s : ByteArray) (k : Nat) : Int := if s.size = 0 then 0 else ((s.data.toList.getD (k % s.size) 0).toNat : Int)
theorem ordB_in (s : ByteArray) (k : Nat) : 0 ≤ ordB s k ∧ ordB s k ≤ 255 := by
  unfold ordB
  split
  · omega
  · have := UInt8.toNat_lt (s.data.toList.getD (k % s.size) 0); omega
/-- the worker of the step i of a block whose byte is b, of n workers -/
def turnW (n : Nat) (b : Int) (i : Nat) : Int := (b + if 128 ≤ b then (n : Int) - i else i) % n
def turnsN (n : Nat) (s : ByteArray) : Nat → List Pk
  | 0 => []
  | k + 1 => turnsN n s k ++ [(turnW n (ordB s (k / n)) (k % n), ordB s (k / n) % n)]
theorem turnsN_len (n : Nat) (s : ByteArray) (k : Nat) : (turnsN n s k).length = k := by
  induction k with
  | zero => rfl
  | succ k ih => simp [turnsN, ih]
theorem turnW_in (n : Nat) (hn : 0 < n) (b : Int) (i : Nat) : 0 ≤ turnW n b i ∧ turnW n b i < n := by
  unfold turnW
  exact ⟨Int.emod_nonneg _ (by omega), Int.emod_lt_of_pos _ (by omega)⟩
theorem turnW_zero (n : Nat) (b : Int) : turnW n b 0 = b % n := by
  unfold turnW
  split
  · rw [show b + ((n : Int) - (0 : Nat)) = b + n by omega, Int.add_emod_right]
  · rw [show b + ((0 : Nat) : Int) = b by omega]
theorem turnW_up (n : Nat) (b : Int) (i : Nat) (h : b < 128) : turnW n b (i + 1) = (turnW n b i + 1) % n := by
  unfold turnW
  rw [if_neg (by omega), if_neg (by omega), Int.emod_add_emod]
  congr 1
  omega
theorem turnW_down (n : Nat) (b : Int) (i : Nat) (h : 128 ≤ b) : turnW n b (i + 1) = (turnW n b i + n - 1) % n := by
  unfold turnW
  rw [if_pos h, if_pos h, show (b + ((n : Int) - i)) % n + n - 1 = (b + ((n : Int) - i)) % n + (n - 1) by omega, Int.emod_add_emod,
    show b + ((n : Int) - i) + (n - 1) = (b + ((n : Int) - (i + 1 : Nat))) + n by omega, Int.add_emod_right]
theorem ord_at (s : ByteArray) (k : Nat) (h0 : 0 < s.size) (h : k % s.size < s.size) : ordB s k = ((s[k % s.size]'h).toNat : Int) := by
  unfold ordB
  rw [if_neg (by omega)]
  have h' : k % s.size < s.data.toList.length := by simpa using h
  rw [List.getD, List.getElem?_eq_getElem h']
  rfl
theorem ord_none (s : ByteArray) (k : Nat) (h0 : s.size = 0) : ordB s k = 0 := by unfold ordB; rw [if_pos h0]
/-- the elements -/
theorem turns_get (n : Nat) (s : ByteArray) (m : Nat) : ∀ k, k < m → (turnsN n s m).getD k (0, 0) = (turnW n (ordB s (k / n)) (k % n), ordB s (k / n) % n) := by
  induction m with
  | zero => intro k h; omega
  | succ m ih =>
    intro k hk
    have hl := turnsN_len n s m
    simp only [turnsN, List.getD] at ih ⊢
    by_cases h : k < m
    · rw [List.getElem?_append_left (by omega)]
      exact ih k h
    · have e : k = m := by omega
      subst e
      rw [List.getElem?_append_right (by omega), hl]
      simp

end Go.Proofs.Ythjncmnemppfhaa.Sd
