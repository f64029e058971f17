/- Of SchedTurns: turns are fair; no walk. -/
import Derived.Test.YthjncmnemppfhaaSdFP
import Derived.Test.YthjncmnemppfhaaSdTP
namespace Go.Proofs.Ythjncmnemppfhaa.Sd
open Go.RowKit
set_option linter.unusedVariables false

/-- at which place of a block a worker steps -/
def invW (n : Nat) (b : Int) (v : Nat) : Nat := ((if 128 ≤ b then b - v else v - b) % n).toNat
theorem invW_lt (n : Nat) (hn : 0 < n) (b : Int) (v : Nat) : invW n b v < n := by
  unfold invW
  have h1 := Int.emod_nonneg (if 128 ≤ b then b - v else v - b) (show (n : Int) ≠ 0 by omega)
  have h2 := Int.emod_lt_of_pos (if 128 ≤ b then b - v else v - b) (show 0 < (n : Int) by omega)
  omega
theorem mod_eq_iff (a c n : Int) (h0 : 0 ≤ c) (h1 : c < n) : a % n = c ↔ ∃ q, a = c + n * q := by
  constructor
  · intro h
    exact ⟨a / n, by have := Int.mul_ediv_add_emod a n; omega⟩
  · intro ⟨q, h⟩
    rw [h, Int.add_mul_emod_self_left]
    exact Int.emod_eq_of_lt h0 h1
theorem turnW_iff (n : Nat) (hn : 0 < n) (b : Int) (v i : Nat) (hv : v < n) (hi : i < n) : turnW n b i = v ↔ i = invW n b v := by
  have hI : (i = invW n b v) ↔ (if 128 ≤ b then b - v else v - b) % n = (i : Int) := by
    unfold invW
    have h1 := Int.emod_nonneg (if 128 ≤ b then b - v else v - b) (show (n : Int) ≠ 0 by omega)
    omega
  rw [hI]
  unfold turnW
  rw [mod_eq_iff _ _ _ (by omega) (by omega), mod_eq_iff _ _ _ (by omega) (by omega)]
  split
  · constructor
    · intro ⟨q, h⟩
      exact ⟨q - 1, by rw [Int.mul_sub]; omega⟩
    · intro ⟨q, h⟩
      exact ⟨q + 1, by rw [Int.mul_add]; omega⟩
  · constructor
    · intro ⟨q, h⟩
      exact ⟨-q, by rw [Int.mul_neg]; omega⟩
    · intro ⟨q, h⟩
      exact ⟨-q, by rw [Int.mul_neg]; omega⟩

theorem turns_wh (n : Nat) (hn : 0 < n) (s : ByteArray) (m q : Nat) (hq : q < m) : (wh (turnsN n s m) n q : Int) = turnW n (ordB s (q / n)) (q % n) := by
  have h1 := wh_lt (turnsN n s m) n (by omega) q
  have h2 := turnW_in n hn (ordB s (q / n)) (q % n)
  rw [h1.1, turns_get n s m q hq]
  unfold whoV
  simp only
  rw [if_neg (by omega), Int.emod_eq_of_lt h2.1 h2.2]
theorem turns_wh_iff (n : Nat) (hn : 0 < n) (s : ByteArray) (m q v : Nat) (hq : q < m) (hv : v < n) : wh (turnsN n s m) n q = v ↔ q % n = invW n (ordB s (q / n)) v := by
  rw [← turnW_iff n hn _ v (q % n) hv (Nat.mod_lt _ hn), ← turns_wh n hn s m q hq]
  omega

theorem turns_cnt (n : Nat) (hn : 0 < n) (s : ByteArray) (m v : Nat) (hv : v < n) (q : Nat) : q ≤ m → cntV (turnsN n s m) n v q = (q / n : Nat) + (if invW n (ordB s (q / n)) v < q % n then 1 else 0) := by
  induction q with
  | zero => intro _; simp [cntV]
  | succ q ih =>
    intro hq
    have ih := ih (by omega)
    have hi := turns_wh_iff n hn s m q v (by omega) hv
    have hinv := invW_lt n hn (ordB s (q / n)) v
    have hm := Nat.mod_lt q hn
    have hd := Nat.div_add_mod q n
    simp only [cntV]
    rw [ih]
    by_cases h : q % n + 1 < n
    · have e1 : (q + 1) / n = q / n := by
        rw [Nat.div_eq_iff hn]
        have : n * (q / n) = (q / n) * n := Nat.mul_comm _ _
        omega
      have e2 : (q + 1) % n = q % n + 1 := by rw [Nat.add_mod, Nat.mod_eq_of_lt (show 1 < n by omega), Nat.mod_eq_of_lt h]
      rw [e1, e2]
      by_cases h3 : q % n = invW n (ordB s (q / n)) v
      · rw [if_pos (hi.2 h3), if_neg (by omega), if_pos (by omega)]; omega
      · rw [if_neg (fun c => h3 (hi.1 c))]
        by_cases h4 : invW n (ordB s (q / n)) v < q % n
        · rw [if_pos h4, if_pos (by omega)]; omega
        · rw [if_neg h4, if_neg (by omega)]; omega
    · have e0 : q + 1 = n * (q / n + 1) := by rw [Nat.mul_add]; omega
      have e1 : (q + 1) / n = q / n + 1 := by rw [e0, Nat.mul_div_cancel_left _ hn]
      have e2 : (q + 1) % n = 0 := by rw [e0, Nat.mul_mod_right]
      rw [e1, e2, if_neg (show ¬ invW n (ordB s (q / n + 1)) v < 0 by omega)]
      by_cases h3 : q % n = invW n (ordB s (q / n)) v
      · rw [if_pos (hi.2 h3), if_neg (by omega)]; omega
      · rw [if_neg (fun c => h3 (hi.1 c)), if_pos (by omega)]; omega
theorem turns_all (n : Nat) (hn : 0 < n) (s : ByteArray) (k v : Nat) (hv : v < n) : cntV (turnsN n s (n * k)) n v (n * k) = k := by
  rw [turns_cnt n hn s (n * k) v hv (n * k) (Nat.le_refl _), Nat.mul_div_cancel_left _ hn, Nat.mul_mod_right, if_neg (by omega)]
  omega
theorem turns_holds (n : Nat) (hn : 0 < n) (s : ByteArray) (k : Nat) : holdsP (turnsN n s (n * k)) n (2 * n - 1) := by
  intro i hi v hv
  rw [turnsN_len] at hi
  have hv' : v < n := by simpa using hv
  obtain ⟨j, hj⟩ : ∃ j, j = (i + n - 1) / n := ⟨_, rfl⟩
  have h1 : n * j ≤ i + n - 1 := by rw [hj]; exact Nat.mul_div_le _ _
  have h2 : i + n - 1 < n * j + n := by rw [hj]; exact Nat.lt_mul_div_succ (i + n - 1) hn
  have hinv := invW_lt n hn (ordB s j) v
  have e1 : (n * j + invW n (ordB s j) v) / n = j := by rw [Nat.mul_add_div hn, Nat.div_eq_of_lt hinv, Nat.add_zero]
  have e2 : (n * j + invW n (ordB s j) v) % n = invW n (ordB s j) v := by rw [Nat.mul_add_mod, Nat.mod_eq_of_lt hinv]
  refine ⟨n * j + invW n (ordB s j) v, by omega, by omega, ?_⟩
  rw [turns_wh_iff n hn s (n * k) _ v (by omega) hv', e1, e2]
theorem turns_wide (n : Nat) (hn : 0 < n) (s : ByteArray) (k : Nat) : wide2 (turnsN n s (n * k)) n n ≤ 2 * n - 1 := by
  have h := (holds_iff (turnsN n s (n * k)) n (by omega) (2 * n - 1) (by omega)).1 (turns_holds n hn s k)
  simpa using h
theorem turns_list (n : Nat) (hn : 0 < n) (s : ByteArray) (k : Nat) : cntL (turnsN n s (n * k)) n (n * k) = List.replicate n (k : Int) := by
  apply List.ext_getElem
  · simp [cntL]
  · intro i h1 h2
    simp only [cntL, List.getElem_map, List.getElem_range, List.getElem_replicate]
    exact turns_all n hn s k i (by simpa [cntL] using h1)

end Go.Proofs.Ythjncmnemppfhaa.Sd
