/- Of Fair: how often each worker steps, how wide its windows are; no walk. -/
import Derived.Test.YthjncmnemppfhaaSdWi
namespace Go.Proofs.Ythjncmnemppfhaa.Sd
open Go.RowKit
set_option linter.unusedVariables false

/-- how many of the first k picks are the worker v's -/
def cntV (l : List Pk) (t : Int) (v : Nat) : Nat → Int
  | 0 => 0
  | k + 1 => cntV l t v k + (if wh l t k = v then 1 else 0)
theorem cntV_in (l : List Pk) (t : Int) (v k : Nat) : 0 ≤ cntV l t v k ∧ cntV l t v k ≤ k := by
  induction k with
  | zero => simp [cntV]
  | succ k ih => simp only [cntV]; split <;> omega
def lastV (l : List Pk) (t : Int) (v k : Nat) : Int := (lastN l t k).getD v 0
theorem lastV_zero (l : List Pk) (t : Int) (v : Nat) : lastV l t v 0 = 0 := by
  simp only [lastV, lastN, List.getD, List.getElem?_replicate]; split <;> simp
theorem lastV_succ (l : List Pk) (t : Int) (v k : Nat) (hv : v < t.toNat) : lastV l t v (k + 1) = if wh l t k = v then (k : Int) + 1 else lastV l t v k := by
  simp only [lastV, lastN]
  rw [getD_set, lastN_len]
  by_cases h : wh l t k = v
  · rw [if_pos ⟨h, by omega⟩, if_pos h]
  · rw [if_neg (fun c => h c.1), if_neg h]
theorem lastV_in (l : List Pk) (t : Int) (v k : Nat) : 0 ≤ lastV l t v k ∧ lastV l t v k ≤ k := lastN_in l t k v
/-- none behind the last one -/
theorem lastV_none (l : List Pk) (t : Int) (v : Nat) (hv : v < t.toNat) (k : Nat) : ∀ q : Nat, lastV l t v k ≤ q → q < k → wh l t q ≠ v := by
  induction k with
  | zero => intro q _ h; omega
  | succ k ih =>
    intro q h1 h2
    rw [lastV_succ l t v k hv] at h1
    split at h1
    · omega
    · by_cases e : q = k
      · subst e; assumption
      · exact ih q h1 (by omega)
theorem lastV_le (l : List Pk) (t : Int) (v : Nat) (hv : v < t.toNat) (i : Nat) (k : Nat) (h : ∀ q, i ≤ q → q < k → wh l t q ≠ v) : lastV l t v k ≤ i := by
  induction k with
  | zero => rw [lastV_zero]; omega
  | succ k ih =>
    have hi := lastV_in l t v k
    rw [lastV_succ l t v k hv]
    split
    · rename_i hw
      by_cases e : i ≤ k
      · exact absurd hw (h k e (by omega))
      · omega
    · exact ih (fun q h1 h2 => h q h1 (by omega))
theorem cnt_last (l : List Pk) (t : Int) (v : Nat) (hv : v < t.toNat) (k : Nat) : cntV l t v k = 0 ↔ lastV l t v k = 0 := by
  induction k with
  | zero => simp [cntV, lastV_zero]
  | succ k ih =>
    have h1 := cntV_in l t v k
    rw [lastV_succ l t v k hv]
    simp only [cntV]
    split
    · omega
    · simpa using ih

/-- is each worker among any so many picks one behind the other? -/
def holdsP (l : List Pk) (t : Int) (W : Int) : Prop := ∀ i : Nat, (i : Int) + W ≤ l.length → ∀ v : Nat, v < t.toNat → ∃ k : Nat, i ≤ k ∧ (k : Int) < i + W ∧ wh l t k = v

theorem wideN_le (l : List Pk) (t : Int) (W : Int) (k : Nat) : wideN l t k ≤ W ↔ 0 ≤ W ∧ ∀ i : Nat, i < k → (i : Int) - lastV l t (wh l t i) i + 1 ≤ W := by
  induction k with
  | zero => simp [wideN]
  | succ k ih =>
    simp only [wideN]
    constructor
    · intro h
      have h1 : wideN l t k ≤ W := by omega
      have h2 : (k : Int) - (lastN l t k).getD (wh l t k) 0 + 1 ≤ W := by omega
      refine ⟨(ih.1 h1).1, fun i hi => ?_⟩
      by_cases e : i = k
      · subst e; exact h2
      · exact (ih.1 h1).2 i (by omega)
    · intro ⟨h0, h⟩
      have h1 := ih.2 ⟨h0, fun i hi => h i (by omega)⟩
      have h2 : (k : Int) - (lastN l t k).getD (wh l t k) 0 + 1 ≤ W := h k (by omega)
      omega
theorem wide2_le (l : List Pk) (t : Int) (W : Int) (j : Nat) : wide2 l t j ≤ W ↔ wideN l t l.length ≤ W ∧ ∀ v : Nat, v < j → (l.length : Int) - lastV l t v l.length + 1 ≤ W := by
  induction j with
  | zero => simp [wide2]
  | succ j ih =>
    simp only [wide2]
    constructor
    · intro h
      have h1 : wide2 l t j ≤ W := by omega
      have h2 : (l.length : Int) - (lastN l t l.length).getD j 0 + 1 ≤ W := by omega
      refine ⟨(ih.1 h1).1, fun v hv => ?_⟩
      by_cases e : v = j
      · subst e; exact h2
      · exact (ih.1 h1).2 v (by omega)
    · intro ⟨h0, h⟩
      have h1 := ih.2 ⟨h0, fun v hv => h v (by omega)⟩
      have h2 : (l.length : Int) - (lastN l t l.length).getD j 0 + 1 ≤ W := h j (by omega)
      omega

theorem holds_iff (l : List Pk) (t : Int) (ht : 0 < t) (W : Int) (hW : 1 ≤ W) : holdsP l t W ↔ wide2 l t t.toNat ≤ W := by
  rw [wide2_le, wideN_le]
  constructor
  · intro h
    refine ⟨⟨by omega, fun i hi => ?_⟩, fun v hv => ?_⟩
    · have hlt := (wh_lt l t ht i).2
      have hin := lastV_in l t (wh l t i) i
      obtain ⟨s, hs⟩ : ∃ s : Nat, lastV l t (wh l t i) i = s := ⟨(lastV l t (wh l t i) i).toNat, by omega⟩
      rw [hs] at hin ⊢
      by_cases hc : (s : Int) + W ≤ i
      · obtain ⟨k, h1, h2, h3⟩ := h s (by omega) _ hlt
        exact absurd h3 (lastV_none l t _ hlt i k (by omega) (by omega))
      · omega
    · have hin := lastV_in l t v l.length
      obtain ⟨s, hs⟩ : ∃ s : Nat, lastV l t v l.length = s := ⟨(lastV l t v l.length).toNat, by omega⟩
      rw [hs] at hin ⊢
      by_cases hc : (s : Int) + W ≤ l.length
      · obtain ⟨k, h1, h2, h3⟩ := h s hc v hv
        exact absurd h3 (lastV_none l t v hv l.length k (by omega) (by omega))
      · omega
  · intro ⟨⟨_, h1⟩, h2⟩ i hi v hv
    refine Classical.byContradiction fun hno => ?_
    have hno' : ∀ k : Nat, i ≤ k → (k : Int) < i + W → wh l t k ≠ v := fun k a b c => hno ⟨k, a, b, c⟩
    have hall : ∀ q : Nat, i ≤ q → q < l.length → wh l t q ≠ v := by
      intro q
      induction q using Nat.strongRecOn with
      | ind q ih =>
        intro ha hb hc
        by_cases hq : (q : Int) < i + W
        · exact hno' q ha hq hc
        · have hle := lastV_le l t v hv i q (fun p p1 p2 => ih p p2 p1 (by omega))
          have := h1 q hb
          rw [hc] at this
          omega
    have hle := lastV_le l t v hv i l.length hall
    have := h2 v hv
    omega
theorem wide_pos (l : List Pk) (t : Int) (ht : 0 < t) : 1 ≤ wide2 l t t.toNat := by
  have h := (wide2_le l t (wide2 l t t.toNat) t.toNat).1 (Int.le_refl _)
  have h1 := h.2 0 (by omega)
  have h2 := lastV_in l t 0 l.length
  omega

/-- how many picks each worker has, as a list -/
def cntL (l : List Pk) (m k : Nat) : List Int := (List.range m).map fun v => cntV l m v k
theorem cntL_len (l : List Pk) (m k : Nat) : (cntL l m k).length = m := by simp [cntL]
theorem cntL_get (l : List Pk) (m k v : Nat) (h : v < m) : (cntL l m k).getD v 0 = cntV l m v k := by
  simp [cntL, List.getD, h]
theorem cntL_zero (l : List Pk) (m : Nat) : cntL l m 0 = List.replicate m 0 := by
  apply List.ext_getElem
  · simp [cntL]
  · intro i h1 h2; simp [cntL, cntV]
theorem cntL_succ (l : List Pk) (m k : Nat) (hw : wh l m k < m) : cntL l m (k + 1) = (cntL l m k).set (wh l m k) ((cntL l m k).getD (wh l m k) 0 + 1) := by
  rw [cntL_get _ _ _ _ hw]
  apply List.ext_getElem
  · simp [cntL]
  · intro i h1 h2
    rw [List.getElem_set]
    simp only [cntL, List.getElem_map, List.getElem_range, cntV]
    by_cases h : wh l m k = i
    · rw [if_pos h, if_pos h, h]
    · rw [if_neg h, if_neg h, Int.add_zero]
/-- the same list, as it grows worker by worker -/
def cntR (l : List Pk) (m n w i : Nat) : List Int := (List.range m).map fun v => if v < w then cntV l m v n else if v = w then cntV l m v i else 0
theorem cntR_len (l : List Pk) (m n w i : Nat) : (cntR l m n w i).length = m := by simp [cntR]
theorem cntR_get (l : List Pk) (m n w i : Nat) (h : w < m) : (cntR l m n w i).getD w 0 = cntV l m w i := by
  simp [cntR, List.getD, h]
theorem cntR_zero (l : List Pk) (m n : Nat) : cntR l m n 0 0 = List.replicate m 0 := by
  apply List.ext_getElem
  · simp [cntR]
  · intro i h1 h2
    simp only [cntR, List.getElem_map, List.getElem_range, List.getElem_replicate]
    rw [if_neg (by omega)]
    split <;> simp [cntV]
theorem cntR_next (l : List Pk) (m n w : Nat) : cntR l m n w n = cntR l m n (w + 1) 0 := by
  apply List.ext_getElem
  · simp [cntR]
  · intro i h1 h2
    simp only [cntR, List.getElem_map, List.getElem_range]
    by_cases h : i < w
    · rw [if_pos h, if_pos (by omega)]
    · by_cases e : i = w
      · rw [if_neg h, if_pos e, if_pos (by omega)]
      · rw [if_neg h, if_neg e, if_neg (by omega)]
        split <;> simp [cntV]
theorem cntR_all (l : List Pk) (m n : Nat) : cntR l m n m 0 = cntL l m n := by
  apply List.ext_getElem
  · simp [cntR, cntL]
  · intro i h1 h2
    simp only [cntR, cntL, List.getElem_map, List.getElem_range]
    rw [if_pos (by simpa [cntR] using h1)]
theorem cntR_hit (l : List Pk) (m n w i : Nat) (h : w < m) (hw : wh l m i = w) : cntR l m n w (i + 1) = (cntR l m n w i).set w ((cntR l m n w i).getD w 0 + 1) := by
  rw [cntR_get _ _ _ _ _ h]
  apply List.ext_getElem
  · simp [cntR]
  · intro j h1 h2
    rw [List.getElem_set]
    simp only [cntR, List.getElem_map, List.getElem_range, cntV]
    by_cases e : w = j
    · subst e; simp [hw]
    · rw [if_neg e]
      by_cases h3 : j < w
      · rw [if_pos h3, if_pos h3]
      · rw [if_neg h3, if_neg h3, if_neg (fun c => e c.symm), if_neg (fun c => e c.symm)]
theorem cntR_miss (l : List Pk) (m n w i : Nat) (hw : wh l m i ≠ w) : cntR l m n w (i + 1) = cntR l m n w i := by
  apply List.ext_getElem
  · simp [cntR]
  · intro j h1 h2
    simp only [cntR, List.getElem_map, List.getElem_range, cntV]
    by_cases e : j = w
    · subst e; simp [hw]
    · split
      · rfl
      · rfl

end Go.Proofs.Ythjncmnemppfhaa.Sd
