/- What an instruction that may be leaves as it was: plain facts. Written by gen9.py. -/
import Derived.Test.YthmeonabdpbmjaaSpSt
import Derived.Test.YthmeonabdpbmjaaSpCk
import Derived.Test.YthmeonabdpbmjaaSpTk
namespace Go.Proofs.Ythmeonabdpbmjaa.Sp
open Go.RowKit Go.Proofs.Ythmeonabdpbmjaa.Wr
set_option linter.unusedVariables false
set_option linter.unusedSimpArgs false

theorem get_set (R : Rg) (k v : Int) (i : Nat) (hi : i < 8) (hk : 0 ≤ k ∧ k ≤ 7) (h : (i : Int) ≠ k) : (R.set k v).get i = R.get i := by
  have e1 : k = 0 ∨ k = 1 ∨ k = 2 ∨ k = 3 ∨ k = 4 ∨ k = 5 ∨ k = 6 ∨ k = 7 := by omega
  have e2 : i = 0 ∨ i = 1 ∨ i = 2 ∨ i = 3 ∨ i = 4 ∨ i = 5 ∨ i = 6 ∨ i = 7 := by omega
  rcases e1 with rfl | rfl | rfl | rfl | rfl | rfl | rfl | rfl <;> rcases e2 with rfl | rfl | rfl | rfl | rfl | rfl | rfl | rfl <;> first | rfl | exact absurd rfl h
theorem held_in (A : Int) (h : 0 ≤ A ∧ A ≤ 7) : held A = A := by unfold held; omega

theorem keeps (op A B C pc got : Int) (R : Rg) (h25 : 0 ≤ op ∧ op ≤ 25) (hr : regs op → 0 ≤ A ∧ A ≤ 7) (hf : faults op (R.at C) = false) :
    doFt op C R = 0 ∧ ((doEf op A B C R = noEf) ∨ ((doEf op A B C R).kind ≠ 0 ∧ doRg op A B C R = R)) ∧
    (∀ i : Nat, i < 8 → (i : Int) ≠ A → (tookR (doRg op A B C R) (doEf op A B C R).kind (doEf op A B C R).value (doEf op A B C R).reg got).get i = R.get i) ∧
    (doPc op A B C pc R = wrap64 (pc + 1) ∨ (op = 18 ∧ doPc op A B C pc R = A) ∨ (op = 19 ∧ doPc op A B C pc R = B ∧ R.at A = 0)) := by
  have e1 : doFt op C R = 0 := by simp [doFt, hf]
  have e2 : doEf op A B C R = ofE op A (R.at A) (R.at B) (R.at C) (held A) := by simp [doEf, hf]
  have e3 : doRg op A B C R = goR op A B R (R.at B) (R.at C) := by simp [doRg, hf]
  have e4 : doPc op A B C pc R = goN op A B pc (R.at A) := by simp [doPc, hf]
  rw [e1, e2, e3, e4]
  refine ⟨rfl, ?_, ?_, ?_⟩
  · by_cases h : op = 1 ∨ op = 2 ∨ (3 ≤ op ∧ op ≤ 12) ∨ op = 18 ∨ op = 19
    · left
      unfold ofE
      repeat rw [if_neg (by omega)]
    · right
      have e : op = 0 ∨ op = 13 ∨ op = 14 ∨ op = 15 ∨ op = 16 ∨ op = 17 ∨ op = 20 ∨ op = 21 ∨ op = 22 ∨ op = 23 ∨ op = 24 ∨ op = 25 := by omega
      rcases e with rfl | rfl | rfl | rfl | rfl | rfl | rfl | rfl | rfl | rfl | rfl | rfl <;> simp [ofE, goR]
  · intro i hi hne
    by_cases h : op = 1 ∨ op = 2 ∨ (3 ≤ op ∧ op ≤ 12)
    · have hA := hr (by unfold regs; omega)
      have e5 : ofE op A (R.at A) (R.at B) (R.at C) (held A) = noEf := by
        unfold ofE
        repeat rw [if_neg (by omega)]
      rw [e5]
      show (if (0 : Int) = 4 then _ else if (0 : Int) = 1 ∨ (0 : Int) = 3 then _ else goR op A B R (R.at B) (R.at C)).get i = _
      rw [if_neg (by omega), if_neg (by omega)]
      unfold goR
      rw [held_in A hA]
      split
      · exact get_set _ _ _ _ hi hA hne
      · split
        · exact get_set _ _ _ _ hi hA hne
        · split
          · exact get_set _ _ _ _ hi hA hne
          · rfl
    · have e6 : goR op A B R (R.at B) (R.at C) = R := by unfold goR; rw [if_neg (by omega), if_neg (by omega), if_neg (by omega)]
      rw [e6]
      by_cases h13 : op = 13 ∨ op = 15 ∨ op = 16
      · have hA := hr (by unfold regs; omega)
        rw [held_in A hA]
        rcases h13 with rfl | rfl | rfl
        all_goals
          simp only [ofE, tookR]
          simp
          rw [held_in A hA]
          exact get_set _ _ _ _ hi hA hne
      · have e : op = 0 ∨ op = 14 ∨ op = 17 ∨ op = 18 ∨ op = 19 ∨ op = 20 ∨ op = 21 ∨ op = 22 ∨ op = 23 ∨ op = 24 ∨ op = 25 := by omega
        rcases e with rfl | rfl | rfl | rfl | rfl | rfl | rfl | rfl | rfl | rfl | rfl <;> simp [ofE, tookR, noEf]
  · unfold goN
    by_cases h18 : op = 18
    · right; left; exact ⟨h18, by simp [h18]⟩
    · rw [if_neg h18]
      by_cases h19 : op = 19 ∧ R.at A = 0
      · right; right; exact ⟨h19.1, by simp [h19], h19.2⟩
      · left; rw [if_neg h19]

theorem faulted (op A B C pc : Int) (R : Rg) (hf : faults op (R.at C) = true) :
    doPc op A B C pc R = pc ∧ doRg op A B C R = R ∧ doEf op A B C R = noEf ∧ doFt op C R ≠ 0 := by
  refine ⟨by simp [doPc, hf], by simp [doRg, hf], by simp [doEf, hf], ?_⟩
  simp only [doFt, hf, if_true]
  unfold faults at hf
  simp at hf
  exact hf.2

end Go.Proofs.Ythmeonabdpbmjaa.Sp
