/- The walks of package wrap: what each function computes. -/
import Derived.Test.YthmeonabdpbmjaaBase
import Derived.Test.YthmeonabdpbmjaaWrM
namespace Go.Proofs.Ythmeonabdpbmjaa.Wr
open Go.RowKit
set_option linter.unusedVariables false
set_option linter.unusedSimpArgs false

theorem yes_any (b : Bool) (w : World) :
    Calls Try.prog 25 #[.bool b] w fun e w' => e = .returned (.int .i64 (b2i b)) ∧ w = w' := by
  cases b
  all_goals
    go_enter Try.func25, Try.ntmps25
    go_wp2
    go_ret
    exact ⟨rfl, rfl⟩

theorem divide_any (op a b : Int) (w : World) (ho : op = 6 ∨ op = 7) :
    Calls Try.prog 24 #[.int .i64 op, .int .i64 a, .int .i64 b] w fun e w' => e = .returned (.tuple #[.int .i64 (doV op a b), .int .i64 (doF op b)]) ∧ w = w' := by
  by_cases hb : b = 0
  · subst hb
    rcases ho with rfl | rfl
    all_goals
      go_enter Try.func24, Try.ntmps24
      go_wp2
      go_ret2
      exact ⟨rfl, rfl⟩
  · have hb' : (b == 0) = false := by simp [hb]
    rcases ho with rfl | rfl
    all_goals
      go_enter Try.func24, Try.ntmps24
      go_wp2
      go_ret2
      exact ⟨by simp [doV, doF, hb], rfl⟩

theorem do_any (op a b : Int) (w : World) :
    Calls Try.prog 18 #[.int .i64 op, .int .i64 a, .int .i64 b] w fun e w' => e = .returned (.tuple #[.int .i64 (doV op a b), .int .i64 (doF op b)]) ∧ w = w' := by
  by_cases h6 : op = 6 ∨ op = 7
  · rcases h6 with rfl | rfl
    all_goals
      go_enter Try.func18, Try.ntmps18
      go_wp2_with (first | (go_at_call 24; refine (divide_any _ _ _ _ (by decide)).mono ?_; rintro e w' ⟨rfl, rfl⟩))
      go_ret2
      exact ⟨rfl, rfl⟩
  · have n6 : (op == 6) = false := by simp; omega
    have n7 : (op == 7) = false := by simp; omega
    have hf : doF op b = 0 := by simp [doF]; omega
    by_cases h3 : op = 3
    · subst h3
      go_enter Try.func18, Try.ntmps18
      go_wp2_with (first | (go_at_call 25; refine (yes_any _ _).mono ?_; rintro e w' ⟨rfl, rfl⟩))
      go_ret2
      exact ⟨by simp [doV, doF], rfl⟩
    have n3 : (op == 3) = false := by simp [h3]
    by_cases h4 : op = 4
    · subst h4
      go_enter Try.func18, Try.ntmps18
      go_wp2_with (first | (go_at_call 25; refine (yes_any _ _).mono ?_; rintro e w' ⟨rfl, rfl⟩))
      go_ret2
      exact ⟨by simp [doV, doF], rfl⟩
    have n4 : (op == 4) = false := by simp [h4]
    by_cases h5 : op = 5
    · subst h5
      go_enter Try.func18, Try.ntmps18
      go_wp2_with (first | (go_at_call 25; refine (yes_any _ _).mono ?_; rintro e w' ⟨rfl, rfl⟩))
      go_ret2
      exact ⟨by simp [doV, doF], rfl⟩
    have n5 : (op == 5) = false := by simp [h5]
    by_cases h8 : op = 8
    · subst h8
      go_enter Try.func18, Try.ntmps18
      go_wp2_with (first | (go_at_call 25; refine (yes_any _ _).mono ?_; rintro e w' ⟨rfl, rfl⟩))
      go_ret2
      exact ⟨by simp [doV, doF], rfl⟩
    have n8 : (op == 8) = false := by simp [h8]
    by_cases h9 : op = 9
    · subst h9
      go_enter Try.func18, Try.ntmps18
      go_wp2_with (first | (go_at_call 25; refine (yes_any _ _).mono ?_; rintro e w' ⟨rfl, rfl⟩))
      go_ret2
      exact ⟨by simp [doV, doF], rfl⟩
    have n9 : (op == 9) = false := by simp [h9]
    by_cases h10 : op = 10
    · subst h10
      go_enter Try.func18, Try.ntmps18
      go_wp2_with (first | (go_at_call 25; refine (yes_any _ _).mono ?_; rintro e w' ⟨rfl, rfl⟩))
      go_ret2
      exact ⟨by simp [doV, doF], rfl⟩
    have n10 : (op == 10) = false := by simp [h10]
    by_cases h11 : op = 11
    · subst h11
      go_enter Try.func18, Try.ntmps18
      go_wp2_with (first | (go_at_call 25; refine (yes_any _ _).mono ?_; rintro e w' ⟨rfl, rfl⟩))
      go_ret2
      exact ⟨by simp [doV, doF], rfl⟩
    have n11 : (op == 11) = false := by simp [h11]
    by_cases h12 : op = 12
    · subst h12
      go_enter Try.func18, Try.ntmps18
      go_wp2_with (first | (go_at_call 25; refine (yes_any _ _).mono ?_; rintro e w' ⟨rfl, rfl⟩))
      go_ret2
      exact ⟨by simp [doV, doF], rfl⟩
    have n12 : (op == 12) = false := by simp [h12]
    have hv : doV op a b = 0 := by simp [doV, h3, h4, h5, h8, h9, h10, h11, h12]; omega
    clear h3 h4 h5 h6 h8 h9 h10 h11 h12
    go_enter Try.func18, Try.ntmps18
    go_wp2_with (first | (go_at_call 25; refine (yes_any _ _).mono ?_; rintro e w' ⟨rfl, rfl⟩))
    go_ret2
    exact ⟨by rw [hv, hf]; rfl, rfl⟩

theorem known_any (op : Int) (w : World) :
    Calls Try.prog 17 #[.int .i64 op] w fun e w' => e = .returned (.bool (decide (3 ≤ op ∧ op ≤ 12))) ∧ w = w' := by
  go_enter Try.func17, Try.ntmps17
  go_wp2
  all_goals (go_ret; exact ⟨ret_bool (by simp; try omega), rfl⟩)

end Go.Proofs.Ythmeonabdpbmjaa.Wr
