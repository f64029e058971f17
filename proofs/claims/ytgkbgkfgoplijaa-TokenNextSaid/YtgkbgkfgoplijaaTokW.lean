/- The walks of package token: what each function computes. -/
import Derived.Test.YtgkbgkfgoplijaaRows
import Derived.Test.YtgkbgkfgoplijaaTokM
import Derived.Test.YtgkbgkfgoplijaaBase
namespace Go.Proofs.Ytgkbgkfgoplijaa.Tok
open Go.RowKit

theorem held_any (n : Int) (w : World) :
    Calls Try.prog 17 #[.int .i64 n] w fun e w' => e = .returned (.int .i64 (th n)) ∧ w = w' := by
  go_enter Try.func17, Try.ntmps17
  go_wp2
  all_goals (go_ret; exact ⟨ret_int (by unfold th; omega), rfl⟩)

theorem whole_any (n : Int) (w : World) :
    Calls Try.prog 18 #[.int .i64 n] w fun e w' => e = .returned (.int .i64 (tw n)) ∧ w = w' := by
  go_enter Try.func18, Try.ntmps18
  go_wp2
  all_goals (go_ret; exact ⟨ret_int (by unfold tw; omega), rfl⟩)

theorem of_any (l i s : Int) (w : World) :
    Calls Try.prog 9 #[.int .i64 l, .int .i64 i, .int .i64 s] w fun e w' => e = .returned (.int .i64 (tokOf l i s)) ∧ w = w' := by
  have b1 := th_bd l
  have b2 := th_bd i
  have b3 := th_bd s
  go_enter Try.func9, Try.ntmps9
  go_wp2_with (go_at_call 17; refine (held_any _ _).mono ?_; rintro e w' ⟨rfl, rfl⟩)
  go_ret
  exact ⟨ret_int (of_val l i s), rfl⟩

theorem loop_any (t : Int) (w : World) :
    Calls Try.prog 11 #[.int .i64 t] w fun e w' => e = .returned (.int .i64 (tokLoop t)) ∧ w = w' := by
  have b1 := tw_bd t
  go_enter Try.func11, Try.ntmps11
  go_wp2_with (go_at_call 18; refine (whole_any _ _).mono ?_; rintro e w' ⟨rfl, rfl⟩)
  go_ret
  exact ⟨ret_int (by unfold tokLoop; rfl), rfl⟩

theorem iter_any (t : Int) (w : World) :
    Calls Try.prog 12 #[.int .i64 t] w fun e w' => e = .returned (.int .i64 (tokIter t)) ∧ w = w' := by
  have b1 := tw_bd t
  go_enter Try.func12, Try.ntmps12
  go_wp2_with (go_at_call 18; refine (whole_any _ _).mono ?_; rintro e w' ⟨rfl, rfl⟩)
  go_ret
  exact ⟨ret_int (iter_val t), rfl⟩

theorem stage_any (t : Int) (w : World) :
    Calls Try.prog 13 #[.int .i64 t] w fun e w' => e = .returned (.int .i64 (tokStage t)) ∧ w = w' := by
  have b1 := tw_bd t
  go_enter Try.func13, Try.ntmps13
  go_wp2_with (go_at_call 18; refine (whole_any _ _).mono ?_; rintro e w' ⟨rfl, rfl⟩)
  go_ret
  exact ⟨ret_int (stage_val t), rfl⟩

theorem is_any (t : Int) (w : World) :
    Calls Try.prog 14 #[.int .i64 t] w fun e w' => e = .returned (.bool (tokIs t)) ∧ w = w' := by
  go_enter Try.func14, Try.ntmps14
  go_wp2
  all_goals (go_ret; exact ⟨ret_bool (by unfold tokIs; simp; try omega), rfl⟩)

theorem next_any (t c : Int) (w : World) :
    Calls Try.prog 15 #[.int .i64 t, .int .i64 c] w fun e w' => e = .returned (.tuple #[.int .i64 (nextV t c), .bool (nextOk t c)]) ∧ w = w' := by
  cases hi : tokIs t <;> by_cases hc : tokStage t < c
  all_goals
    go_enter Try.func15, Try.ntmps15
    go_wp2_with (first | (go_at_call 14; refine (is_any _ _).mono ?_; rintro e w' ⟨rfl, rfl⟩) | (go_at_call 13; refine (stage_any _ _).mono ?_; rintro e w' ⟨rfl, rfl⟩) | (go_at_call 12; refine (iter_any _ _).mono ?_; rintro e w' ⟨rfl, rfl⟩))
    go_ret2
    exact ⟨by simp [nextV, nextOk, hi] <;> omega, rfl⟩

end Go.Proofs.Ytgkbgkfgoplijaa.Tok
