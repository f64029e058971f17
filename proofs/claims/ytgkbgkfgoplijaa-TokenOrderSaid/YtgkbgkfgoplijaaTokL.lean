/- The walks of the reference for package token, and of the statements' own tests. -/
import Derived.Test.YtgkbgkfgoplijaaTokW
namespace Go.Proofs.Ytgkbgkfgoplijaa.Tok
open Go.RowKit

theorem rheld_any (n : Int) (w : World) :
    Calls Try.prog 16 #[.int .i64 n, .int .i64 1048575] w fun e w' => e = .returned (.int .i64 (th n)) ∧ w = w' := by
  go_enter Try.func16, Try.ntmps16
  go_wp2
  all_goals (go_ret; exact ⟨ret_int (by unfold th; omega), rfl⟩)

theorem rheld_big (n : Int) (w : World) :
    Calls Try.prog 16 #[.int .i64 n, .int .i64 1152921504606846975] w fun e w' => e = .returned (.int .i64 (tw n)) ∧ w = w' := by
  go_enter Try.func16, Try.ntmps16
  go_wp2
  all_goals (go_ret; exact ⟨ret_int (by unfold tw; omega), rfl⟩)

theorem rof_any (l i s : Int) (w : World) :
    Calls Try.prog 10 #[.int .i64 l, .int .i64 i, .int .i64 s] w fun e w' => e = .returned (.int .i64 (tokOf l i s)) ∧ w = w' := by
  have b1 := th_bd l
  have b2 := th_bd i
  have b3 := th_bd s
  go_enter Try.func10, Try.ntmps10
  go_wp2_with (go_at_call 16; refine (rheld_any _ _).mono ?_; rintro e w' ⟨rfl, rfl⟩)
  go_ret
  exact ⟨ret_int (by unfold tokOf; omega), rfl⟩

theorem parts_any (t : Int) (w : World) :
    Calls Try.prog 8 #[.int .i64 t] w fun e w' => e = .returned (.agg #[.int .i64 (tokLoop t), .int .i64 (tokIter t), .int .i64 (tokStage t)]) ∧ w.alloc (.cells #[.int .i64 (tokLoop t), .int .i64 (tokIter t), .int .i64 (tokStage t)] 23) = w' := by
  have b1 := tw_bd t
  have e1 : tw t / 1048576 / 1048576 = tokLoop t := by unfold tokLoop; omega
  have e2 : tw t / 1048576 % 1048576 = tokIter t := rfl
  have e3 : tw t % 1048576 = tokStage t := rfl
  go_enter Try.func8, Try.ntmps8
  go_wp2_with (go_at_call 16; refine (rheld_big _ _).mono ?_; rintro e w' ⟨rfl, rfl⟩)
  exact bodyPost_ret (v := .agg #[.int .i64 (tokLoop t), .int .i64 (tokIter t), .int .i64 (tokStage t)]) (by simp [results, Try.results8, go_sem]) rfl ⟨rfl, rfl⟩

theorem works_any (w : World) :
    Calls Try.prog 7 #[] w fun e w' => e = .returned (.bool true) ∧ w = w' := by
  have k1 : tokOf 1 0 0 = 1099511627776 := by decide
  have k2 : tokLoop (tokOf 3 2 9) = 3 := by decide
  have k3 : tokIter (tokOf 3 2 9) = 2 := by decide
  have k4 : tokStage (tokOf 3 2 9) = 9 := by decide
  have k5 : tokIs (tokOf 3 2 9) = true := by decide
  have k6 : tokIs 5 = false := by decide
  go_enter Try.func7, Try.ntmps7
  go_wp2_with (first | (go_at_call 9; refine (of_any _ _ _ _).mono ?_; rintro e w' ⟨rfl, rfl⟩) | (go_at_call 14; refine (is_any _ _).mono ?_; rintro e w' ⟨rfl, rfl⟩) | (go_at_call 13; refine (stage_any _ _).mono ?_; rintro e w' ⟨rfl, rfl⟩) | (go_at_call 12; refine (iter_any _ _).mono ?_; rintro e w' ⟨rfl, rfl⟩) | (go_at_call 11; refine (loop_any _ _).mono ?_; rintro e w' ⟨rfl, rfl⟩))
  go_ret
  exact ⟨rfl, rfl⟩

end Go.Proofs.Ytgkbgkfgoplijaa.Tok
