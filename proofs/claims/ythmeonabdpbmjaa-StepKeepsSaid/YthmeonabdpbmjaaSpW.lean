/- The walks of package step: what each function computes. -/
import Derived.Test.YthmeonabdpbmjaaWrW
import Derived.Test.YthmeonabdpbmjaaSpM
import Derived.Deep.RegionHeld3
import Derived.Deep.DeepCutAuto
namespace Go.Proofs.Ythmeonabdpbmjaa.Sp
open Go.RowKit Go.Proofs.Ythmeonabdpbmjaa.Wr
set_option linter.unusedVariables false
set_option linter.unusedSimpArgs false

theorem held_any (n : Int) (w : World) :
    Calls Try.prog 15 #[.int .i64 n] w fun e w' => e = .returned (.int .i64 (held n)) ∧ w = w' := by
  go_enter Try.func15, Try.ntmps15
  go_wp2
  all_goals (go_ret; exact ⟨ret_int (by unfold held; omega), rfl⟩)

theorem at_any (R : Rg) (n : Int) (w : World) :
    Calls Try.prog 16 #[.agg #[.int .i64 R.r0, .int .i64 R.r1, .int .i64 R.r2, .int .i64 R.r3, .int .i64 R.r4, .int .i64 R.r5, .int .i64 R.r6, .int .i64 R.r7], .int .i64 n] w fun e w' => e = .returned (.int .i64 (R.at n)) ∧ w.alloc (.cells #[.int .i64 R.r0, .int .i64 R.r1, .int .i64 R.r2, .int .i64 R.r3, .int .i64 R.r4, .int .i64 R.r5, .int .i64 R.r6, .int .i64 R.r7] 43) = w' := by
  have HA : Hid (R.at n = R.get (held n)) := rfl
  have hc := held_cases n
  have c1 := Lib.hid (fun w => held_any n w)
  rcases hc with h | h | h | h | h | h | h | h
  all_goals
    rw [h] at HA c1
    clear h
    go_enter Try.func16, Try.ntmps16
    go_wp2_with (go_at_call 15; refine (c1.out _).mono ?_; rintro e w' ⟨rfl, rfl⟩)
    go_ret
    exact ⟨by rw [HA.out]; rfl, rfl⟩

end Go.Proofs.Ythmeonabdpbmjaa.Sp
