/- The walks of package sched: what each function computes. -/
import Derived.Test.YthjncmnemppfhaaBase
import Derived.Laws.AppendOwnNone
namespace Go.Proofs.Ythjncmnemppfhaa.Sd
open Go.RowKit
set_option linter.unusedVariables false
set_option linter.unusedSimpArgs false

def teamV (w : Int) : Int := if w < 1 then 1 else if 64 < w then 64 else w
def lenV (s : Int) : Int := if s < 0 then 0 else if 1048576 < s then 1048576 else s
def whoV (a n : Int) : Int := (if a < 0 then 0 else a) % n

theorem teamV_in (w : Int) : 1 ≤ teamV w ∧ teamV w ≤ 64 := by unfold teamV; repeat (first | omega | split)
theorem lenV_in (w : Int) : 0 ≤ lenV w ∧ lenV w ≤ 1048576 := by unfold lenV; repeat (first | omega | split)

theorem team_any (s : Int) (w : World) :
    Calls Try.prog 20 #[.int .i64 s] w fun e w' => e = .returned (.int .i64 (teamV s)) ∧ w = w' := by
  have H : Hid (teamV s = if 64 < (if s < 1 then 1 else s) then 64 else (if s < 1 then 1 else s)) := by apply Lib.hid; unfold teamV; repeat (first | omega | split)
  go_enter Try.func20, Try.ntmps20
  go_wp2_with fail
  all_goals
    go_ret
    refine ⟨ret_int ?_, rfl⟩
    rw [H.out]
    repeat (first | omega | split)

theorem len_any (s : Int) (w : World) :
    Calls Try.prog 24 #[.int .i64 s] w fun e w' => e = .returned (.int .i64 (lenV s)) ∧ w = w' := by
  have H : Hid (lenV s = if 1048576 < (if s < 0 then 0 else s) then 1048576 else (if s < 0 then 0 else s)) := by apply Lib.hid; unfold lenV; repeat (first | omega | split)
  go_enter Try.func24, Try.ntmps24
  go_wp2_with fail
  all_goals
    go_ret
    refine ⟨ret_int ?_, rfl⟩
    rw [H.out]
    repeat (first | omega | split)

theorem who_any (a b n : Int) (w : World) (hn : 0 < n) (hn2 : n ≤ 64) :
    Calls Try.prog 21 #[.agg #[.int .i64 a, .int .i64 b], .int .i64 n] w fun e w' => e = .returned (.int .i64 (whoV a n)) ∧ w.alloc (.cells #[.int .i64 a, .int .i64 b] 27) = w' := by
  by_cases h : a < 0
  · have e : Hid (whoV a n = 0) := by apply Lib.hid; unfold whoV; rw [if_pos h]; simp
    have hz : (0 : Int).tmod n = 0 := by simp
    go_enter Try.func21, Try.ntmps21
    go_wp2_with fail
    go_ret
    exact ⟨ret_int (by rw [e.out]; try simp), rfl⟩
  · have h' : 0 ≤ a := by omega
    have e : Hid (whoV a n = a % n) := by apply Lib.hid; unfold whoV; rw [if_neg h]
    have ht1 : 0 ≤ a % n := Int.emod_nonneg _ (by omega)
    have ht2 : a % n < 64 := by have := Int.emod_lt_of_pos a hn; omega
    clear h
    go_enter Try.func21, Try.ntmps21
    go_wp2_with fail
    go_ret
    exact ⟨ret_int (by rw [e.out]), rfl⟩

end Go.Proofs.Ythjncmnemppfhaa.Sd
