/- '==' on two arrays of three ints, as the walk meets it. -/
import Derived.Test.YtgkbgkfgoplijaaBase
import Derived.ChangeKeysEq
namespace Go.Proofs.Ytgkbgkfgoplijaa.Tok
open Go.RowKit

theorem infoInt : Try.prog.info? 3 ≠ none := by
  have : (Try.prog.info? 3).isSome = true := by kernel_rfl
  intro h; rw [h] at this; cases this
theorem cellsInt : Try.prog.cellsOf 3 = 1 := by kernel_rfl
theorem eq3 (x0 x1 x2 y0 y1 y2 : Int) (b : Bool) (hb : (x0 == y0 && (x1 == y1 && x2 == y2)) = b) (w : World) :
    (Op.equalIn 10000 23 (.agg #[.int .i64 x0, .int .i64 x1, .int .i64 x2]) (.agg #[.int .i64 y0, .int .i64 y1, .int .i64 y2])).run Try.prog w = .ok b w := by
  obtain ⟨i, hi⟩ := Option.ne_none_iff_exists'.1 infoInt
  rw [run_equalIn_array w 9999 _ _ Try.underlying23 hi]
  have hr : List.range 3 = [0, 1, 2] := rfl
  rw [cellsInt, hr, ← hb]
  by_cases h0 : x0 = y0 <;> by_cases h1 : x1 = y1 <;> by_cases h2 : x2 = y2 <;> simp [Op.eqItems, part, run_equalIn_int w 9998 3 .i64 .i64 _ _ Try.underlying3, h0, h1, h2]

end Go.Proofs.Ytgkbgkfgoplijaa.Tok
