/- '==' on two arrays of eight ints that are the same, as the walk meets it. -/
import Derived.Test.YthmeonabdpbmjaaBase
import Derived.Test.YthmeonabdpbmjaaSpM
import Derived.ChangeKeysEq
namespace Go.Proofs.Ythmeonabdpbmjaa.Sp
open Go.RowKit

theorem infoInt : Try.prog.info? 3 ≠ none := by
  have : (Try.prog.info? 3).isSome = true := by kernel_rfl
  intro h; rw [h] at this; cases this
theorem cellsInt : Try.prog.cellsOf 3 = 1 := by kernel_rfl
theorem eq8 (R : Rg) (w : World) :
    (Op.equalIn 10000 24 (.agg #[.int .i64 R.r0, .int .i64 R.r1, .int .i64 R.r2, .int .i64 R.r3, .int .i64 R.r4, .int .i64 R.r5, .int .i64 R.r6, .int .i64 R.r7]) (.agg #[.int .i64 R.r0, .int .i64 R.r1, .int .i64 R.r2, .int .i64 R.r3, .int .i64 R.r4, .int .i64 R.r5, .int .i64 R.r6, .int .i64 R.r7])).run Try.prog w = .ok true w := by
  obtain ⟨i, hi⟩ := Option.ne_none_iff_exists'.1 infoInt
  rw [run_equalIn_array w 9999 _ _ Try.underlying24 hi]
  have hr : List.range 8 = [0, 1, 2, 3, 4, 5, 6, 7] := rfl
  rw [cellsInt, hr]
  simp [Op.eqItems, part, run_equalIn_int w 9998 3 .i64 .i64 _ _ Try.underlying3]

end Go.Proofs.Ythmeonabdpbmjaa.Sp
