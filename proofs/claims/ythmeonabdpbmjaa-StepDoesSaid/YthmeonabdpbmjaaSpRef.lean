/- The walk of the document's Do, all operations. Written by gen3.py. -/
import Derived.Test.YthmeonabdpbmjaaSpRa
import Derived.Test.YthmeonabdpbmjaaSpRb
import Derived.Test.YthmeonabdpbmjaaSpRc
import Derived.Test.YthmeonabdpbmjaaSpRd
import Derived.Test.YthmeonabdpbmjaaSpRe
import Derived.Test.YthmeonabdpbmjaaSpRf
import Derived.Test.YthmeonabdpbmjaaSpRg
namespace Go.Proofs.Ythmeonabdpbmjaa.Sp
open Go.RowKit Go.Proofs.Ythmeonabdpbmjaa.Wr

theorem ref_go (op A B C pc : Int) (R : Rg) (w : World) (hR : Hid (∀ n, -9223372036854775808 ≤ R.at n ∧ R.at n ≤ 9223372036854775807)) :
    Calls Try.prog 9 #[.agg #[.int .i64 op, .int .i64 A, .int .i64 B, .int .i64 C], .int .i64 pc, .agg #[.int .i64 R.r0, .int .i64 R.r1, .int .i64 R.r2, .int .i64 R.r3, .int .i64 R.r4, .int .i64 R.r5, .int .i64 R.r6, .int .i64 R.r7]] w fun e w' => e = .returned (.tuple #[.int .i64 (doPc op A B C pc R), .agg #[.int .i64 (doRg op A B C R).r0, .int .i64 (doRg op A B C R).r1, .int .i64 (doRg op A B C R).r2, .int .i64 (doRg op A B C R).r3, .int .i64 (doRg op A B C R).r4, .int .i64 (doRg op A B C R).r5, .int .i64 (doRg op A B C R).r6, .int .i64 (doRg op A B C R).r7], .agg #[.int .i64 (doEf op A B C R).kind, .int .i64 (doEf op A B C R).at_, .int .i64 (doEf op A B C R).value, .int .i64 (doEf op A B C R).other, .int .i64 (doEf op A B C R).reg], .int .i64 (doFt op C R)]) ∧ Below w.heap.size w w' := by
  by_cases ha : op = 0 ∨ op = 1 ∨ op = 2
  · exact ref_a op A B C pc R w hR (Lib.hid ha)
  by_cases hb : op = 13 ∨ op = 14 ∨ op = 15
  · exact ref_b op A B C pc R w hR (Lib.hid hb)
  by_cases hc : op = 16 ∨ op = 17 ∨ op = 18 ∨ op = 19
  · exact ref_c op A B C pc R w hR (Lib.hid hc)
  by_cases hd : op = 20 ∨ op = 21 ∨ op = 22
  · exact ref_d op A B C pc R w hR (Lib.hid hd)
  by_cases he : op = 23 ∨ op = 24 ∨ op = 25
  · exact ref_e op A B C pc R w hR (Lib.hid he)
  by_cases hf : 3 ≤ op ∧ op ≤ 12
  · exact ref_f op A B C pc R w hR hf
  · exact ref_g op A B C pc R w hR hf (by omega) (by omega) (by omega) (by omega) (by omega) (by omega) (by omega) (by omega) (by omega) (by omega) (by omega) (by omega) (by omega) (by omega) (by omega) (by omega)

end Go.Proofs.Ythmeonabdpbmjaa.Sp
