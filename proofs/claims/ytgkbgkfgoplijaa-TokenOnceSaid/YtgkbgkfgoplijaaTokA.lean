/- An argument of type [3]uint32, opened. -/
import Derived.Test.YtgkbgkfgoplijaaFrame
import Derived.Laws.IdiomArrays
import Derived.Lib.SmallJoins
namespace Go.Proofs.Ytgkbgkfgoplijaa.Tok
open Go.ChangeShapes Go.WideShapes Go.ChangeAt Go.RowKit

theorem cellsA : Try.prog.cellsOf 30 = 3 := by kernel_rfl
theorem cellsU : Try.prog.cellsOf 29 = 1 := by kernel_rfl
theorem range_u32 {n : Int} (h : (Lit.int .u32 n).wf = true) : 0 ≤ n ∧ n ≤ 4294967295 := by
  simp [Lit.wf, IntKind.min, IntKind.max, IntKind.signed, IntKind.bits] at h; omega

theorem open_arr3 {H : Type} {enc : TypeId × Value → H} {W : World} {base b0 : Nat} {sp : Nat → Bool} {held : Bool} {v : Value} {d : DataW H} {p : List MemPlace}
    (hv : Value.okWide Try.prog W .any base 30 v) (hd : DataW.Trod enc Try.prog W b0 sp held 30 v d p) :
    ∃ a0 a1 a2 : Int, v = .agg #[.int .u32 a0, .int .u32 a1, .int .u32 a2] ∧ (0 ≤ a0 ∧ a0 ≤ 4294967295) ∧ (0 ≤ a1 ∧ a1 ≤ 4294967295) ∧ (0 ≤ a2 ∧ a2 ≤ 4294967295) := by
  unfold Value.okWide at hv
  rw [Try.underlying30] at hv
  obtain ⟨cs, rfl, hsz, -⟩ := hv
  rw [cellsA] at hsz
  obtain ⟨c0, c1, c2, rfl⟩ := Joins.array3 hsz
  obtain ⟨fuel, hf⟩ := hd
  have hf' : DataW.trod enc Try.prog W b0 sp held fuel 30 [c0, c1, c2] = some (d, p) := by simpa [Value.cells] using hf
  obtain ⟨y0, y1, y2, n, _, h0, h1, h2⟩ := trod_array3 Try.underlying30 cellsU hf'
  obtain ⟨a0, e0, _, w0⟩ := DataW.trod_int Try.underlying29 h0
  obtain ⟨a1, e1, _, w1⟩ := DataW.trod_int Try.underlying29 h1
  obtain ⟨a2, e2, _, w2⟩ := DataW.trod_int Try.underlying29 h2
  simp at e0 e1 e2
  subst e0 e1 e2
  exact ⟨a0, a1, a2, rfl, range_u32 w0, range_u32 w1, range_u32 w2⟩

end Go.Proofs.Ytgkbgkfgoplijaa.Tok
