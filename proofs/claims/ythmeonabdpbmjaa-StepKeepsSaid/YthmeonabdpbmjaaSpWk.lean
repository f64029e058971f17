/- works of chapter 08: it returns true. Written by gen5.py. -/
import Derived.Test.YthmeonabdpbmjaaSpDo
import Derived.Test.YthmeonabdpbmjaaSpE
namespace Go.Proofs.Ythmeonabdpbmjaa.Sp
open Go.RowKit Go.Proofs.Ythmeonabdpbmjaa.Wr
set_option linter.unusedVariables false
set_option linter.unusedSimpArgs false

theorem wdo1 (w : World) : Calls Try.prog 8 #[.agg #[.int .i64 1, .int .i64 2, .int .i64 5, .int .i64 0], .int .i64 7, .agg #[.int .i64 0, .int .i64 0, .int .i64 0, .int .i64 0, .int .i64 0, .int .i64 0, .int .i64 0, .int .i64 0]] w fun e w' => e = .returned (.tuple #[.int .i64 8, .agg #[.int .i64 0, .int .i64 0, .int .i64 5, .int .i64 0, .int .i64 0, .int .i64 0, .int .i64 0, .int .i64 0], .agg #[.int .i64 0, .int .i64 0, .int .i64 0, .int .i64 0, .int .i64 0], .int .i64 0]) ∧ Below w.heap.size w w' := by
  refine (do_go 1 2 5 0 7 ⟨0, 0, 0, 0, 0, 0, 0, 0⟩ w).mono ?_
  rintro e w' ⟨rfl, hb⟩
  exact ⟨by kernel_rfl, hb⟩
theorem wdo2 (w : World) : Calls Try.prog 8 #[.agg #[.int .i64 23, .int .i64 2, .int .i64 0, .int .i64 0], .int .i64 0, .agg #[.int .i64 0, .int .i64 0, .int .i64 5, .int .i64 0, .int .i64 0, .int .i64 0, .int .i64 0, .int .i64 0]] w fun e w' => e = .returned (.tuple #[.int .i64 1, .agg #[.int .i64 0, .int .i64 0, .int .i64 5, .int .i64 0, .int .i64 0, .int .i64 0, .int .i64 0, .int .i64 0], .agg #[.int .i64 9, .int .i64 0, .int .i64 5, .int .i64 0, .int .i64 0], .int .i64 0]) ∧ Below w.heap.size w w' := by
  refine (do_go 23 2 0 0 0 ⟨0, 0, 5, 0, 0, 0, 0, 0⟩ w).mono ?_
  rintro e w' ⟨rfl, hb⟩
  exact ⟨by kernel_rfl, hb⟩

theorem works_any (w : World) : Calls Try.prog 7 #[] w fun e w' => e = .returned (.bool true) ∧ Below w.heap.size w w' := by
  have c1 := Lib.hid wdo1
  have c2 := Lib.hid wdo2
  have E8 : ∀ w, (Op.equalIn 10000 24 (.agg #[.int .i64 0, .int .i64 0, .int .i64 5, .int .i64 0, .int .i64 0, .int .i64 0, .int .i64 0, .int .i64 0]) (.agg #[.int .i64 0, .int .i64 0, .int .i64 5, .int .i64 0, .int .i64 0, .int .i64 0, .int .i64 0, .int .i64 0])).run Try.prog w = .ok true w := fun w => eq8 ⟨0, 0, 5, 0, 0, 0, 0, 0⟩ w
  go_enter Try.func7, Try.ntmps7
  go_upto_region 2 with (go_at_call 8; refine (c1.out _).mono ?_; rintro e w1 ⟨rfl, hb1⟩)
  generalize hW : (w1.alloc (.cells #[.int .i64 0, .int .i64 0, .int .i64 5, .int .i64 0, .int .i64 0, .int .i64 0, .int .i64 0, .int .i64 0] 24)).alloc (.cells #[.int .i64 0, .int .i64 0, .int .i64 0, .int .i64 0, .int .i64 0] 27) = W
  generalize hg_g2 : w1.heap.size + 1 = g2
  generalize hg_g1 : w1.heap.size = g1
  have a0 : W.cell? ⟨g1, 0, none⟩ = some (.int .i64 0) := by rw [← hW]; exact kc (cell_new _ _ _ _ _ hg_g1.symm)
  have a1 : W.cell? ⟨g1, 1, none⟩ = some (.int .i64 0) := by rw [← hW]; exact kc (cell_new _ _ _ _ _ hg_g1.symm)
  have a2 : W.cell? ⟨g1, 2, none⟩ = some (.int .i64 5) := by rw [← hW]; exact kc (cell_new _ _ _ _ _ hg_g1.symm)
  have a3 : W.cell? ⟨g1, 3, none⟩ = some (.int .i64 0) := by rw [← hW]; exact kc (cell_new _ _ _ _ _ hg_g1.symm)
  have a4 : W.cell? ⟨g1, 4, none⟩ = some (.int .i64 0) := by rw [← hW]; exact kc (cell_new _ _ _ _ _ hg_g1.symm)
  have a5 : W.cell? ⟨g1, 5, none⟩ = some (.int .i64 0) := by rw [← hW]; exact kc (cell_new _ _ _ _ _ hg_g1.symm)
  have a6 : W.cell? ⟨g1, 6, none⟩ = some (.int .i64 0) := by rw [← hW]; exact kc (cell_new _ _ _ _ _ hg_g1.symm)
  have a7 : W.cell? ⟨g1, 7, none⟩ = some (.int .i64 0) := by rw [← hW]; exact kc (cell_new _ _ _ _ _ hg_g1.symm)
  have l_g1 : g1 < W.heap.size := by rw [← hW, ← hg_g1]; simp; try omega
  have b0 : W.cell? ⟨g2, 0, none⟩ = some (.int .i64 0) := by rw [← hW]; exact cell_new _ _ _ _ _ (by rw [← hg_g2]; simp)
  have b1 : W.cell? ⟨g2, 1, none⟩ = some (.int .i64 0) := by rw [← hW]; exact cell_new _ _ _ _ _ (by rw [← hg_g2]; simp)
  have b2 : W.cell? ⟨g2, 2, none⟩ = some (.int .i64 0) := by rw [← hW]; exact cell_new _ _ _ _ _ (by rw [← hg_g2]; simp)
  have b3 : W.cell? ⟨g2, 3, none⟩ = some (.int .i64 0) := by rw [← hW]; exact cell_new _ _ _ _ _ (by rw [← hg_g2]; simp)
  have b4 : W.cell? ⟨g2, 4, none⟩ = some (.int .i64 0) := by rw [← hW]; exact cell_new _ _ _ _ _ (by rw [← hg_g2]; simp)
  have l_g2 : g2 < W.heap.size := by rw [← hW, ← hg_g2]; simp; try omega
  have BW : Below w.heap.size w W := by rw [← hW]; exact ((hb1.alloc (by have q := hb1.size; simp; try omega) _).alloc (by have q := hb1.size; simp; try omega) _)
  clear hW
  clear hb1
  go_upto_region 3 with (go_at_call 8; refine (c2.out _).mono ?_; rintro e w2 ⟨rfl, hb2⟩; replace a0 := kb hb2 l_g1 a0; replace a1 := kb hb2 l_g1 a1; replace a2 := kb hb2 l_g1 a2; replace a3 := kb hb2 l_g1 a3; replace a4 := kb hb2 l_g1 a4; replace a5 := kb hb2 l_g1 a5; replace a6 := kb hb2 l_g1 a6; replace a7 := kb hb2 l_g1 a7; replace l_g1 := Nat.lt_of_lt_of_le l_g1 hb2.size; replace b0 := kb hb2 l_g2 b0; replace b1 := kb hb2 l_g2 b1; replace b2 := kb hb2 l_g2 b2; replace b3 := kb hb2 l_g2 b3; replace b4 := kb hb2 l_g2 b4; replace l_g2 := Nat.lt_of_lt_of_le l_g2 hb2.size; replace BW := BW.trans (hb2.mono BW.size))
  generalize hW : (w2.alloc (.cells #[.int .i64 0, .int .i64 0, .int .i64 5, .int .i64 0, .int .i64 0, .int .i64 0, .int .i64 0, .int .i64 0] 24)).alloc (.cells #[.int .i64 9, .int .i64 0, .int .i64 5, .int .i64 0, .int .i64 0] 27) = W2
  replace a0 : W2.cell? ⟨g1, 0, none⟩ = some (.int .i64 0) := by rw [← hW]; exact kc (kc (a0))
  replace a1 : W2.cell? ⟨g1, 1, none⟩ = some (.int .i64 0) := by rw [← hW]; exact kc (kc (a1))
  replace a2 : W2.cell? ⟨g1, 2, none⟩ = some (.int .i64 5) := by rw [← hW]; exact kc (kc (a2))
  replace a3 : W2.cell? ⟨g1, 3, none⟩ = some (.int .i64 0) := by rw [← hW]; exact kc (kc (a3))
  replace a4 : W2.cell? ⟨g1, 4, none⟩ = some (.int .i64 0) := by rw [← hW]; exact kc (kc (a4))
  replace a5 : W2.cell? ⟨g1, 5, none⟩ = some (.int .i64 0) := by rw [← hW]; exact kc (kc (a5))
  replace a6 : W2.cell? ⟨g1, 6, none⟩ = some (.int .i64 0) := by rw [← hW]; exact kc (kc (a6))
  replace a7 : W2.cell? ⟨g1, 7, none⟩ = some (.int .i64 0) := by rw [← hW]; exact kc (kc (a7))
  replace l_g1 : g1 < W2.heap.size := by rw [← hW]; simp; omega
  replace b0 : W2.cell? ⟨g2, 0, none⟩ = some (.int .i64 0) := by rw [← hW]; exact kc (kc (b0))
  replace b1 : W2.cell? ⟨g2, 1, none⟩ = some (.int .i64 0) := by rw [← hW]; exact kc (kc (b1))
  replace b2 : W2.cell? ⟨g2, 2, none⟩ = some (.int .i64 0) := by rw [← hW]; exact kc (kc (b2))
  replace b3 : W2.cell? ⟨g2, 3, none⟩ = some (.int .i64 0) := by rw [← hW]; exact kc (kc (b3))
  replace b4 : W2.cell? ⟨g2, 4, none⟩ = some (.int .i64 0) := by rw [← hW]; exact kc (kc (b4))
  replace l_g2 : g2 < W2.heap.size := by rw [← hW]; simp; omega
  generalize hg_g4 : w2.heap.size + 1 = g4
  generalize hg_g3 : w2.heap.size = g3
  have c0 : W2.cell? ⟨g3, 0, none⟩ = some (.int .i64 0) := by rw [← hW]; exact kc (cell_new _ _ _ _ _ hg_g3.symm)
  have c1 : W2.cell? ⟨g3, 1, none⟩ = some (.int .i64 0) := by rw [← hW]; exact kc (cell_new _ _ _ _ _ hg_g3.symm)
  have c2 : W2.cell? ⟨g3, 2, none⟩ = some (.int .i64 5) := by rw [← hW]; exact kc (cell_new _ _ _ _ _ hg_g3.symm)
  have c3 : W2.cell? ⟨g3, 3, none⟩ = some (.int .i64 0) := by rw [← hW]; exact kc (cell_new _ _ _ _ _ hg_g3.symm)
  have c4 : W2.cell? ⟨g3, 4, none⟩ = some (.int .i64 0) := by rw [← hW]; exact kc (cell_new _ _ _ _ _ hg_g3.symm)
  have c5 : W2.cell? ⟨g3, 5, none⟩ = some (.int .i64 0) := by rw [← hW]; exact kc (cell_new _ _ _ _ _ hg_g3.symm)
  have c6 : W2.cell? ⟨g3, 6, none⟩ = some (.int .i64 0) := by rw [← hW]; exact kc (cell_new _ _ _ _ _ hg_g3.symm)
  have c7 : W2.cell? ⟨g3, 7, none⟩ = some (.int .i64 0) := by rw [← hW]; exact kc (cell_new _ _ _ _ _ hg_g3.symm)
  have l_g3 : g3 < W2.heap.size := by rw [← hW, ← hg_g3]; simp; try omega
  have d0 : W2.cell? ⟨g4, 0, none⟩ = some (.int .i64 9) := by rw [← hW]; exact cell_new _ _ _ _ _ (by rw [← hg_g4]; simp)
  have d1 : W2.cell? ⟨g4, 1, none⟩ = some (.int .i64 0) := by rw [← hW]; exact cell_new _ _ _ _ _ (by rw [← hg_g4]; simp)
  have d2 : W2.cell? ⟨g4, 2, none⟩ = some (.int .i64 5) := by rw [← hW]; exact cell_new _ _ _ _ _ (by rw [← hg_g4]; simp)
  have d3 : W2.cell? ⟨g4, 3, none⟩ = some (.int .i64 0) := by rw [← hW]; exact cell_new _ _ _ _ _ (by rw [← hg_g4]; simp)
  have d4 : W2.cell? ⟨g4, 4, none⟩ = some (.int .i64 0) := by rw [← hW]; exact cell_new _ _ _ _ _ (by rw [← hg_g4]; simp)
  have l_g4 : g4 < W2.heap.size := by rw [← hW, ← hg_g4]; simp; try omega
  replace BW : Below w.heap.size w W2 := by rw [← hW]; exact ((BW.alloc (by have q := BW.size; simp; try omega) _).alloc (by have q := BW.size; simp; try omega) _)
  clear hW
  go_wp2
  go_ret
  exact ⟨rfl, BW⟩

end Go.Proofs.Ythmeonabdpbmjaa.Sp
