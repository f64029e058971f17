/- For every input StepDoes returns true, and its arguments read as they did. No conditions. -/
import Derived.Test.YthmeonabdpbmjaaSpRef
import Derived.Test.YthmeonabdpbmjaaSpWk
import Derived.Test.YthmeonabdpbmjaaSpO
namespace Go.Proofs.Ythmeonabdpbmjaa.StepDoes
open Go.RowKit Go.Proofs.Ythmeonabdpbmjaa.Wr Go.Proofs.Ythmeonabdpbmjaa.Sp
set_option linter.unusedVariables false
set_option linter.unusedSimpArgs false

set_option maxRecDepth 100000 in
set_option maxHeartbeats 4000000 in
theorem walk (op A B C pc : Int) (R : Rg) (w : World) (hR : R.ok) :
    Calls Try.prog 3 #[.agg #[.int .i64 op, .int .i64 A, .int .i64 B, .int .i64 C], .int .i64 pc, .agg #[.int .i64 R.r0, .int .i64 R.r1, .int .i64 R.r2, .int .i64 R.r3, .int .i64 R.r4, .int .i64 R.r5, .int .i64 R.r6, .int .i64 R.r7]] w fun e w' => e = .returned (.bool true) ∧ Below w.heap.size w w' := by
  have cW := Lib.hid (fun w => works_any w)
  have c1 := Lib.hid (fun w => do_go op A B C pc R w)
  have c2 := Lib.hid (fun w => ref_go op A B C pc R w (Lib.hid hR))
  clear hR
  generalize doPc op A B C pc R = PC at *
  generalize doRg op A B C R = RG at *
  generalize doEf op A B C R = EF at *
  generalize doFt op C R = FT at *
  have E8 := eq8 RG
  go_enter Try.func3, Try.ntmps3
  go_upto_region 1 with fail
  generalize hW : (w.alloc (.cells #[.int .i64 op, .int .i64 A, .int .i64 B, .int .i64 C] 23)).alloc (.cells #[.int .i64 R.r0, .int .i64 R.r1, .int .i64 R.r2, .int .i64 R.r3, .int .i64 R.r4, .int .i64 R.r5, .int .i64 R.r6, .int .i64 R.r7] 24) = W
  generalize hg_g1 : w.heap.size + 1 = g1
  generalize hg_g : w.heap.size = g
  have x0 : W.cell? ⟨g, 0, none⟩ = some (.int .i64 op) := by rw [← hW]; exact kc (cell_new _ _ _ _ _ hg_g.symm)
  have x1 : W.cell? ⟨g, 1, none⟩ = some (.int .i64 A) := by rw [← hW]; exact kc (cell_new _ _ _ _ _ hg_g.symm)
  have x2 : W.cell? ⟨g, 2, none⟩ = some (.int .i64 B) := by rw [← hW]; exact kc (cell_new _ _ _ _ _ hg_g.symm)
  have x3 : W.cell? ⟨g, 3, none⟩ = some (.int .i64 C) := by rw [← hW]; exact kc (cell_new _ _ _ _ _ hg_g.symm)
  have l_g : g < W.heap.size := by rw [← hW, ← hg_g]; simp; try omega
  have p0 : W.cell? ⟨g1, 0, none⟩ = some (.int .i64 R.r0) := by rw [← hW]; exact cell_new _ _ _ _ _ (by rw [← hg_g1]; simp)
  have p1 : W.cell? ⟨g1, 1, none⟩ = some (.int .i64 R.r1) := by rw [← hW]; exact cell_new _ _ _ _ _ (by rw [← hg_g1]; simp)
  have p2 : W.cell? ⟨g1, 2, none⟩ = some (.int .i64 R.r2) := by rw [← hW]; exact cell_new _ _ _ _ _ (by rw [← hg_g1]; simp)
  have p3 : W.cell? ⟨g1, 3, none⟩ = some (.int .i64 R.r3) := by rw [← hW]; exact cell_new _ _ _ _ _ (by rw [← hg_g1]; simp)
  have p4 : W.cell? ⟨g1, 4, none⟩ = some (.int .i64 R.r4) := by rw [← hW]; exact cell_new _ _ _ _ _ (by rw [← hg_g1]; simp)
  have p5 : W.cell? ⟨g1, 5, none⟩ = some (.int .i64 R.r5) := by rw [← hW]; exact cell_new _ _ _ _ _ (by rw [← hg_g1]; simp)
  have p6 : W.cell? ⟨g1, 6, none⟩ = some (.int .i64 R.r6) := by rw [← hW]; exact cell_new _ _ _ _ _ (by rw [← hg_g1]; simp)
  have p7 : W.cell? ⟨g1, 7, none⟩ = some (.int .i64 R.r7) := by rw [← hW]; exact cell_new _ _ _ _ _ (by rw [← hg_g1]; simp)
  have l_g1 : g1 < W.heap.size := by rw [← hW, ← hg_g1]; simp; try omega
  have BW : Below w.heap.size w W := by rw [← hW]; exact (((Below.refl w.heap.size w).alloc (by simp; try omega) _).alloc (by simp; try omega) _)
  clear hW
  go_upto_region 3 with (go_at_call 7; refine (cW.out _).mono ?_; rintro e w1 ⟨rfl, hb1⟩; replace x0 := kb hb1 l_g x0; replace x1 := kb hb1 l_g x1; replace x2 := kb hb1 l_g x2; replace x3 := kb hb1 l_g x3; replace l_g := Nat.lt_of_lt_of_le l_g hb1.size; replace p0 := kb hb1 l_g1 p0; replace p1 := kb hb1 l_g1 p1; replace p2 := kb hb1 l_g1 p2; replace p3 := kb hb1 l_g1 p3; replace p4 := kb hb1 l_g1 p4; replace p5 := kb hb1 l_g1 p5; replace p6 := kb hb1 l_g1 p6; replace p7 := kb hb1 l_g1 p7; replace l_g1 := Nat.lt_of_lt_of_le l_g1 hb1.size; replace BW := BW.trans (hb1.mono BW.size))
  go_upto_region 6 with (go_at_call 8; refine (c1.out _).mono ?_; rintro e w2 ⟨rfl, hb2⟩; replace x0 := kb hb2 l_g x0; replace x1 := kb hb2 l_g x1; replace x2 := kb hb2 l_g x2; replace x3 := kb hb2 l_g x3; replace l_g := Nat.lt_of_lt_of_le l_g hb2.size; replace p0 := kb hb2 l_g1 p0; replace p1 := kb hb2 l_g1 p1; replace p2 := kb hb2 l_g1 p2; replace p3 := kb hb2 l_g1 p3; replace p4 := kb hb2 l_g1 p4; replace p5 := kb hb2 l_g1 p5; replace p6 := kb hb2 l_g1 p6; replace p7 := kb hb2 l_g1 p7; replace l_g1 := Nat.lt_of_lt_of_le l_g1 hb2.size; replace BW := BW.trans (hb2.mono BW.size))
  · go_ret
    exact ⟨rfl, BW⟩
  generalize hW : (w2.alloc (.cells #[.int .i64 RG.r0, .int .i64 RG.r1, .int .i64 RG.r2, .int .i64 RG.r3, .int .i64 RG.r4, .int .i64 RG.r5, .int .i64 RG.r6, .int .i64 RG.r7] 24)).alloc (.cells #[.int .i64 EF.kind, .int .i64 EF.at_, .int .i64 EF.value, .int .i64 EF.other, .int .i64 EF.reg] 27) = W2
  replace x0 : W2.cell? ⟨g, 0, none⟩ = some (.int .i64 op) := by rw [← hW]; exact kc (kc (x0))
  replace x1 : W2.cell? ⟨g, 1, none⟩ = some (.int .i64 A) := by rw [← hW]; exact kc (kc (x1))
  replace x2 : W2.cell? ⟨g, 2, none⟩ = some (.int .i64 B) := by rw [← hW]; exact kc (kc (x2))
  replace x3 : W2.cell? ⟨g, 3, none⟩ = some (.int .i64 C) := by rw [← hW]; exact kc (kc (x3))
  replace l_g : g < W2.heap.size := by rw [← hW]; simp; omega
  replace p0 : W2.cell? ⟨g1, 0, none⟩ = some (.int .i64 R.r0) := by rw [← hW]; exact kc (kc (p0))
  replace p1 : W2.cell? ⟨g1, 1, none⟩ = some (.int .i64 R.r1) := by rw [← hW]; exact kc (kc (p1))
  replace p2 : W2.cell? ⟨g1, 2, none⟩ = some (.int .i64 R.r2) := by rw [← hW]; exact kc (kc (p2))
  replace p3 : W2.cell? ⟨g1, 3, none⟩ = some (.int .i64 R.r3) := by rw [← hW]; exact kc (kc (p3))
  replace p4 : W2.cell? ⟨g1, 4, none⟩ = some (.int .i64 R.r4) := by rw [← hW]; exact kc (kc (p4))
  replace p5 : W2.cell? ⟨g1, 5, none⟩ = some (.int .i64 R.r5) := by rw [← hW]; exact kc (kc (p5))
  replace p6 : W2.cell? ⟨g1, 6, none⟩ = some (.int .i64 R.r6) := by rw [← hW]; exact kc (kc (p6))
  replace p7 : W2.cell? ⟨g1, 7, none⟩ = some (.int .i64 R.r7) := by rw [← hW]; exact kc (kc (p7))
  replace l_g1 : g1 < W2.heap.size := by rw [← hW]; simp; omega
  generalize hg_g3 : w2.heap.size + 1 = g3
  generalize hg_g2 : w2.heap.size = g2
  have q0 : W2.cell? ⟨g2, 0, none⟩ = some (.int .i64 RG.r0) := by rw [← hW]; exact kc (cell_new _ _ _ _ _ hg_g2.symm)
  have q1 : W2.cell? ⟨g2, 1, none⟩ = some (.int .i64 RG.r1) := by rw [← hW]; exact kc (cell_new _ _ _ _ _ hg_g2.symm)
  have q2 : W2.cell? ⟨g2, 2, none⟩ = some (.int .i64 RG.r2) := by rw [← hW]; exact kc (cell_new _ _ _ _ _ hg_g2.symm)
  have q3 : W2.cell? ⟨g2, 3, none⟩ = some (.int .i64 RG.r3) := by rw [← hW]; exact kc (cell_new _ _ _ _ _ hg_g2.symm)
  have q4 : W2.cell? ⟨g2, 4, none⟩ = some (.int .i64 RG.r4) := by rw [← hW]; exact kc (cell_new _ _ _ _ _ hg_g2.symm)
  have q5 : W2.cell? ⟨g2, 5, none⟩ = some (.int .i64 RG.r5) := by rw [← hW]; exact kc (cell_new _ _ _ _ _ hg_g2.symm)
  have q6 : W2.cell? ⟨g2, 6, none⟩ = some (.int .i64 RG.r6) := by rw [← hW]; exact kc (cell_new _ _ _ _ _ hg_g2.symm)
  have q7 : W2.cell? ⟨g2, 7, none⟩ = some (.int .i64 RG.r7) := by rw [← hW]; exact kc (cell_new _ _ _ _ _ hg_g2.symm)
  have l_g2 : g2 < W2.heap.size := by rw [← hW, ← hg_g2]; simp; try omega
  have e0 : W2.cell? ⟨g3, 0, none⟩ = some (.int .i64 EF.kind) := by rw [← hW]; exact cell_new _ _ _ _ _ (by rw [← hg_g3]; simp)
  have e1 : W2.cell? ⟨g3, 1, none⟩ = some (.int .i64 EF.at_) := by rw [← hW]; exact cell_new _ _ _ _ _ (by rw [← hg_g3]; simp)
  have e2 : W2.cell? ⟨g3, 2, none⟩ = some (.int .i64 EF.value) := by rw [← hW]; exact cell_new _ _ _ _ _ (by rw [← hg_g3]; simp)
  have e3 : W2.cell? ⟨g3, 3, none⟩ = some (.int .i64 EF.other) := by rw [← hW]; exact cell_new _ _ _ _ _ (by rw [← hg_g3]; simp)
  have e4 : W2.cell? ⟨g3, 4, none⟩ = some (.int .i64 EF.reg) := by rw [← hW]; exact cell_new _ _ _ _ _ (by rw [← hg_g3]; simp)
  have l_g3 : g3 < W2.heap.size := by rw [← hW, ← hg_g3]; simp; try omega
  replace BW : Below w.heap.size w W2 := by rw [← hW]; exact ((BW.alloc (by have q := BW.size; simp; try omega) _).alloc (by have q := BW.size; simp; try omega) _)
  clear hW
  go_upto_region 7 with (go_at_call 9; refine (c2.out _).mono ?_; rintro e w3 ⟨rfl, hb3⟩; replace x0 := kb hb3 l_g x0; replace x1 := kb hb3 l_g x1; replace x2 := kb hb3 l_g x2; replace x3 := kb hb3 l_g x3; replace l_g := Nat.lt_of_lt_of_le l_g hb3.size; replace p0 := kb hb3 l_g1 p0; replace p1 := kb hb3 l_g1 p1; replace p2 := kb hb3 l_g1 p2; replace p3 := kb hb3 l_g1 p3; replace p4 := kb hb3 l_g1 p4; replace p5 := kb hb3 l_g1 p5; replace p6 := kb hb3 l_g1 p6; replace p7 := kb hb3 l_g1 p7; replace l_g1 := Nat.lt_of_lt_of_le l_g1 hb3.size; replace q0 := kb hb3 l_g2 q0; replace q1 := kb hb3 l_g2 q1; replace q2 := kb hb3 l_g2 q2; replace q3 := kb hb3 l_g2 q3; replace q4 := kb hb3 l_g2 q4; replace q5 := kb hb3 l_g2 q5; replace q6 := kb hb3 l_g2 q6; replace q7 := kb hb3 l_g2 q7; replace l_g2 := Nat.lt_of_lt_of_le l_g2 hb3.size; replace e0 := kb hb3 l_g3 e0; replace e1 := kb hb3 l_g3 e1; replace e2 := kb hb3 l_g3 e2; replace e3 := kb hb3 l_g3 e3; replace e4 := kb hb3 l_g3 e4; replace l_g3 := Nat.lt_of_lt_of_le l_g3 hb3.size; replace BW := BW.trans (hb3.mono BW.size))
  generalize hW : (w3.alloc (.cells #[.int .i64 RG.r0, .int .i64 RG.r1, .int .i64 RG.r2, .int .i64 RG.r3, .int .i64 RG.r4, .int .i64 RG.r5, .int .i64 RG.r6, .int .i64 RG.r7] 24)).alloc (.cells #[.int .i64 EF.kind, .int .i64 EF.at_, .int .i64 EF.value, .int .i64 EF.other, .int .i64 EF.reg] 30) = W3
  replace x0 : W3.cell? ⟨g, 0, none⟩ = some (.int .i64 op) := by rw [← hW]; exact kc (kc (x0))
  replace x1 : W3.cell? ⟨g, 1, none⟩ = some (.int .i64 A) := by rw [← hW]; exact kc (kc (x1))
  replace x2 : W3.cell? ⟨g, 2, none⟩ = some (.int .i64 B) := by rw [← hW]; exact kc (kc (x2))
  replace x3 : W3.cell? ⟨g, 3, none⟩ = some (.int .i64 C) := by rw [← hW]; exact kc (kc (x3))
  replace l_g : g < W3.heap.size := by rw [← hW]; simp; omega
  replace p0 : W3.cell? ⟨g1, 0, none⟩ = some (.int .i64 R.r0) := by rw [← hW]; exact kc (kc (p0))
  replace p1 : W3.cell? ⟨g1, 1, none⟩ = some (.int .i64 R.r1) := by rw [← hW]; exact kc (kc (p1))
  replace p2 : W3.cell? ⟨g1, 2, none⟩ = some (.int .i64 R.r2) := by rw [← hW]; exact kc (kc (p2))
  replace p3 : W3.cell? ⟨g1, 3, none⟩ = some (.int .i64 R.r3) := by rw [← hW]; exact kc (kc (p3))
  replace p4 : W3.cell? ⟨g1, 4, none⟩ = some (.int .i64 R.r4) := by rw [← hW]; exact kc (kc (p4))
  replace p5 : W3.cell? ⟨g1, 5, none⟩ = some (.int .i64 R.r5) := by rw [← hW]; exact kc (kc (p5))
  replace p6 : W3.cell? ⟨g1, 6, none⟩ = some (.int .i64 R.r6) := by rw [← hW]; exact kc (kc (p6))
  replace p7 : W3.cell? ⟨g1, 7, none⟩ = some (.int .i64 R.r7) := by rw [← hW]; exact kc (kc (p7))
  replace l_g1 : g1 < W3.heap.size := by rw [← hW]; simp; omega
  replace q0 : W3.cell? ⟨g2, 0, none⟩ = some (.int .i64 RG.r0) := by rw [← hW]; exact kc (kc (q0))
  replace q1 : W3.cell? ⟨g2, 1, none⟩ = some (.int .i64 RG.r1) := by rw [← hW]; exact kc (kc (q1))
  replace q2 : W3.cell? ⟨g2, 2, none⟩ = some (.int .i64 RG.r2) := by rw [← hW]; exact kc (kc (q2))
  replace q3 : W3.cell? ⟨g2, 3, none⟩ = some (.int .i64 RG.r3) := by rw [← hW]; exact kc (kc (q3))
  replace q4 : W3.cell? ⟨g2, 4, none⟩ = some (.int .i64 RG.r4) := by rw [← hW]; exact kc (kc (q4))
  replace q5 : W3.cell? ⟨g2, 5, none⟩ = some (.int .i64 RG.r5) := by rw [← hW]; exact kc (kc (q5))
  replace q6 : W3.cell? ⟨g2, 6, none⟩ = some (.int .i64 RG.r6) := by rw [← hW]; exact kc (kc (q6))
  replace q7 : W3.cell? ⟨g2, 7, none⟩ = some (.int .i64 RG.r7) := by rw [← hW]; exact kc (kc (q7))
  replace l_g2 : g2 < W3.heap.size := by rw [← hW]; simp; omega
  replace e0 : W3.cell? ⟨g3, 0, none⟩ = some (.int .i64 EF.kind) := by rw [← hW]; exact kc (kc (e0))
  replace e1 : W3.cell? ⟨g3, 1, none⟩ = some (.int .i64 EF.at_) := by rw [← hW]; exact kc (kc (e1))
  replace e2 : W3.cell? ⟨g3, 2, none⟩ = some (.int .i64 EF.value) := by rw [← hW]; exact kc (kc (e2))
  replace e3 : W3.cell? ⟨g3, 3, none⟩ = some (.int .i64 EF.other) := by rw [← hW]; exact kc (kc (e3))
  replace e4 : W3.cell? ⟨g3, 4, none⟩ = some (.int .i64 EF.reg) := by rw [← hW]; exact kc (kc (e4))
  replace l_g3 : g3 < W3.heap.size := by rw [← hW]; simp; omega
  generalize hg_g5 : w3.heap.size + 1 = g5
  generalize hg_g4 : w3.heap.size = g4
  have s0 : W3.cell? ⟨g4, 0, none⟩ = some (.int .i64 RG.r0) := by rw [← hW]; exact kc (cell_new _ _ _ _ _ hg_g4.symm)
  have s1 : W3.cell? ⟨g4, 1, none⟩ = some (.int .i64 RG.r1) := by rw [← hW]; exact kc (cell_new _ _ _ _ _ hg_g4.symm)
  have s2 : W3.cell? ⟨g4, 2, none⟩ = some (.int .i64 RG.r2) := by rw [← hW]; exact kc (cell_new _ _ _ _ _ hg_g4.symm)
  have s3 : W3.cell? ⟨g4, 3, none⟩ = some (.int .i64 RG.r3) := by rw [← hW]; exact kc (cell_new _ _ _ _ _ hg_g4.symm)
  have s4 : W3.cell? ⟨g4, 4, none⟩ = some (.int .i64 RG.r4) := by rw [← hW]; exact kc (cell_new _ _ _ _ _ hg_g4.symm)
  have s5 : W3.cell? ⟨g4, 5, none⟩ = some (.int .i64 RG.r5) := by rw [← hW]; exact kc (cell_new _ _ _ _ _ hg_g4.symm)
  have s6 : W3.cell? ⟨g4, 6, none⟩ = some (.int .i64 RG.r6) := by rw [← hW]; exact kc (cell_new _ _ _ _ _ hg_g4.symm)
  have s7 : W3.cell? ⟨g4, 7, none⟩ = some (.int .i64 RG.r7) := by rw [← hW]; exact kc (cell_new _ _ _ _ _ hg_g4.symm)
  have l_g4 : g4 < W3.heap.size := by rw [← hW, ← hg_g4]; simp; try omega
  have t0 : W3.cell? ⟨g5, 0, none⟩ = some (.int .i64 EF.kind) := by rw [← hW]; exact cell_new _ _ _ _ _ (by rw [← hg_g5]; simp)
  have t1 : W3.cell? ⟨g5, 1, none⟩ = some (.int .i64 EF.at_) := by rw [← hW]; exact cell_new _ _ _ _ _ (by rw [← hg_g5]; simp)
  have t2 : W3.cell? ⟨g5, 2, none⟩ = some (.int .i64 EF.value) := by rw [← hW]; exact cell_new _ _ _ _ _ (by rw [← hg_g5]; simp)
  have t3 : W3.cell? ⟨g5, 3, none⟩ = some (.int .i64 EF.other) := by rw [← hW]; exact cell_new _ _ _ _ _ (by rw [← hg_g5]; simp)
  have t4 : W3.cell? ⟨g5, 4, none⟩ = some (.int .i64 EF.reg) := by rw [← hW]; exact cell_new _ _ _ _ _ (by rw [← hg_g5]; simp)
  have l_g5 : g5 < W3.heap.size := by rw [← hW, ← hg_g5]; simp; try omega
  replace BW : Below w.heap.size w W3 := by rw [← hW]; exact ((BW.alloc (by have q := BW.size; simp; try omega) _).alloc (by have q := BW.size; simp; try omega) _)
  clear hW
  go_wp2
  go_ret
  exact ⟨rfl, BW⟩

open Go.ChangeShapes Go.WideShapes Go.ChangeAt

set_option maxRecDepth 100000 in
theorem lifted (os : Os) (started : os.Started) (H : Type) (enc : TypeId × Value → H) :
    ReturnsInHanded {} Try.checked os 3 .any (Rows.stepDoesSpec.pre6 enc Try.prog Try.f3 Rows.stepDoesRow.domain false) (Rows.stepDoesSpec.post enc Try.prog Try.f3 false true false false) := by
  refine Frame.law_lift (C := Try.checked) Frame.own started (by kernel_rfl) Try.func3 Frame.laidOut
    (ChangeSpec.witness6 (enc := enc) (C := Try.checked) false ⟨#[], #[.agg #[.int .i64 0, .int .i64 0, .int .i64 0, .int .i64 0], .int .i64 0, .agg #[.int .i64 0, .int .i64 0, .int .i64 0, .int .i64 0, .int .i64 0, .int .i64 0, .int .i64 0, .int .i64 0]], []⟩ 8 (by kernel_rfl) (by kernel_rfl) (by kernel_rfl) (by kernel_rfl))
    rfl rfl Try.underlying4 (by kernel_rfl) (fun ds h => by match ds, h with | [_, _, _], _ => exact ⟨rfl, rfl, rfl⟩) ?_
  intro W base args ds p hval0 hA hlt hsz
  have hval : ∀ (j : Nat) t v, Try.f3.params[j]? = some t → args[j]? = some v → Value.okWide Try.prog W .any base t v := hval0
  clear hval0
  replace hA : DataW.TrodAll enc Try.prog W 0 (fun _ => true) true Try.f3.params.toList args.toList ds p := hA
  replace hsz : (DataW.weightsEach Try.prog Try.f3.params.toList ds).all (· ≤ reachBytes) = true := hsz
  rw [Try.params3] at hA hval hsz
  obtain ⟨v0, v1, v2, d0, d1, d2, p0, p1, p2, rfl, rfl, rfl, h0, h1, h2⟩ := trodAll_three hA
  obtain ⟨a0, a1, a2, a3, rfl⟩ := open_ins (hval 0 _ v0 rfl rfl) h0
  obtain ⟨pc, rfl, rfl, rfl, w1⟩ := open_int Try.underlying3 (hval 1 3 v1 rfl rfl) h1
  obtain ⟨R, rfl, hR⟩ := open_regs (hval 2 _ v2 rfl rfl) h2
  exact walk a0 a1 a2 a3 pc R W hR

theorem proved : Rows.StepDoesSaid :=
  OpenClaim.holds_of_wide 3 Try.f3 rfl rfl rfl rfl rfl rfl rfl ⟨rfl, rfl, rfl, rfl, rfl⟩ rfl rfl rfl rfl rfl (by kernel_rfl) Try.func3 (by kernel_rfl)
    (of_decide_eq_true (by kernel_rfl)) (by unfold Func.isWrapper; first | (rw [if_pos (by decide +kernel)]; kernel_rfl) | (rw [if_neg (by decide +kernel)]; exact ⟨rfl, rfl⟩))
    (fun os started H enc _ => lifted os started H enc)
#print axioms proved

end Go.Proofs.Ythmeonabdpbmjaa.StepDoes
