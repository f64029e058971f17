/- For every input StepKeeps returns true, and its arguments read as they did. No conditions. -/
import Derived.Test.YthmeonabdpbmjaaSpKp
import Derived.Test.YthmeonabdpbmjaaSpWk
import Derived.Test.YthmeonabdpbmjaaSpO
namespace Go.Proofs.Ythmeonabdpbmjaa.StepKeeps
open Go.RowKit Go.Proofs.Ythmeonabdpbmjaa.Wr Go.Proofs.Ythmeonabdpbmjaa.Sp
set_option linter.unusedVariables false
set_option linter.unusedSimpArgs false

theorem wrap_small (p : Nat) (hp : p ≤ 255) : wrap64 ((p : Int) + 1) = (p : Int) + 1 ∧ wrap64 (p : Int) = (p : Int) := by unfold wrap64; omega

set_option maxRecDepth 100000 in
set_option maxHeartbeats 8000000 in
theorem walk0 (op A B C got p p1 : Int) (hw2 : wrap64 p = p) (hw : wrap64 (p + 1) = p1) (R : Rg) (w : World) :
    Calls Try.prog 5 #[.agg #[.int .i64 op, .int .i64 A, .int .i64 B, .int .i64 C], .int .u8 p, .agg #[.int .i64 R.r0, .int .i64 R.r1, .int .i64 R.r2, .int .i64 R.r3, .int .i64 R.r4, .int .i64 R.r5, .int .i64 R.r6, .int .i64 R.r7], .int .i64 got] w fun e w' => e = .returned (.bool true) ∧ Below w.heap.size w w' := by
  have cW := Lib.hid (fun w => works_any w)
  have cK := Lib.hid (fun w => check_any op A B C w)
  have cD := Lib.hid (fun w => do_go op A B C p R w)
  go_enter Try.func5, Try.ntmps5
  go_upto_region 1 with fail
  generalize hW : (w.alloc (.cells #[.int .i64 op, .int .i64 A, .int .i64 B, .int .i64 C] 23)).alloc (.cells #[.int .i64 R.r0, .int .i64 R.r1, .int .i64 R.r2, .int .i64 R.r3, .int .i64 R.r4, .int .i64 R.r5, .int .i64 R.r6, .int .i64 R.r7] 24) = W
  generalize hg_g1 : w.heap.size + 1 = g1
  generalize hg_g : w.heap.size = g
  have x0 : W.cell? ⟨g, 0, none⟩ = some (.int .i64 op) := by rw [← hW]; exact kc (cell_new _ _ _ _ _ hg_g.symm)
  have x1 : W.cell? ⟨g, 1, none⟩ = some (.int .i64 A) := by rw [← hW]; exact kc (cell_new _ _ _ _ _ hg_g.symm)
  have x2 : W.cell? ⟨g, 2, none⟩ = some (.int .i64 B) := by rw [← hW]; exact kc (cell_new _ _ _ _ _ hg_g.symm)
  have x3 : W.cell? ⟨g, 3, none⟩ = some (.int .i64 C) := by rw [← hW]; exact kc (cell_new _ _ _ _ _ hg_g.symm)
  have l_g : g < W.heap.size := by rw [← hW, ← hg_g]; simp; try omega
  have p0 : W.cell? ⟨g1, 0, none⟩ = some (.int .i64 R.r0) := by rw [← hW]; exact cell_new _ _ _ _ _ (by rw [← hg_g1]; simp)
  have p1 : W.cell? ⟨g1, 1, none⟩ = some (.int .i64 R.r1) := by rw [← hW]; exact cell_new _ _ _ _ _ (by rw [← hg_g1]; simp)
  have p2 : W.cell? ⟨g1, 2, none⟩ = some (.int .i64 R.r2) := by rw [← hW]; exact cell_new _ _ _ _ _ (by rw [← hg_g1]; simp)
  have p3 : W.cell? ⟨g1, 3, none⟩ = some (.int .i64 R.r3) := by rw [← hW]; exact cell_new _ _ _ _ _ (by rw [← hg_g1]; simp)
  have p4 : W.cell? ⟨g1, 4, none⟩ = some (.int .i64 R.r4) := by rw [← hW]; exact cell_new _ _ _ _ _ (by rw [← hg_g1]; simp)
  have p5 : W.cell? ⟨g1, 5, none⟩ = some (.int .i64 R.r5) := by rw [← hW]; exact cell_new _ _ _ _ _ (by rw [← hg_g1]; simp)
  have p6 : W.cell? ⟨g1, 6, none⟩ = some (.int .i64 R.r6) := by rw [← hW]; exact cell_new _ _ _ _ _ (by rw [← hg_g1]; simp)
  have p7 : W.cell? ⟨g1, 7, none⟩ = some (.int .i64 R.r7) := by rw [← hW]; exact cell_new _ _ _ _ _ (by rw [← hg_g1]; simp)
  have l_g1 : g1 < W.heap.size := by rw [← hW, ← hg_g1]; simp; try omega
  have BW : Below w.heap.size w W := by rw [← hW]; exact (((Below.refl w.heap.size w).alloc (by simp; try omega) _).alloc (by simp; try omega) _)
  clear hW
  go_wp2_with fail
  refine (cW.out _).mono ?_
  rintro e w1 ⟨rfl, hb1⟩
  replace x0 := kb hb1 l_g x0
  replace x1 := kb hb1 l_g x1
  replace x2 := kb hb1 l_g x2
  replace x3 := kb hb1 l_g x3
  replace l_g := Nat.lt_of_lt_of_le l_g hb1.size
  replace p0 := kb hb1 l_g1 p0
  replace p1 := kb hb1 l_g1 p1
  replace p2 := kb hb1 l_g1 p2
  replace p3 := kb hb1 l_g1 p3
  replace p4 := kb hb1 l_g1 p4
  replace p5 := kb hb1 l_g1 p5
  replace p6 := kb hb1 l_g1 p6
  replace p7 := kb hb1 l_g1 p7
  replace l_g1 := Nat.lt_of_lt_of_le l_g1 hb1.size
  replace BW := BW.trans (hb1.mono BW.size)
  clear hb1
  go_wp2_with fail
  refine (cK.out _).mono ?_
  rintro e w2 ⟨v, rfl, hv, hb2⟩
  replace x0 := kb hb2 l_g x0
  replace x1 := kb hb2 l_g x1
  replace x2 := kb hb2 l_g x2
  replace x3 := kb hb2 l_g x3
  replace l_g := Nat.lt_of_lt_of_le l_g hb2.size
  replace p0 := kb hb2 l_g1 p0
  replace p1 := kb hb2 l_g1 p1
  replace p2 := kb hb2 l_g1 p2
  replace p3 := kb hb2 l_g1 p3
  replace p4 := kb hb2 l_g1 p4
  replace p5 := kb hb2 l_g1 p5
  replace p6 := kb hb2 l_g1 p6
  replace p7 := kb hb2 l_g1 p7
  replace l_g1 := Nat.lt_of_lt_of_le l_g1 hb2.size
  replace BW := BW.trans (hb2.mono BW.size)
  clear hb2
  by_cases hv0 : v = 0
  case neg =>
    have nv : (v == 0) = false := by simp [hv0]
    clear hv hv0
    go_wp2_with fail
    go_ret
    exact ⟨rfl, BW⟩
  obtain ⟨h25, hr⟩ := hv hv0
  subst hv0
  clear hv
  have HV := Lib.hid (show (0 ≤ op ∧ op ≤ 25) ∧ (regs op → 0 ≤ A ∧ A ≤ 7) from ⟨h25, hr⟩)
  clear h25 hr
  go_wp2_with fail
  refine (cD.out _).mono ?_
  rintro e w3 ⟨rfl, hb3⟩
  replace x0 := kb hb3 l_g x0
  replace x1 := kb hb3 l_g x1
  replace x2 := kb hb3 l_g x2
  replace x3 := kb hb3 l_g x3
  replace l_g := Nat.lt_of_lt_of_le l_g hb3.size
  replace p0 := kb hb3 l_g1 p0
  replace p1 := kb hb3 l_g1 p1
  replace p2 := kb hb3 l_g1 p2
  replace p3 := kb hb3 l_g1 p3
  replace p4 := kb hb3 l_g1 p4
  replace p5 := kb hb3 l_g1 p5
  replace p6 := kb hb3 l_g1 p6
  replace p7 := kb hb3 l_g1 p7
  replace l_g1 := Nat.lt_of_lt_of_le l_g1 hb3.size
  replace BW := BW.trans (hb3.mono BW.size)
  clear hb3
  by_cases hf : faults op (R.at C) = true
  case pos =>
    obtain ⟨q1, q2, q3, q4⟩ := faulted op A B C p R hf
    rw [q1, q2, q3]
    generalize doFt op C R = FT at *
    have nft : (FT == 0) = false := by simp [q4]
    have E8 := eq8 R
    clear q1 q2 q3 q4 hf HV
    go_upto_region 6 with fail
    generalize hW : (w3.alloc (.cells #[.int .i64 R.r0, .int .i64 R.r1, .int .i64 R.r2, .int .i64 R.r3, .int .i64 R.r4, .int .i64 R.r5, .int .i64 R.r6, .int .i64 R.r7] 24)).alloc (.cells #[.int .i64 noEf.kind, .int .i64 noEf.at_, .int .i64 noEf.value, .int .i64 noEf.other, .int .i64 noEf.reg] 27) = W2
    replace x0 : W2.cell? ⟨g, 0, none⟩ = some (.int .i64 op) := by rw [← hW]; exact kc (kc (x0))
    replace x1 : W2.cell? ⟨g, 1, none⟩ = some (.int .i64 A) := by rw [← hW]; exact kc (kc (x1))
    replace x2 : W2.cell? ⟨g, 2, none⟩ = some (.int .i64 B) := by rw [← hW]; exact kc (kc (x2))
    replace x3 : W2.cell? ⟨g, 3, none⟩ = some (.int .i64 C) := by rw [← hW]; exact kc (kc (x3))
    replace l_g : g < W2.heap.size := by rw [← hW]; simp; omega
    replace p0 : W2.cell? ⟨g1, 0, none⟩ = some (.int .i64 R.r0) := by rw [← hW]; exact kc (kc (p0))
    replace p1 : W2.cell? ⟨g1, 1, none⟩ = some (.int .i64 R.r1) := by rw [← hW]; exact kc (kc (p1))
    replace p2 : W2.cell? ⟨g1, 2, none⟩ = some (.int .i64 R.r2) := by rw [← hW]; exact kc (kc (p2))
    replace p3 : W2.cell? ⟨g1, 3, none⟩ = some (.int .i64 R.r3) := by rw [← hW]; exact kc (kc (p3))
    replace p4 : W2.cell? ⟨g1, 4, none⟩ = some (.int .i64 R.r4) := by rw [← hW]; exact kc (kc (p4))
    replace p5 : W2.cell? ⟨g1, 5, none⟩ = some (.int .i64 R.r5) := by rw [← hW]; exact kc (kc (p5))
    replace p6 : W2.cell? ⟨g1, 6, none⟩ = some (.int .i64 R.r6) := by rw [← hW]; exact kc (kc (p6))
    replace p7 : W2.cell? ⟨g1, 7, none⟩ = some (.int .i64 R.r7) := by rw [← hW]; exact kc (kc (p7))
    replace l_g1 : g1 < W2.heap.size := by rw [← hW]; simp; omega
    generalize hg_g3 : w3.heap.size + 1 = g3
    generalize hg_g2 : w3.heap.size = g2
    have q0 : W2.cell? ⟨g2, 0, none⟩ = some (.int .i64 R.r0) := by rw [← hW]; exact kc (cell_new _ _ _ _ _ hg_g2.symm)
    have q1 : W2.cell? ⟨g2, 1, none⟩ = some (.int .i64 R.r1) := by rw [← hW]; exact kc (cell_new _ _ _ _ _ hg_g2.symm)
    have q2 : W2.cell? ⟨g2, 2, none⟩ = some (.int .i64 R.r2) := by rw [← hW]; exact kc (cell_new _ _ _ _ _ hg_g2.symm)
    have q3 : W2.cell? ⟨g2, 3, none⟩ = some (.int .i64 R.r3) := by rw [← hW]; exact kc (cell_new _ _ _ _ _ hg_g2.symm)
    have q4 : W2.cell? ⟨g2, 4, none⟩ = some (.int .i64 R.r4) := by rw [← hW]; exact kc (cell_new _ _ _ _ _ hg_g2.symm)
    have q5 : W2.cell? ⟨g2, 5, none⟩ = some (.int .i64 R.r5) := by rw [← hW]; exact kc (cell_new _ _ _ _ _ hg_g2.symm)
    have q6 : W2.cell? ⟨g2, 6, none⟩ = some (.int .i64 R.r6) := by rw [← hW]; exact kc (cell_new _ _ _ _ _ hg_g2.symm)
    have q7 : W2.cell? ⟨g2, 7, none⟩ = some (.int .i64 R.r7) := by rw [← hW]; exact kc (cell_new _ _ _ _ _ hg_g2.symm)
    have l_g2 : g2 < W2.heap.size := by rw [← hW, ← hg_g2]; simp; try omega
    have e0 : W2.cell? ⟨g3, 0, none⟩ = some (.int .i64 noEf.kind) := by rw [← hW]; exact cell_new _ _ _ _ _ (by rw [← hg_g3]; simp)
    have e1 : W2.cell? ⟨g3, 1, none⟩ = some (.int .i64 noEf.at_) := by rw [← hW]; exact cell_new _ _ _ _ _ (by rw [← hg_g3]; simp)
    have e2 : W2.cell? ⟨g3, 2, none⟩ = some (.int .i64 noEf.value) := by rw [← hW]; exact cell_new _ _ _ _ _ (by rw [← hg_g3]; simp)
    have e3 : W2.cell? ⟨g3, 3, none⟩ = some (.int .i64 noEf.other) := by rw [← hW]; exact cell_new _ _ _ _ _ (by rw [← hg_g3]; simp)
    have e4 : W2.cell? ⟨g3, 4, none⟩ = some (.int .i64 noEf.reg) := by rw [← hW]; exact cell_new _ _ _ _ _ (by rw [← hg_g3]; simp)
    have l_g3 : g3 < W2.heap.size := by rw [← hW, ← hg_g3]; simp; try omega
    replace BW : Below w.heap.size w W2 := by rw [← hW]; exact ((BW.alloc (by have q := BW.size; simp; try omega) _).alloc (by have q := BW.size; simp; try omega) _)
    clear hW
    go_wp2_with fail
    go_ret
    exact ⟨rfl, BW⟩
  case neg =>
    obtain ⟨q1, q2, q3, q4⟩ := keeps op A B C p got R HV.out.1 HV.out.2 (by simpa using hf)
    rw [q1]
    have cT := Lib.hid (fun w => took_any (doRg op A B C R) (doEf op A B C R).kind (doEf op A B C R).at_ (doEf op A B C R).value (doEf op A B C R).other (doEf op A B C R).reg got w)
    have HT := Lib.hid q3
    have HE := Lib.hid q2
    have HPC := Lib.hid q4
    clear q1 q2 q3 q4 hf cD cW cK
    generalize tookR (doRg op A B C R) (doEf op A B C R).kind (doEf op A B C R).value (doEf op A B C R).reg got = T at *
    generalize doEf op A B C R = EF at *
    generalize doRg op A B C R = RG at *
    generalize doPc op A B C p R = PC at *
    go_upto_region 6 with fail
    generalize hW : (w3.alloc (.cells #[.int .i64 RG.r0, .int .i64 RG.r1, .int .i64 RG.r2, .int .i64 RG.r3, .int .i64 RG.r4, .int .i64 RG.r5, .int .i64 RG.r6, .int .i64 RG.r7] 24)).alloc (.cells #[.int .i64 EF.kind, .int .i64 EF.at_, .int .i64 EF.value, .int .i64 EF.other, .int .i64 EF.reg] 27) = W2
    replace x0 : W2.cell? ⟨g, 0, none⟩ = some (.int .i64 op) := by rw [← hW]; exact kc (kc (x0))
    replace x1 : W2.cell? ⟨g, 1, none⟩ = some (.int .i64 A) := by rw [← hW]; exact kc (kc (x1))
    replace x2 : W2.cell? ⟨g, 2, none⟩ = some (.int .i64 B) := by rw [← hW]; exact kc (kc (x2))
    replace x3 : W2.cell? ⟨g, 3, none⟩ = some (.int .i64 C) := by rw [← hW]; exact kc (kc (x3))
    replace l_g : g < W2.heap.size := by rw [← hW]; simp; omega
    replace p0 : W2.cell? ⟨g1, 0, none⟩ = some (.int .i64 R.r0) := by rw [← hW]; exact kc (kc (p0))
    replace p1 : W2.cell? ⟨g1, 1, none⟩ = some (.int .i64 R.r1) := by rw [← hW]; exact kc (kc (p1))
    replace p2 : W2.cell? ⟨g1, 2, none⟩ = some (.int .i64 R.r2) := by rw [← hW]; exact kc (kc (p2))
    replace p3 : W2.cell? ⟨g1, 3, none⟩ = some (.int .i64 R.r3) := by rw [← hW]; exact kc (kc (p3))
    replace p4 : W2.cell? ⟨g1, 4, none⟩ = some (.int .i64 R.r4) := by rw [← hW]; exact kc (kc (p4))
    replace p5 : W2.cell? ⟨g1, 5, none⟩ = some (.int .i64 R.r5) := by rw [← hW]; exact kc (kc (p5))
    replace p6 : W2.cell? ⟨g1, 6, none⟩ = some (.int .i64 R.r6) := by rw [← hW]; exact kc (kc (p6))
    replace p7 : W2.cell? ⟨g1, 7, none⟩ = some (.int .i64 R.r7) := by rw [← hW]; exact kc (kc (p7))
    replace l_g1 : g1 < W2.heap.size := by rw [← hW]; simp; omega
    generalize hg_g3 : w3.heap.size + 1 = g3
    generalize hg_g2 : w3.heap.size = g2
    have q0 : W2.cell? ⟨g2, 0, none⟩ = some (.int .i64 RG.r0) := by rw [← hW]; exact kc (cell_new _ _ _ _ _ hg_g2.symm)
    have q1 : W2.cell? ⟨g2, 1, none⟩ = some (.int .i64 RG.r1) := by rw [← hW]; exact kc (cell_new _ _ _ _ _ hg_g2.symm)
    have q2 : W2.cell? ⟨g2, 2, none⟩ = some (.int .i64 RG.r2) := by rw [← hW]; exact kc (cell_new _ _ _ _ _ hg_g2.symm)
    have q3 : W2.cell? ⟨g2, 3, none⟩ = some (.int .i64 RG.r3) := by rw [← hW]; exact kc (cell_new _ _ _ _ _ hg_g2.symm)
    have q4 : W2.cell? ⟨g2, 4, none⟩ = some (.int .i64 RG.r4) := by rw [← hW]; exact kc (cell_new _ _ _ _ _ hg_g2.symm)
    have q5 : W2.cell? ⟨g2, 5, none⟩ = some (.int .i64 RG.r5) := by rw [← hW]; exact kc (cell_new _ _ _ _ _ hg_g2.symm)
    have q6 : W2.cell? ⟨g2, 6, none⟩ = some (.int .i64 RG.r6) := by rw [← hW]; exact kc (cell_new _ _ _ _ _ hg_g2.symm)
    have q7 : W2.cell? ⟨g2, 7, none⟩ = some (.int .i64 RG.r7) := by rw [← hW]; exact kc (cell_new _ _ _ _ _ hg_g2.symm)
    have l_g2 : g2 < W2.heap.size := by rw [← hW, ← hg_g2]; simp; try omega
    have e0 : W2.cell? ⟨g3, 0, none⟩ = some (.int .i64 EF.kind) := by rw [← hW]; exact cell_new _ _ _ _ _ (by rw [← hg_g3]; simp)
    have e1 : W2.cell? ⟨g3, 1, none⟩ = some (.int .i64 EF.at_) := by rw [← hW]; exact cell_new _ _ _ _ _ (by rw [← hg_g3]; simp)
    have e2 : W2.cell? ⟨g3, 2, none⟩ = some (.int .i64 EF.value) := by rw [← hW]; exact cell_new _ _ _ _ _ (by rw [← hg_g3]; simp)
    have e3 : W2.cell? ⟨g3, 3, none⟩ = some (.int .i64 EF.other) := by rw [← hW]; exact cell_new _ _ _ _ _ (by rw [← hg_g3]; simp)
    have e4 : W2.cell? ⟨g3, 4, none⟩ = some (.int .i64 EF.reg) := by rw [← hW]; exact cell_new _ _ _ _ _ (by rw [← hg_g3]; simp)
    have l_g3 : g3 < W2.heap.size := by rw [← hW, ← hg_g3]; simp; try omega
    replace BW : Below w.heap.size w W2 := by rw [← hW]; exact ((BW.alloc (by have q := BW.size; simp; try omega) _).alloc (by have q := BW.size; simp; try omega) _)
    clear hW
    go_upto_region 8 with fail
    go_cut [53] from 46 to 53 (fun s53 wx => s53 = .bool false ∧ W2 = wx)
    case first =>
      rcases HE.out with hE | ⟨hk, hR⟩
      · subst hE
        replace e0 : W2.cell? ⟨g3, 0, none⟩ = some (.int .i64 0) := e0
        replace e1 : W2.cell? ⟨g3, 1, none⟩ = some (.int .i64 0) := e1
        replace e2 : W2.cell? ⟨g3, 2, none⟩ = some (.int .i64 0) := e2
        replace e3 : W2.cell? ⟨g3, 3, none⟩ = some (.int .i64 0) := e3
        replace e4 : W2.cell? ⟨g3, 4, none⟩ = some (.int .i64 0) := e4
        clear HE HT HPC cT
        go_wp2_with fail
        all_goals go_meet
        all_goals exact ⟨rfl, rfl⟩
      · subst hR
        have nk : (EF.kind == 0) = false := by simp [hk]
        have E8 := eq8 RG
        clear HE HT HPC cT hk
        go_wp2_with fail
        all_goals go_meet
        all_goals exact ⟨rfl, rfl⟩
    case rest =>
      obtain ⟨rfl, rfl⟩ := hcut
      clear HE
      go_wp2_with fail
      refine (cT.out _).mono ?_
      rintro e w4 ⟨rfl, hb4⟩
      replace x0 := kb hb4 l_g x0
      replace x1 := kb hb4 l_g x1
      replace x2 := kb hb4 l_g x2
      replace x3 := kb hb4 l_g x3
      replace l_g := Nat.lt_of_lt_of_le l_g hb4.size
      replace p0 := kb hb4 l_g1 p0
      replace p1 := kb hb4 l_g1 p1
      replace p2 := kb hb4 l_g1 p2
      replace p3 := kb hb4 l_g1 p3
      replace p4 := kb hb4 l_g1 p4
      replace p5 := kb hb4 l_g1 p5
      replace p6 := kb hb4 l_g1 p6
      replace p7 := kb hb4 l_g1 p7
      replace l_g1 := Nat.lt_of_lt_of_le l_g1 hb4.size
      replace q0 := kb hb4 l_g2 q0
      replace q1 := kb hb4 l_g2 q1
      replace q2 := kb hb4 l_g2 q2
      replace q3 := kb hb4 l_g2 q3
      replace q4 := kb hb4 l_g2 q4
      replace q5 := kb hb4 l_g2 q5
      replace q6 := kb hb4 l_g2 q6
      replace q7 := kb hb4 l_g2 q7
      replace l_g2 := Nat.lt_of_lt_of_le l_g2 hb4.size
      replace e0 := kb hb4 l_g3 e0
      replace e1 := kb hb4 l_g3 e1
      replace e2 := kb hb4 l_g3 e2
      replace e3 := kb hb4 l_g3 e3
      replace e4 := kb hb4 l_g3 e4
      replace l_g3 := Nat.lt_of_lt_of_le l_g3 hb4.size
      replace BW := BW.trans (hb4.mono BW.size)
      clear hb4 cT
      go_upto_region 11 with fail
      generalize hW : w4.alloc (.cells #[.int .i64 T.r0, .int .i64 T.r1, .int .i64 T.r2, .int .i64 T.r3, .int .i64 T.r4, .int .i64 T.r5, .int .i64 T.r6, .int .i64 T.r7] 24) = W3
      replace x0 : W3.cell? ⟨g, 0, none⟩ = some (.int .i64 op) := by rw [← hW]; exact kc (x0)
      replace x1 : W3.cell? ⟨g, 1, none⟩ = some (.int .i64 A) := by rw [← hW]; exact kc (x1)
      replace x2 : W3.cell? ⟨g, 2, none⟩ = some (.int .i64 B) := by rw [← hW]; exact kc (x2)
      replace x3 : W3.cell? ⟨g, 3, none⟩ = some (.int .i64 C) := by rw [← hW]; exact kc (x3)
      replace l_g : g < W3.heap.size := by rw [← hW]; simp; omega
      replace p0 : W3.cell? ⟨g1, 0, none⟩ = some (.int .i64 R.r0) := by rw [← hW]; exact kc (p0)
      replace p1 : W3.cell? ⟨g1, 1, none⟩ = some (.int .i64 R.r1) := by rw [← hW]; exact kc (p1)
      replace p2 : W3.cell? ⟨g1, 2, none⟩ = some (.int .i64 R.r2) := by rw [← hW]; exact kc (p2)
      replace p3 : W3.cell? ⟨g1, 3, none⟩ = some (.int .i64 R.r3) := by rw [← hW]; exact kc (p3)
      replace p4 : W3.cell? ⟨g1, 4, none⟩ = some (.int .i64 R.r4) := by rw [← hW]; exact kc (p4)
      replace p5 : W3.cell? ⟨g1, 5, none⟩ = some (.int .i64 R.r5) := by rw [← hW]; exact kc (p5)
      replace p6 : W3.cell? ⟨g1, 6, none⟩ = some (.int .i64 R.r6) := by rw [← hW]; exact kc (p6)
      replace p7 : W3.cell? ⟨g1, 7, none⟩ = some (.int .i64 R.r7) := by rw [← hW]; exact kc (p7)
      replace l_g1 : g1 < W3.heap.size := by rw [← hW]; simp; omega
      replace q0 : W3.cell? ⟨g2, 0, none⟩ = some (.int .i64 RG.r0) := by rw [← hW]; exact kc (q0)
      replace q1 : W3.cell? ⟨g2, 1, none⟩ = some (.int .i64 RG.r1) := by rw [← hW]; exact kc (q1)
      replace q2 : W3.cell? ⟨g2, 2, none⟩ = some (.int .i64 RG.r2) := by rw [← hW]; exact kc (q2)
      replace q3 : W3.cell? ⟨g2, 3, none⟩ = some (.int .i64 RG.r3) := by rw [← hW]; exact kc (q3)
      replace q4 : W3.cell? ⟨g2, 4, none⟩ = some (.int .i64 RG.r4) := by rw [← hW]; exact kc (q4)
      replace q5 : W3.cell? ⟨g2, 5, none⟩ = some (.int .i64 RG.r5) := by rw [← hW]; exact kc (q5)
      replace q6 : W3.cell? ⟨g2, 6, none⟩ = some (.int .i64 RG.r6) := by rw [← hW]; exact kc (q6)
      replace q7 : W3.cell? ⟨g2, 7, none⟩ = some (.int .i64 RG.r7) := by rw [← hW]; exact kc (q7)
      replace l_g2 : g2 < W3.heap.size := by rw [← hW]; simp; omega
      replace e0 : W3.cell? ⟨g3, 0, none⟩ = some (.int .i64 EF.kind) := by rw [← hW]; exact kc (e0)
      replace e1 : W3.cell? ⟨g3, 1, none⟩ = some (.int .i64 EF.at_) := by rw [← hW]; exact kc (e1)
      replace e2 : W3.cell? ⟨g3, 2, none⟩ = some (.int .i64 EF.value) := by rw [← hW]; exact kc (e2)
      replace e3 : W3.cell? ⟨g3, 3, none⟩ = some (.int .i64 EF.other) := by rw [← hW]; exact kc (e3)
      replace e4 : W3.cell? ⟨g3, 4, none⟩ = some (.int .i64 EF.reg) := by rw [← hW]; exact kc (e4)
      replace l_g3 : g3 < W3.heap.size := by rw [← hW]; simp; omega
      generalize hg_g4 : w4.heap.size = g4
      have s0 : W3.cell? ⟨g4, 0, none⟩ = some (.int .i64 T.r0) := by rw [← hW]; exact cell_new _ _ _ _ _ hg_g4.symm
      have s1 : W3.cell? ⟨g4, 1, none⟩ = some (.int .i64 T.r1) := by rw [← hW]; exact cell_new _ _ _ _ _ hg_g4.symm
      have s2 : W3.cell? ⟨g4, 2, none⟩ = some (.int .i64 T.r2) := by rw [← hW]; exact cell_new _ _ _ _ _ hg_g4.symm
      have s3 : W3.cell? ⟨g4, 3, none⟩ = some (.int .i64 T.r3) := by rw [← hW]; exact cell_new _ _ _ _ _ hg_g4.symm
      have s4 : W3.cell? ⟨g4, 4, none⟩ = some (.int .i64 T.r4) := by rw [← hW]; exact cell_new _ _ _ _ _ hg_g4.symm
      have s5 : W3.cell? ⟨g4, 5, none⟩ = some (.int .i64 T.r5) := by rw [← hW]; exact cell_new _ _ _ _ _ hg_g4.symm
      have s6 : W3.cell? ⟨g4, 6, none⟩ = some (.int .i64 T.r6) := by rw [← hW]; exact cell_new _ _ _ _ _ hg_g4.symm
      have s7 : W3.cell? ⟨g4, 7, none⟩ = some (.int .i64 T.r7) := by rw [← hW]; exact cell_new _ _ _ _ _ hg_g4.symm
      have l_g4 : g4 < W3.heap.size := by rw [← hW, ← hg_g4]; simp; try omega
      replace BW : Below w.heap.size w W3 := by rw [← hW]; exact (BW.alloc (by have q := BW.size; simp; try omega) _)
      clear hW
      have HS := Lib.hid (fun (j : Nat) (hj : j < 8) => file_get j hj s0 s1 s2 s3 s4 s5 s6 s7)
      have HR := Lib.hid (fun (j : Nat) (hj : j < 8) => file_get j hj p0 p1 p2 p3 p4 p5 p6 p7)
      clear p0 p1 p2 p3 p4 p5 p6 p7 q0 q1 q2 q3 q4 q5 q6 q7 s0 s1 s2 s3 s4 s5 s6 s7 e0 e1 e2 e3 e4
      go_wp2_with fail
      go_loopw [14] (fun s14 wr => ∃ j : Nat, j ≤ 8 ∧ s14 = .int .i64 j ∧ Below W3.heap.size W3 wr) (fun i _ => 8 - (intOf i).toNat)
      case atStart => exact ⟨0, Nat.zero_le _, rfl, Below.refl _ _⟩
      case round =>
        obtain ⟨j, hj, rfl, hbl⟩ := hrel
        have y0 := kb hbl l_g x0
        have y1 := kb hbl l_g x1
        have y2 := kb hbl l_g x2
        have y3 := kb hbl l_g x3
        by_cases hlt : j < 8
        · have hlt' : (j : Int) < 8 := by omega
          have t1 := kb hbl l_g4 (HS.out j hlt)
          have t2 := kb hbl l_g1 (HR.out j hlt)
          clear x0 x1 x2 x3
          by_cases hA : (j : Int) = A
          · have nA : ((j : Int) == A) = true := by simp [hA]
            have nA' : ((j : Int) != A) = false := by simp [hA]
            clear hA
            go_wp2_with fail
            go_quiet (fail)
            go_wp2_with fail
            go_roundw
            case rel => exact ⟨j + 1, by omega, by simp, below_drewN hbl _⟩
            case measure => simp [intOf]; omega
          · have nA : ((j : Int) == A) = false := by simp [hA]
            have nA' : ((j : Int) != A) = true := by simp [hA]
            rw [HT.out j hlt hA] at t1
            generalize R.get (j : Int) = r at t1 t2
            clear hA
            go_wp2_with fail
            go_quiet (fail)
            go_wp2_with fail
            go_roundw
            case rel => exact ⟨j + 1, by omega, by simp, below_drewN hbl _⟩
            case measure => simp [intOf]; omega
        · obtain rfl : j = 8 := by omega
          have BE := BW.trans (hbl.mono BW.size)
          clear x0 x1 x2 x3 HT
          rcases HPC.out with h | ⟨h18, h⟩ | ⟨h19, h, ha⟩
          · obtain rfl : PC = p1 := by rw [h, hw]
            clear h HPC HV HS HR
            go_wp2_with fail
            go_ret
            exact ⟨rfl, BE⟩
          · subst h18
            obtain rfl : PC = A := h
            clear HPC HV HS HR
            by_cases hn : PC = p1
            · subst hn
              go_wp2_with fail
              go_ret
              exact ⟨rfl, BE⟩
            · have nn : (PC == p1) = false := by simp [hn]
              clear hn
              go_wp2_with fail
              go_ret
              exact ⟨rfl, BE⟩
          · subst h19
            obtain rfl : PC = B := h
            have hA := HV.out.2 (by unfold regs; omega)
            obtain ⟨a, rfl⟩ : ∃ a : Nat, A = a := ⟨A.toNat, by omega⟩
            have ha8 : a < 8 := by omega
            have ha8' : (a : Int) < 8 := by omega
            have t2 := kb hbl l_g1 (HR.out a ha8)
            have ha2 : R.get (a : Int) = 0 := by rw [← ha]; unfold Rg.at; rw [held_in _ hA]
            rw [ha2] at t2
            clear HPC HV HS HR hA ha ha2
            by_cases hn : PC = p1
            · subst hn
              go_wp2_with fail
              go_ret
              exact ⟨rfl, BE⟩
            · have nn : (PC == p1) = false := by simp [hn]
              clear hn
              go_wp2_with fail
              go_ret
              exact ⟨rfl, BE⟩

theorem walk (op A B C got pc : Int) (h : 0 ≤ pc ∧ pc ≤ 255) (R : Rg) (w : World) :
    Calls Try.prog 5 #[.agg #[.int .i64 op, .int .i64 A, .int .i64 B, .int .i64 C], .int .u8 pc, .agg #[.int .i64 R.r0, .int .i64 R.r1, .int .i64 R.r2, .int .i64 R.r3, .int .i64 R.r4, .int .i64 R.r5, .int .i64 R.r6, .int .i64 R.r7], .int .i64 got] w fun e w' => e = .returned (.bool true) ∧ Below w.heap.size w w' := by
  obtain ⟨p, rfl⟩ : ∃ p : Nat, pc = p := ⟨pc.toNat, by omega⟩
  exact walk0 op A B C got p _ (wrap_small p (by omega)).2 (wrap_small p (by omega)).1 R w

open Go.ChangeShapes Go.WideShapes Go.ChangeAt

set_option maxRecDepth 100000 in
theorem lifted (os : Os) (started : os.Started) (H : Type) (enc : TypeId × Value → H) :
    ReturnsInHanded {} Try.checked os 5 .any (Rows.stepKeepsSpec.pre6 enc Try.prog Try.f5 Rows.stepKeepsRow.domain false) (Rows.stepKeepsSpec.post enc Try.prog Try.f5 false true false false) := by
  refine Frame.law_lift (C := Try.checked) Frame.own started (by kernel_rfl) Try.func5 Frame.laidOut
    (ChangeSpec.witness6 (enc := enc) (C := Try.checked) false ⟨#[], #[.agg #[.int .i64 0, .int .i64 0, .int .i64 0, .int .i64 0], .int .u8 0, .agg #[.int .i64 0, .int .i64 0, .int .i64 0, .int .i64 0, .int .i64 0, .int .i64 0, .int .i64 0, .int .i64 0], .int .i64 0], []⟩ 8 (by kernel_rfl) (by kernel_rfl) (by kernel_rfl) (by kernel_rfl))
    rfl rfl Try.underlying4 (by kernel_rfl) (fun ds h => by match ds, h with | [_, _, _, _], _ => exact ⟨rfl, rfl, rfl⟩) ?_
  intro W base args ds p hval0 hA hlt hsz
  have hval : ∀ (j : Nat) t v, Try.f5.params[j]? = some t → args[j]? = some v → Value.okWide Try.prog W .any base t v := hval0
  clear hval0
  replace hA : DataW.TrodAll enc Try.prog W 0 (fun _ => true) true Try.f5.params.toList args.toList ds p := hA
  replace hsz : (DataW.weightsEach Try.prog Try.f5.params.toList ds).all (· ≤ reachBytes) = true := hsz
  rw [Try.params5] at hA hval hsz
  obtain ⟨v0, v1, v2, v3, d0, d1, d2, d3, p0, p1, p2, p3, rfl, rfl, rfl, h0, h1, h2, h3⟩ := trodAll_four hA
  obtain ⟨a0, a1, a2, a3, rfl⟩ := open_ins (hval 0 _ v0 rfl rfl) h0
  obtain ⟨pc, rfl, rfl, rfl, w1⟩ := open_int Try.underlying5 (hval 1 5 v1 rfl rfl) h1
  obtain ⟨R, rfl, hR⟩ := open_regs (hval 2 _ v2 rfl rfl) h2
  obtain ⟨got, rfl, rfl, rfl, w3⟩ := open_int Try.underlying3 (hval 3 3 v3 rfl rfl) h3
  exact walk a0 a1 a2 a3 got pc (bounds_u8 w1) R W

theorem proved : Rows.StepKeepsSaid :=
  OpenClaim.holds_of_wide 5 Try.f5 rfl rfl rfl rfl rfl rfl rfl ⟨rfl, rfl, rfl, rfl, rfl⟩ rfl rfl rfl rfl rfl (by kernel_rfl) Try.func5 (by kernel_rfl)
    (of_decide_eq_true (by kernel_rfl)) (by unfold Func.isWrapper; first | (rw [if_pos (by decide +kernel)]; kernel_rfl) | (rw [if_neg (by decide +kernel)]; exact ⟨rfl, rfl⟩))
    (fun os started H enc _ => lifted os started H enc)
#print axioms proved

end Go.Proofs.Ythmeonabdpbmjaa.StepKeeps
