/- For every input StepLeads returns true, and its arguments read as they did. No conditions. -/
import Derived.Test.YthmeonabdpbmjaaSpWk
import Derived.Test.YthmeonabdpbmjaaSpO
import Derived.ChangeMaps5
namespace Go.Proofs.Ythmeonabdpbmjaa.StepLeads
open Go.RowKit Go.Proofs.Ythmeonabdpbmjaa.Wr Go.Proofs.Ythmeonabdpbmjaa.Sp
set_option linter.unusedVariables false
set_option linter.unusedSimpArgs false

/-- what kind is asked by an operation -/
def kd (op : Int) : Int := (ofE op 0 0 0 0 0).kind
theorem kd_do (op A B C : Int) (R : Rg) : (doEf op A B C R).kind = kd op := by
  unfold doEf kd
  split
  · rename_i h
    have h3 : 3 ≤ op ∧ op ≤ 12 := by
      unfold faults at h
      simp at h
      exact h.1
    unfold ofE
    rw [if_neg (by omega), if_neg (by omega), if_neg (by omega), if_neg (by omega), if_neg (by omega), if_neg (by omega), if_neg (by omega), if_neg (by omega), if_neg (by omega), if_neg (by omega), if_neg (by omega), if_neg (by omega)]
  · unfold ofE
    simp only [apply_ite Ef.kind]
def cnt : Nat → Int
  | 0 => 0
  | j + 1 => cnt j + (if kd j = 0 then 0 else 1)
theorem cnt_bd (j : Nat) : 0 ≤ cnt j ∧ cnt j ≤ j := by
  induction j with
  | zero => exact ⟨by decide, by decide⟩
  | succ j ih => simp only [cnt]; split <;> omega
theorem cnt_26 : cnt 26 = 12 := by decide

theorem step_any (op A B C pc : Int) (R : Rg) (w : World) :
    Calls Try.prog 8 #[.agg #[.int .i64 op, .int .i64 A, .int .i64 B, .int .i64 C], .int .i64 pc, .agg #[.int .i64 R.r0, .int .i64 R.r1, .int .i64 R.r2, .int .i64 R.r3, .int .i64 R.r4, .int .i64 R.r5, .int .i64 R.r6, .int .i64 R.r7]] w fun e w' =>
      ∃ (PC : Int) (RG : Rg) (e1 e2 e3 e4 FT : Int), e = .returned (.tuple #[.int .i64 PC, .agg #[.int .i64 RG.r0, .int .i64 RG.r1, .int .i64 RG.r2, .int .i64 RG.r3, .int .i64 RG.r4, .int .i64 RG.r5, .int .i64 RG.r6, .int .i64 RG.r7], .agg #[.int .i64 (kd op), .int .i64 e1, .int .i64 e2, .int .i64 e3, .int .i64 e4], .int .i64 FT]) ∧ Below w.heap.size w w' := by
  refine (do_go op A B C pc R w).mono ?_
  rintro e w' ⟨rfl, hb⟩
  rw [kd_do]
  exact ⟨_, doRg op A B C R, _, _, _, _, _, rfl, hb⟩

set_option maxRecDepth 100000 in
set_option maxHeartbeats 4000000 in
theorem walk0 (m k t : Nat) (hk : k = m % 8) (hm : m ≤ 255) (ht : t ≤ 255) (R : Rg) (a N : Int) (ba : Bool) (hA : R.get k = a) (hba : (a == 0) = ba) (hN : N = if ba = true then (t : Int) else 301) (w : World) :
    Calls Try.prog 4 #[.int .u8 m, .int .u8 t, .agg #[.int .i64 R.r0, .int .i64 R.r1, .int .i64 R.r2, .int .i64 R.r3, .int .i64 R.r4, .int .i64 R.r5, .int .i64 R.r6, .int .i64 R.r7]] w fun e w' => e = .returned (.bool true) ∧ Below w.heap.size w w' := by
  have k8 : k < 8 := by omega
  have k8' : (k : Int) < 8 := by omega
  have e1 : (m : Int).tmod 8 = (k : Int) := by rw [Int.tmod_eq_emod_of_nonneg (by omega)]; omega
  have hat : R.at (k : Int) = a := by unfold Rg.at held; rw [← hA]; congr 1; omega
  have cW := Lib.hid (fun w => works_any w)
  have p19 : doPc 19 k t 0 300 R = N := by
    simp only [doPc, faults, goN, hat, hN, ← hba]
    by_cases h : a = 0 <;> simp [h, wrap64]
  have p18 : doPc 18 t 0 0 300 R = t := by simp [doPc, faults, goN]
  have c19 := Lib.hid (fun w => do_go 19 k t 0 300 R w)
  have c18 := Lib.hid (fun w => do_go 18 t 0 0 300 R w)
  rw [p19] at c19
  rw [p18] at c18
  generalize doRg 19 k t 0 R = RA at *
  generalize doEf 19 k t 0 R = EA at *
  generalize doFt 19 0 R = FA at *
  generalize doRg 18 t 0 0 R = RB at *
  generalize doEf 18 t 0 0 R = EB at *
  generalize doFt 18 0 R = FB at *
  have cL := Lib.hid (fun (j : Nat) w => step_any j k k k 0 R w)
  have HC := Lib.hid cnt_bd
  have HN := Lib.hid hN
  clear p19 p18 hat hN hk
  go_enter Try.func4, Try.ntmps4
  go_upto_region 1 with fail
  generalize hW : w.alloc (.cells #[.int .i64 R.r0, .int .i64 R.r1, .int .i64 R.r2, .int .i64 R.r3, .int .i64 R.r4, .int .i64 R.r5, .int .i64 R.r6, .int .i64 R.r7] 24) = W
  generalize hg_g : w.heap.size = g
  have p0 : W.cell? ⟨g, 0, none⟩ = some (.int .i64 R.r0) := by rw [← hW]; exact cell_new _ _ _ _ _ hg_g.symm
  have p1 : W.cell? ⟨g, 1, none⟩ = some (.int .i64 R.r1) := by rw [← hW]; exact cell_new _ _ _ _ _ hg_g.symm
  have p2 : W.cell? ⟨g, 2, none⟩ = some (.int .i64 R.r2) := by rw [← hW]; exact cell_new _ _ _ _ _ hg_g.symm
  have p3 : W.cell? ⟨g, 3, none⟩ = some (.int .i64 R.r3) := by rw [← hW]; exact cell_new _ _ _ _ _ hg_g.symm
  have p4 : W.cell? ⟨g, 4, none⟩ = some (.int .i64 R.r4) := by rw [← hW]; exact cell_new _ _ _ _ _ hg_g.symm
  have p5 : W.cell? ⟨g, 5, none⟩ = some (.int .i64 R.r5) := by rw [← hW]; exact cell_new _ _ _ _ _ hg_g.symm
  have p6 : W.cell? ⟨g, 6, none⟩ = some (.int .i64 R.r6) := by rw [← hW]; exact cell_new _ _ _ _ _ hg_g.symm
  have p7 : W.cell? ⟨g, 7, none⟩ = some (.int .i64 R.r7) := by rw [← hW]; exact cell_new _ _ _ _ _ hg_g.symm
  have l_g : g < W.heap.size := by rw [← hW, ← hg_g]; simp; try omega
  have BW : Below w.heap.size w W := by rw [← hW]; exact ((Below.refl w.heap.size w).alloc (by simp; try omega) _)
  clear hW
  go_wp2_with fail
  refine (cW.out _).mono ?_
  rintro e w1 ⟨rfl, hb1⟩
  replace p0 := kb hb1 l_g p0
  replace p1 := kb hb1 l_g p1
  replace p2 := kb hb1 l_g p2
  replace p3 := kb hb1 l_g p3
  replace p4 := kb hb1 l_g p4
  replace p5 := kb hb1 l_g p5
  replace p6 := kb hb1 l_g p6
  replace p7 := kb hb1 l_g p7
  replace l_g := Nat.lt_of_lt_of_le l_g hb1.size
  replace BW := BW.trans (hb1.mono BW.size)
  clear hb1
  go_wp2_with fail
  refine (c19.out _).mono ?_
  rintro e w2 ⟨rfl, hb2⟩
  replace p0 := kb hb2 l_g p0
  replace p1 := kb hb2 l_g p1
  replace p2 := kb hb2 l_g p2
  replace p3 := kb hb2 l_g p3
  replace p4 := kb hb2 l_g p4
  replace p5 := kb hb2 l_g p5
  replace p6 := kb hb2 l_g p6
  replace p7 := kb hb2 l_g p7
  replace l_g := Nat.lt_of_lt_of_le l_g hb2.size
  replace BW := BW.trans (hb2.mono BW.size)
  clear hb2
  go_upto_region 5 with fail
  generalize hW : (w2.alloc (.cells #[.int .i64 RA.r0, .int .i64 RA.r1, .int .i64 RA.r2, .int .i64 RA.r3, .int .i64 RA.r4, .int .i64 RA.r5, .int .i64 RA.r6, .int .i64 RA.r7] 24)).alloc (.cells #[.int .i64 EA.kind, .int .i64 EA.at_, .int .i64 EA.value, .int .i64 EA.other, .int .i64 EA.reg] 27) = W2
  replace p0 : W2.cell? ⟨g, 0, none⟩ = some (.int .i64 R.r0) := by rw [← hW]; exact kc (kc (p0))
  replace p1 : W2.cell? ⟨g, 1, none⟩ = some (.int .i64 R.r1) := by rw [← hW]; exact kc (kc (p1))
  replace p2 : W2.cell? ⟨g, 2, none⟩ = some (.int .i64 R.r2) := by rw [← hW]; exact kc (kc (p2))
  replace p3 : W2.cell? ⟨g, 3, none⟩ = some (.int .i64 R.r3) := by rw [← hW]; exact kc (kc (p3))
  replace p4 : W2.cell? ⟨g, 4, none⟩ = some (.int .i64 R.r4) := by rw [← hW]; exact kc (kc (p4))
  replace p5 : W2.cell? ⟨g, 5, none⟩ = some (.int .i64 R.r5) := by rw [← hW]; exact kc (kc (p5))
  replace p6 : W2.cell? ⟨g, 6, none⟩ = some (.int .i64 R.r6) := by rw [← hW]; exact kc (kc (p6))
  replace p7 : W2.cell? ⟨g, 7, none⟩ = some (.int .i64 R.r7) := by rw [← hW]; exact kc (kc (p7))
  replace l_g : g < W2.heap.size := by rw [← hW]; simp; omega
  generalize hg_g3 : w2.heap.size + 1 = g3
  generalize hg_g2 : w2.heap.size = g2
  have q0 : W2.cell? ⟨g2, 0, none⟩ = some (.int .i64 RA.r0) := by rw [← hW]; exact kc (cell_new _ _ _ _ _ hg_g2.symm)
  have q1 : W2.cell? ⟨g2, 1, none⟩ = some (.int .i64 RA.r1) := by rw [← hW]; exact kc (cell_new _ _ _ _ _ hg_g2.symm)
  have q2 : W2.cell? ⟨g2, 2, none⟩ = some (.int .i64 RA.r2) := by rw [← hW]; exact kc (cell_new _ _ _ _ _ hg_g2.symm)
  have q3 : W2.cell? ⟨g2, 3, none⟩ = some (.int .i64 RA.r3) := by rw [← hW]; exact kc (cell_new _ _ _ _ _ hg_g2.symm)
  have q4 : W2.cell? ⟨g2, 4, none⟩ = some (.int .i64 RA.r4) := by rw [← hW]; exact kc (cell_new _ _ _ _ _ hg_g2.symm)
  have q5 : W2.cell? ⟨g2, 5, none⟩ = some (.int .i64 RA.r5) := by rw [← hW]; exact kc (cell_new _ _ _ _ _ hg_g2.symm)
  have q6 : W2.cell? ⟨g2, 6, none⟩ = some (.int .i64 RA.r6) := by rw [← hW]; exact kc (cell_new _ _ _ _ _ hg_g2.symm)
  have q7 : W2.cell? ⟨g2, 7, none⟩ = some (.int .i64 RA.r7) := by rw [← hW]; exact kc (cell_new _ _ _ _ _ hg_g2.symm)
  have l_g2 : g2 < W2.heap.size := by rw [← hW, ← hg_g2]; simp; try omega
  have e0 : W2.cell? ⟨g3, 0, none⟩ = some (.int .i64 EA.kind) := by rw [← hW]; exact cell_new _ _ _ _ _ (by rw [← hg_g3]; simp)
  have e1 : W2.cell? ⟨g3, 1, none⟩ = some (.int .i64 EA.at_) := by rw [← hW]; exact cell_new _ _ _ _ _ (by rw [← hg_g3]; simp)
  have e2 : W2.cell? ⟨g3, 2, none⟩ = some (.int .i64 EA.value) := by rw [← hW]; exact cell_new _ _ _ _ _ (by rw [← hg_g3]; simp)
  have e3 : W2.cell? ⟨g3, 3, none⟩ = some (.int .i64 EA.other) := by rw [← hW]; exact cell_new _ _ _ _ _ (by rw [← hg_g3]; simp)
  have e4 : W2.cell? ⟨g3, 4, none⟩ = some (.int .i64 EA.reg) := by rw [← hW]; exact cell_new _ _ _ _ _ (by rw [← hg_g3]; simp)
  have l_g3 : g3 < W2.heap.size := by rw [← hW, ← hg_g3]; simp; try omega
  replace BW : Below w.heap.size w W2 := by rw [← hW]; exact ((BW.alloc (by have q := BW.size; simp; try omega) _).alloc (by have q := BW.size; simp; try omega) _)
  clear hW
  go_wp2_with fail
  refine (c18.out _).mono ?_
  rintro e w3 ⟨rfl, hb3⟩
  replace p0 := kb hb3 l_g p0
  replace p1 := kb hb3 l_g p1
  replace p2 := kb hb3 l_g p2
  replace p3 := kb hb3 l_g p3
  replace p4 := kb hb3 l_g p4
  replace p5 := kb hb3 l_g p5
  replace p6 := kb hb3 l_g p6
  replace p7 := kb hb3 l_g p7
  replace l_g := Nat.lt_of_lt_of_le l_g hb3.size
  replace q0 := kb hb3 l_g2 q0
  replace q1 := kb hb3 l_g2 q1
  replace q2 := kb hb3 l_g2 q2
  replace q3 := kb hb3 l_g2 q3
  replace q4 := kb hb3 l_g2 q4
  replace q5 := kb hb3 l_g2 q5
  replace q6 := kb hb3 l_g2 q6
  replace q7 := kb hb3 l_g2 q7
  replace l_g2 := Nat.lt_of_lt_of_le l_g2 hb3.size
  replace e0 := kb hb3 l_g3 e0
  replace e1 := kb hb3 l_g3 e1
  replace e2 := kb hb3 l_g3 e2
  replace e3 := kb hb3 l_g3 e3
  replace e4 := kb hb3 l_g3 e4
  replace l_g3 := Nat.lt_of_lt_of_le l_g3 hb3.size
  replace BW := BW.trans (hb3.mono BW.size)
  clear hb3
  go_upto_region 6 with fail
  generalize hW : (w3.alloc (.cells #[.int .i64 RB.r0, .int .i64 RB.r1, .int .i64 RB.r2, .int .i64 RB.r3, .int .i64 RB.r4, .int .i64 RB.r5, .int .i64 RB.r6, .int .i64 RB.r7] 24)).alloc (.cells #[.int .i64 EB.kind, .int .i64 EB.at_, .int .i64 EB.value, .int .i64 EB.other, .int .i64 EB.reg] 27) = W3
  replace p0 : W3.cell? ⟨g, 0, none⟩ = some (.int .i64 R.r0) := by rw [← hW]; exact kc (kc (p0))
  replace p1 : W3.cell? ⟨g, 1, none⟩ = some (.int .i64 R.r1) := by rw [← hW]; exact kc (kc (p1))
  replace p2 : W3.cell? ⟨g, 2, none⟩ = some (.int .i64 R.r2) := by rw [← hW]; exact kc (kc (p2))
  replace p3 : W3.cell? ⟨g, 3, none⟩ = some (.int .i64 R.r3) := by rw [← hW]; exact kc (kc (p3))
  replace p4 : W3.cell? ⟨g, 4, none⟩ = some (.int .i64 R.r4) := by rw [← hW]; exact kc (kc (p4))
  replace p5 : W3.cell? ⟨g, 5, none⟩ = some (.int .i64 R.r5) := by rw [← hW]; exact kc (kc (p5))
  replace p6 : W3.cell? ⟨g, 6, none⟩ = some (.int .i64 R.r6) := by rw [← hW]; exact kc (kc (p6))
  replace p7 : W3.cell? ⟨g, 7, none⟩ = some (.int .i64 R.r7) := by rw [← hW]; exact kc (kc (p7))
  replace l_g : g < W3.heap.size := by rw [← hW]; simp; omega
  replace q0 : W3.cell? ⟨g2, 0, none⟩ = some (.int .i64 RA.r0) := by rw [← hW]; exact kc (kc (q0))
  replace q1 : W3.cell? ⟨g2, 1, none⟩ = some (.int .i64 RA.r1) := by rw [← hW]; exact kc (kc (q1))
  replace q2 : W3.cell? ⟨g2, 2, none⟩ = some (.int .i64 RA.r2) := by rw [← hW]; exact kc (kc (q2))
  replace q3 : W3.cell? ⟨g2, 3, none⟩ = some (.int .i64 RA.r3) := by rw [← hW]; exact kc (kc (q3))
  replace q4 : W3.cell? ⟨g2, 4, none⟩ = some (.int .i64 RA.r4) := by rw [← hW]; exact kc (kc (q4))
  replace q5 : W3.cell? ⟨g2, 5, none⟩ = some (.int .i64 RA.r5) := by rw [← hW]; exact kc (kc (q5))
  replace q6 : W3.cell? ⟨g2, 6, none⟩ = some (.int .i64 RA.r6) := by rw [← hW]; exact kc (kc (q6))
  replace q7 : W3.cell? ⟨g2, 7, none⟩ = some (.int .i64 RA.r7) := by rw [← hW]; exact kc (kc (q7))
  replace l_g2 : g2 < W3.heap.size := by rw [← hW]; simp; omega
  replace e0 : W3.cell? ⟨g3, 0, none⟩ = some (.int .i64 EA.kind) := by rw [← hW]; exact kc (kc (e0))
  replace e1 : W3.cell? ⟨g3, 1, none⟩ = some (.int .i64 EA.at_) := by rw [← hW]; exact kc (kc (e1))
  replace e2 : W3.cell? ⟨g3, 2, none⟩ = some (.int .i64 EA.value) := by rw [← hW]; exact kc (kc (e2))
  replace e3 : W3.cell? ⟨g3, 3, none⟩ = some (.int .i64 EA.other) := by rw [← hW]; exact kc (kc (e3))
  replace e4 : W3.cell? ⟨g3, 4, none⟩ = some (.int .i64 EA.reg) := by rw [← hW]; exact kc (kc (e4))
  replace l_g3 : g3 < W3.heap.size := by rw [← hW]; simp; omega
  generalize hg_g5 : w3.heap.size + 1 = g5
  generalize hg_g4 : w3.heap.size = g4
  have s0 : W3.cell? ⟨g4, 0, none⟩ = some (.int .i64 RB.r0) := by rw [← hW]; exact kc (cell_new _ _ _ _ _ hg_g4.symm)
  have s1 : W3.cell? ⟨g4, 1, none⟩ = some (.int .i64 RB.r1) := by rw [← hW]; exact kc (cell_new _ _ _ _ _ hg_g4.symm)
  have s2 : W3.cell? ⟨g4, 2, none⟩ = some (.int .i64 RB.r2) := by rw [← hW]; exact kc (cell_new _ _ _ _ _ hg_g4.symm)
  have s3 : W3.cell? ⟨g4, 3, none⟩ = some (.int .i64 RB.r3) := by rw [← hW]; exact kc (cell_new _ _ _ _ _ hg_g4.symm)
  have s4 : W3.cell? ⟨g4, 4, none⟩ = some (.int .i64 RB.r4) := by rw [← hW]; exact kc (cell_new _ _ _ _ _ hg_g4.symm)
  have s5 : W3.cell? ⟨g4, 5, none⟩ = some (.int .i64 RB.r5) := by rw [← hW]; exact kc (cell_new _ _ _ _ _ hg_g4.symm)
  have s6 : W3.cell? ⟨g4, 6, none⟩ = some (.int .i64 RB.r6) := by rw [← hW]; exact kc (cell_new _ _ _ _ _ hg_g4.symm)
  have s7 : W3.cell? ⟨g4, 7, none⟩ = some (.int .i64 RB.r7) := by rw [← hW]; exact kc (cell_new _ _ _ _ _ hg_g4.symm)
  have l_g4 : g4 < W3.heap.size := by rw [← hW, ← hg_g4]; simp; try omega
  have u0 : W3.cell? ⟨g5, 0, none⟩ = some (.int .i64 EB.kind) := by rw [← hW]; exact cell_new _ _ _ _ _ (by rw [← hg_g5]; simp)
  have u1 : W3.cell? ⟨g5, 1, none⟩ = some (.int .i64 EB.at_) := by rw [← hW]; exact cell_new _ _ _ _ _ (by rw [← hg_g5]; simp)
  have u2 : W3.cell? ⟨g5, 2, none⟩ = some (.int .i64 EB.value) := by rw [← hW]; exact cell_new _ _ _ _ _ (by rw [← hg_g5]; simp)
  have u3 : W3.cell? ⟨g5, 3, none⟩ = some (.int .i64 EB.other) := by rw [← hW]; exact cell_new _ _ _ _ _ (by rw [← hg_g5]; simp)
  have u4 : W3.cell? ⟨g5, 4, none⟩ = some (.int .i64 EB.reg) := by rw [← hW]; exact cell_new _ _ _ _ _ (by rw [← hg_g5]; simp)
  have l_g5 : g5 < W3.heap.size := by rw [← hW, ← hg_g5]; simp; try omega
  replace BW : Below w.heap.size w W3 := by rw [← hW]; exact ((BW.alloc (by have q := BW.size; simp; try omega) _).alloc (by have q := BW.size; simp; try omega) _)
  clear hW
  clear q0 q1 q2 q3 q4 q5 q6 q7 s0 s1 s2 s3 s4 s5 s6 s7 e0 e1 e2 e3 e4 u0 u1 u2 u3 u4
  have fk := file_get k k8 p0 p1 p2 p3 p4 p5 p6 p7
  rw [hA] at fk
  go_wp2_with fail
  go_loopw [17, 18] (fun s17 s18 wr => ∃ j : Nat, j ≤ 26 ∧ s17 = .int .i64 (cnt j) ∧ s18 = .int .i64 j ∧ Below W3.heap.size W3 wr) (fun _ i _ => 26 - (intOf i).toNat)
  case atStart => exact ⟨0, Nat.zero_le _, rfl, rfl, Below.refl _ _⟩
  case round =>
    obtain ⟨j, hj, rfl, rfl, hbl⟩ := hrel
    have p0' := kb hbl l_g p0
    have p1' := kb hbl l_g p1
    have p2' := kb hbl l_g p2
    have p3' := kb hbl l_g p3
    have p4' := kb hbl l_g p4
    have p5' := kb hbl l_g p5
    have p6' := kb hbl l_g p6
    have p7' := kb hbl l_g p7
    have fk' := kb hbl l_g fk
    have lg' := Nat.lt_of_lt_of_le l_g hbl.size
    clear p0 p1 p2 p3 p4 p5 p6 p7 fk
    by_cases hlt : j < 26
    · have hc := HC.out j
      have hlt' : (j : Int) < 26 := by omega
      go_wp2_with fail
      refine (cL.out j _).mono ?_
      rintro e w5 ⟨PC, RG, e1, e2, e3, e4, FT, rfl, hb5⟩
      have B5 := hbl.trans (hb5.mono hbl.size)
      by_cases hkd : kd (j : Int) = 0
      · have nkd : (kd (j : Int) == 0) = true := by simp [hkd]
        go_wp2_with fail
        go_roundw
        case rel => exact ⟨j + 1, by omega, by simp [cnt, hkd], by simp, (B5.alloc B5.size _).alloc (by have q := B5.size; simp; omega) _⟩
        case measure => simp [intOf]; omega
      · have nkd : (kd (j : Int) == 0) = false := by simp [hkd]
        go_wp2_with fail
        go_roundw
        case rel => exact ⟨j + 1, by omega, by simp [cnt, hkd], by simp, (B5.alloc B5.size _).alloc (by have q := B5.size; simp; omega) _⟩
        case measure => simp [intOf]; omega
    · obtain rfl : j = 26 := by omega
      rw [cnt_26]
      have BE := BW.trans (hbl.mono BW.size)
      have hn := HN.out
      clear HN
      cases ba
      · obtain rfl : N = 301 := by simpa using hn
        have z1 : ((301 : Int) == (t : Int)) = false := by simp; omega
        have z2 : (a != 0) = true := by rw [bne, hba]; rfl
        clear hn
        go_wp2_with fail
        go_ret
        exact ⟨rfl, BE⟩
      · obtain rfl : N = (t : Int) := by simpa using hn
        have z1 : ((t : Int) == 301) = false := by simp; omega
        obtain rfl : a = 0 := by simpa using hba
        clear hn hba hA
        go_wp2_with fail
        go_ret
        exact ⟨rfl, BE⟩

theorem walk (rg tg : Int) (h0 : 0 ≤ rg ∧ rg ≤ 255) (h1 : 0 ≤ tg ∧ tg ≤ 255) (R : Rg) (w : World) :
    Calls Try.prog 4 #[.int .u8 rg, .int .u8 tg, .agg #[.int .i64 R.r0, .int .i64 R.r1, .int .i64 R.r2, .int .i64 R.r3, .int .i64 R.r4, .int .i64 R.r5, .int .i64 R.r6, .int .i64 R.r7]] w fun e w' => e = .returned (.bool true) ∧ Below w.heap.size w w' := by
  obtain ⟨m, rfl⟩ : ∃ m : Nat, rg = m := ⟨rg.toNat, by omega⟩
  obtain ⟨t, rfl⟩ : ∃ t : Nat, tg = t := ⟨tg.toNat, by omega⟩
  exact walk0 m _ t rfl (by omega) (by omega) R _ _ _ rfl rfl rfl w

open Go.ChangeShapes Go.WideShapes Go.ChangeAt

set_option maxRecDepth 100000 in
theorem lifted (os : Os) (started : os.Started) (H : Type) (enc : TypeId × Value → H) :
    ReturnsInHanded {} Try.checked os 4 .any (Rows.stepLeadsSpec.pre6 enc Try.prog Try.f4 Rows.stepLeadsRow.domain false) (Rows.stepLeadsSpec.post enc Try.prog Try.f4 false true false false) := by
  refine Frame.law_lift (C := Try.checked) Frame.own started (by kernel_rfl) Try.func4 Frame.laidOut
    (ChangeSpec.witness6 (enc := enc) (C := Try.checked) false ⟨#[], #[.int .u8 0, .int .u8 0, .agg #[.int .i64 0, .int .i64 0, .int .i64 0, .int .i64 0, .int .i64 0, .int .i64 0, .int .i64 0, .int .i64 0]], []⟩ 8 (by kernel_rfl) (by kernel_rfl) (by kernel_rfl) (by kernel_rfl))
    rfl rfl Try.underlying4 (by kernel_rfl) (fun ds h => by match ds, h with | [_, _, _], _ => exact ⟨rfl, rfl, rfl⟩) ?_
  intro W base args ds p hval0 hA hlt hsz
  have hval : ∀ (j : Nat) t v, Try.f4.params[j]? = some t → args[j]? = some v → Value.okWide Try.prog W .any base t v := hval0
  clear hval0
  replace hA : DataW.TrodAll enc Try.prog W 0 (fun _ => true) true Try.f4.params.toList args.toList ds p := hA
  replace hsz : (DataW.weightsEach Try.prog Try.f4.params.toList ds).all (· ≤ reachBytes) = true := hsz
  rw [Try.params4] at hA hval hsz
  obtain ⟨v0, v1, v2, d0, d1, d2, p0, p1, p2, rfl, rfl, rfl, h0, h1, h2⟩ := trodAll_three hA
  obtain ⟨a0, rfl, rfl, rfl, w0⟩ := open_int Try.underlying5 (hval 0 5 v0 rfl rfl) h0
  obtain ⟨a1, rfl, rfl, rfl, w1⟩ := open_int Try.underlying5 (hval 1 5 v1 rfl rfl) h1
  obtain ⟨R, rfl, hR⟩ := open_regs (hval 2 _ v2 rfl rfl) h2
  exact walk a0 a1 (bounds_u8 w0) (bounds_u8 w1) R W

theorem proved : Rows.StepLeadsSaid :=
  OpenClaim.holds_of_wide 4 Try.f4 rfl rfl rfl rfl rfl rfl rfl ⟨rfl, rfl, rfl, rfl, rfl⟩ rfl rfl rfl rfl rfl (by kernel_rfl) Try.func4 (by kernel_rfl)
    (of_decide_eq_true (by kernel_rfl)) (by unfold Func.isWrapper; first | (rw [if_pos (by decide +kernel)]; kernel_rfl) | (rw [if_neg (by decide +kernel)]; exact ⟨rfl, rfl⟩))
    (fun os started H enc _ => lifted os started H enc)
#print axioms proved

end Go.Proofs.Ythmeonabdpbmjaa.StepLeads
