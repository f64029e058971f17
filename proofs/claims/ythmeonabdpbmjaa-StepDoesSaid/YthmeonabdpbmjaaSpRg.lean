/- The walk of the document's Do, a class of operations. Written by gen3.py. -/
import Derived.Test.YthmeonabdpbmjaaSpRh
namespace Go.Proofs.Ythmeonabdpbmjaa.Sp
open Go.RowKit Go.Proofs.Ythmeonabdpbmjaa.Wr
set_option linter.unusedVariables false
set_option linter.unusedSimpArgs false

set_option maxRecDepth 100000 in
set_option maxHeartbeats 16000000 in
theorem ref_g (op A B C pc : Int) (R : Rg) (w : World) (hR : Hid (∀ n, -9223372036854775808 ≤ R.at n ∧ R.at n ≤ 9223372036854775807)) (hk : ¬ (3 ≤ op ∧ op ≤ 12)) (h0 : ¬ op = 0) (h1 : ¬ op = 1) (h2 : ¬ op = 2) (h13 : ¬ op = 13) (h14 : ¬ op = 14) (h15 : ¬ op = 15) (h16 : ¬ op = 16) (h17 : ¬ op = 17) (h18 : ¬ op = 18) (h19 : ¬ op = 19) (h20 : ¬ op = 20) (h21 : ¬ op = 21) (h22 : ¬ op = 22) (h23 : ¬ op = 23) (h24 : ¬ op = 24) (h25 : ¬ op = 25) :
    Calls Try.prog 9 #[.agg #[.int .i64 op, .int .i64 A, .int .i64 B, .int .i64 C], .int .i64 pc, .agg #[.int .i64 R.r0, .int .i64 R.r1, .int .i64 R.r2, .int .i64 R.r3, .int .i64 R.r4, .int .i64 R.r5, .int .i64 R.r6, .int .i64 R.r7]] w fun e w' => e = .returned (.tuple #[.int .i64 (doPc op A B C pc R), .agg #[.int .i64 (doRg op A B C R).r0, .int .i64 (doRg op A B C R).r1, .int .i64 (doRg op A B C R).r2, .int .i64 (doRg op A B C R).r3, .int .i64 (doRg op A B C R).r4, .int .i64 (doRg op A B C R).r5, .int .i64 (doRg op A B C R).r6, .int .i64 (doRg op A B C R).r7], .agg #[.int .i64 (doEf op A B C R).kind, .int .i64 (doEf op A B C R).at_, .int .i64 (doEf op A B C R).value, .int .i64 (doEf op A B C R).other, .int .i64 (doEf op A B C R).reg], .int .i64 (doFt op C R)]) ∧ Below w.heap.size w w' := by
  have cD := Lib.hid (fun w => rdo_any op (R.at B) (R.at C) w (hR.out B) (hR.out C))
  clear hR
  have cA := Lib.hid (fun w => rheld_any A w)
  have cB := Lib.hid (fun w => rheld_any B w)
  have cC := Lib.hid (fun w => rheld_any C w)
  have HPC := Lib.hid (show doPc op A B C pc R = if faults op (R.at C) = true then pc else goN op A B pc (R.at A) from rfl)
  have HRG := Lib.hid (show doRg op A B C R = if faults op (R.at C) = true then R else goR op A B R (R.at B) (R.at C) from rfl)
  have HEF := Lib.hid (show doEf op A B C R = if faults op (R.at C) = true then noEf else ofE op A (R.at A) (R.at B) (R.at C) (held A) from rfl)
  have HFT := Lib.hid (show doFt op C R = if faults op (R.at C) = true then doF op (R.at C) else 0 from rfl)
  generalize doPc op A B C pc R = PC at *
  generalize doRg op A B C R = RG at *
  generalize doEf op A B C R = EF at *
  generalize doFt op C R = FT at *
  have Ha := Lib.hid (show R.get (held A) = R.at A from rfl)
  have Hb := Lib.hid (show R.get (held B) = R.at B from rfl)
  have Hc := Lib.hid (show R.get (held C) = R.at C from rfl)
  generalize R.at A = a at *
  generalize R.at B = b at *
  generalize R.at C = c at *
  obtain ⟨ka, hka, ka8⟩ : ∃ k : Nat, held A = (k : Int) ∧ k < 8 := ⟨(held A).toNat, by unfold held; omega, by unfold held; omega⟩
  obtain ⟨kb, hkb, kb8⟩ : ∃ k : Nat, held B = (k : Int) ∧ k < 8 := ⟨(held B).toNat, by unfold held; omega, by unfold held; omega⟩
  obtain ⟨kc, hkc, kc8⟩ : ∃ k : Nat, held C = (k : Int) ∧ k < 8 := ⟨(held C).toNat, by unfold held; omega, by unfold held; omega⟩
  rw [hka] at Ha cA
  rw [hkb] at Hb cB
  rw [hkc] at Hc cC
  have Hka := Lib.hid hka
  clear hka hkb hkc
  go_enter Try.func9, Try.ntmps9
  go_upto_region 1 with fail
  go_quiet ((first | (go_at_call_of 20 (Value.int IntKind.i64 A); exact quiet_same (cA.out _)) | (go_at_call_of 20 (Value.int IntKind.i64 B); exact quiet_same (cB.out _)) | (go_at_call_of 20 (Value.int IntKind.i64 C); exact quiet_same (cC.out _))))
  go_upto_block 0 with fail
  have HL := Lie5.born w #[.int .i64 op, .int .i64 A, .int .i64 B, .int .i64 C] R 23 24 24 30 24 30 nq
  unfold Rg.arr Z8 Z5 at HL
  generalize hW : ((((((w.alloc (.cells #[.int .i64 op, .int .i64 A, .int .i64 B, .int .i64 C] 23)).alloc (.cells #[.int .i64 R.r0, .int .i64 R.r1, .int .i64 R.r2, .int .i64 R.r3, .int .i64 R.r4, .int .i64 R.r5, .int .i64 R.r6, .int .i64 R.r7] 24)).alloc (.cells #[.int .i64 0, .int .i64 0, .int .i64 0, .int .i64 0, .int .i64 0, .int .i64 0, .int .i64 0, .int .i64 0] 24)).alloc (.cells #[.int .i64 0, .int .i64 0, .int .i64 0, .int .i64 0, .int .i64 0] 30)).drewN nq).alloc (.cells #[.int .i64 R.r0, .int .i64 R.r1, .int .i64 R.r2, .int .i64 R.r3, .int .i64 R.r4, .int .i64 R.r5, .int .i64 R.r6, .int .i64 R.r7] 24)).alloc (.cells #[.int .i64 0, .int .i64 0, .int .i64 0, .int .i64 0, .int .i64 0] 30) = W at *
  generalize hg5 : w.heap.size + 1 + 1 + 1 + 1 + 1 = g5 at *
  generalize hg4 : w.heap.size + 1 + 1 + 1 + 1 = g4 at *
  generalize hg3 : w.heap.size + 1 + 1 + 1 = g3 at *
  generalize hg2 : w.heap.size + 1 + 1 = g2 at *
  generalize hg1 : w.heap.size + 1 = g1 at *
  generalize hg : w.heap.size = g at *
  clear hW hg1 hg2 hg3 hg4 hg5
  have ka8' : (ka : Int) < 8 := by omega
  have kb8' : (kb : Int) < 8 := by omega
  have kc8' : (kc : Int) < 8 := by omega
  have x0 : W.cell? ⟨g, 0, none⟩ = some (.int .i64 op) := HL.h.x 0
  have x1 : W.cell? ⟨g, 1, none⟩ = some (.int .i64 A) := HL.h.x 1
  have x2 : W.cell? ⟨g, 2, none⟩ = some (.int .i64 B) := HL.h.x 2
  have x3 : W.cell? ⟨g, 3, none⟩ = some (.int .i64 C) := HL.h.x 3
  have p0 : W.cell? ⟨g1, 0, none⟩ = some (.int .i64 R.r0) := HL.h.p 0
  have p1 : W.cell? ⟨g1, 1, none⟩ = some (.int .i64 R.r1) := HL.h.p 1
  have p2 : W.cell? ⟨g1, 2, none⟩ = some (.int .i64 R.r2) := HL.h.p 2
  have p3 : W.cell? ⟨g1, 3, none⟩ = some (.int .i64 R.r3) := HL.h.p 3
  have p4 : W.cell? ⟨g1, 4, none⟩ = some (.int .i64 R.r4) := HL.h.p 4
  have p5 : W.cell? ⟨g1, 5, none⟩ = some (.int .i64 R.r5) := HL.h.p 5
  have p6 : W.cell? ⟨g1, 6, none⟩ = some (.int .i64 R.r6) := HL.h.p 6
  have p7 : W.cell? ⟨g1, 7, none⟩ = some (.int .i64 R.r7) := HL.h.p 7
  have y0 : W.cell? ⟨g2, 0, none⟩ = some (.int .i64 0) := HL.h.y 0
  have y1 : W.cell? ⟨g2, 1, none⟩ = some (.int .i64 0) := HL.h.y 1
  have y2 : W.cell? ⟨g2, 2, none⟩ = some (.int .i64 0) := HL.h.y 2
  have y3 : W.cell? ⟨g2, 3, none⟩ = some (.int .i64 0) := HL.h.y 3
  have y4 : W.cell? ⟨g2, 4, none⟩ = some (.int .i64 0) := HL.h.y 4
  have y5 : W.cell? ⟨g2, 5, none⟩ = some (.int .i64 0) := HL.h.y 5
  have y6 : W.cell? ⟨g2, 6, none⟩ = some (.int .i64 0) := HL.h.y 6
  have y7 : W.cell? ⟨g2, 7, none⟩ = some (.int .i64 0) := HL.h.y 7
  have z0 : W.cell? ⟨g3, 0, none⟩ = some (.int .i64 0) := HL.h.z 0
  have z1 : W.cell? ⟨g3, 1, none⟩ = some (.int .i64 0) := HL.h.z 1
  have z2 : W.cell? ⟨g3, 2, none⟩ = some (.int .i64 0) := HL.h.z 2
  have z3 : W.cell? ⟨g3, 3, none⟩ = some (.int .i64 0) := HL.h.z 3
  have z4 : W.cell? ⟨g3, 4, none⟩ = some (.int .i64 0) := HL.h.z 4
  have f0 : W.cell? ⟨g4, 0, none⟩ = some (.int .i64 R.r0) := HL.h.f 0
  have f1 : W.cell? ⟨g4, 1, none⟩ = some (.int .i64 R.r1) := HL.h.f 1
  have f2 : W.cell? ⟨g4, 2, none⟩ = some (.int .i64 R.r2) := HL.h.f 2
  have f3 : W.cell? ⟨g4, 3, none⟩ = some (.int .i64 R.r3) := HL.h.f 3
  have f4 : W.cell? ⟨g4, 4, none⟩ = some (.int .i64 R.r4) := HL.h.f 4
  have f5 : W.cell? ⟨g4, 5, none⟩ = some (.int .i64 R.r5) := HL.h.f 5
  have f6 : W.cell? ⟨g4, 6, none⟩ = some (.int .i64 R.r6) := HL.h.f 6
  have f7 : W.cell? ⟨g4, 7, none⟩ = some (.int .i64 R.r7) := HL.h.f 7
  have d0 : W.cell? ⟨g5, 0, none⟩ = some (.int .i64 0) := HL.e 0
  have d1 : W.cell? ⟨g5, 1, none⟩ = some (.int .i64 0) := HL.e 1
  have d2 : W.cell? ⟨g5, 2, none⟩ = some (.int .i64 0) := HL.e 2
  have d3 : W.cell? ⟨g5, 3, none⟩ = some (.int .i64 0) := HL.e 3
  have d4 : W.cell? ⟨g5, 4, none⟩ = some (.int .i64 0) := HL.e 4
  have ra : W.cell? ⟨g1, ka, none⟩ = some (.int .i64 a) := (file_get ka ka8 (R := R) p0 p1 p2 p3 p4 p5 p6 p7).trans (by rw [Ha.out])
  have rb : W.cell? ⟨g1, kb, none⟩ = some (.int .i64 b) := (file_get kb kb8 (R := R) p0 p1 p2 p3 p4 p5 p6 p7).trans (by rw [Hb.out])
  have rc : W.cell? ⟨g1, kc, none⟩ = some (.int .i64 c) := (file_get kc kc8 (R := R) p0 p1 p2 p3 p4 p5 p6 p7).trans (by rw [Hc.out])
  have u4 := file_get ka ka8 f0 f1 f2 f3 f4 f5 f6 f7
  have fr2 := HL.h.fr2
  have fr3 := HL.h.fr3
  have fr4 := HL.h.fr4
  have BW := HL.h.bw
  have b2 : w.heap.size ≤ g2 := by have q := HL.h.b; have q1 := HL.h.o1; have q2 := HL.h.o2; have q3 := HL.h.o3; have q4 := HL.h.o4; have q5 := HL.o5; omega
  have b3 : w.heap.size ≤ g3 := by have q := HL.h.b; have q1 := HL.h.o1; have q2 := HL.h.o2; have q3 := HL.h.o3; have q4 := HL.h.o4; have q5 := HL.o5; omega
  have BWg : Below g w W := by rw [← hg]; exact BW
  have b2g : g ≤ g2 := by have q1 := HL.h.o1; have q2 := HL.h.o2; have q3 := HL.h.o3; have q4 := HL.h.o4; have q5 := HL.o5; omega
  have b3g : g ≤ g3 := by have q1 := HL.h.o1; have q2 := HL.h.o2; have q3 := HL.h.o3; have q4 := HL.h.o4; have q5 := HL.o5; omega
  have l0 : g < W.heap.size := by have q1 := HL.h.o1; have q2 := HL.h.o2; have q3 := HL.h.o3; have q4 := HL.h.o4; have q5 := HL.o5; have q6 := HL.l5; omega
  have l1 : g1 < W.heap.size := by have q1 := HL.h.o1; have q2 := HL.h.o2; have q3 := HL.h.o3; have q4 := HL.h.o4; have q5 := HL.o5; have q6 := HL.l5; omega
  have l2 : g2 < W.heap.size := by have q1 := HL.h.o1; have q2 := HL.h.o2; have q3 := HL.h.o3; have q4 := HL.h.o4; have q5 := HL.o5; have q6 := HL.l5; omega
  have l3 : g3 < W.heap.size := by have q1 := HL.h.o1; have q2 := HL.h.o2; have q3 := HL.h.o3; have q4 := HL.h.o4; have q5 := HL.o5; have q6 := HL.l5; omega
  have l4 : g4 < W.heap.size := by have q1 := HL.h.o1; have q2 := HL.h.o2; have q3 := HL.h.o3; have q4 := HL.h.o4; have q5 := HL.o5; have q6 := HL.l5; omega
  have l5 : g5 < W.heap.size := by have q1 := HL.h.o1; have q2 := HL.h.o2; have q3 := HL.h.o3; have q4 := HL.h.o4; have q5 := HL.o5; have q6 := HL.l5; omega
  have n02 : g ≠ g2 := by have q1 := HL.h.o1; have q2 := HL.h.o2; have q3 := HL.h.o3; have q4 := HL.h.o4; have q5 := HL.o5; omega
  have n03 : g ≠ g3 := by have q1 := HL.h.o1; have q2 := HL.h.o2; have q3 := HL.h.o3; have q4 := HL.h.o4; have q5 := HL.o5; omega
  have n04 : g ≠ g4 := by have q1 := HL.h.o1; have q2 := HL.h.o2; have q3 := HL.h.o3; have q4 := HL.h.o4; have q5 := HL.o5; omega
  have n12 : g1 ≠ g2 := by have q1 := HL.h.o1; have q2 := HL.h.o2; have q3 := HL.h.o3; have q4 := HL.h.o4; have q5 := HL.o5; omega
  have n13 : g1 ≠ g3 := by have q1 := HL.h.o1; have q2 := HL.h.o2; have q3 := HL.h.o3; have q4 := HL.h.o4; have q5 := HL.o5; omega
  have n14 : g1 ≠ g4 := by have q1 := HL.h.o1; have q2 := HL.h.o2; have q3 := HL.h.o3; have q4 := HL.h.o4; have q5 := HL.o5; omega
  have n23 : g2 ≠ g3 := by have q1 := HL.h.o1; have q2 := HL.h.o2; have q3 := HL.h.o3; have q4 := HL.h.o4; have q5 := HL.o5; omega
  have n24 : g2 ≠ g4 := by have q1 := HL.h.o1; have q2 := HL.h.o2; have q3 := HL.h.o3; have q4 := HL.h.o4; have q5 := HL.o5; omega
  have n25 : g2 ≠ g5 := by have q1 := HL.h.o1; have q2 := HL.h.o2; have q3 := HL.h.o3; have q4 := HL.h.o4; have q5 := HL.o5; omega
  have n34 : g3 ≠ g4 := by have q1 := HL.h.o1; have q2 := HL.h.o2; have q3 := HL.h.o3; have q4 := HL.h.o4; have q5 := HL.o5; omega
  have n35 : g3 ≠ g5 := by have q1 := HL.h.o1; have q2 := HL.h.o2; have q3 := HL.h.o3; have q4 := HL.h.o4; have q5 := HL.o5; omega
  have n45 : g4 ≠ g5 := by have q1 := HL.h.o1; have q2 := HL.h.o2; have q3 := HL.h.o3; have q4 := HL.h.o4; have q5 := HL.o5; omega
  have m0 : (op == 0) = false := by simp [h0]
  have m1 : (op == 1) = false := by simp [h1]
  have m2 : (op == 2) = false := by simp [h2]
  have m13 : (op == 13) = false := by simp [h13]
  have m14 : (op == 14) = false := by simp [h14]
  have m15 : (op == 15) = false := by simp [h15]
  have m16 : (op == 16) = false := by simp [h16]
  have m17 : (op == 17) = false := by simp [h17]
  have m18 : (op == 18) = false := by simp [h18]
  have m19 : (op == 19) = false := by simp [h19]
  have m20 : (op == 20) = false := by simp [h20]
  have m21 : (op == 21) = false := by simp [h21]
  have m22 : (op == 22) = false := by simp [h22]
  have m23 : (op == 23) = false := by simp [h23]
  have m24 : (op == 24) = false := by simp [h24]
  have m25 : (op == 25) = false := by simp [h25]
  have m3 : (op == 3) = false := by simp; omega
  have m4 : (op == 4) = false := by simp; omega
  have m5 : (op == 5) = false := by simp; omega
  have m6 : (op == 6) = false := by simp; omega
  have m7 : (op == 7) = false := by simp; omega
  have m8 : (op == 8) = false := by simp; omega
  have m9 : (op == 9) = false := by simp; omega
  have m10 : (op == 10) = false := by simp; omega
  have m11 : (op == 11) = false := by simp; omega
  have m12 : (op == 12) = false := by simp; omega
  have nk : decide (3 ≤ op ∧ op ≤ 12) = false := by simp [hk]
  have hf0 : faults op c = false := by simp only [faults, nk, Bool.false_and]
  obtain rfl : PC = wrap64 (pc + 1) := by rw [HPC.out, hf0]; simp [goN, h0, h1, h2, h13, h14, h15, h16, h17, h18, h19, h20, h21, h22, h23, h24, h25]
  obtain rfl : RG = R := by rw [HRG.out, hf0]; simp [goR, h0, h1, h2, h13, h14, h15, h16, h17, h18, h19, h20, h21, h22, h23, h24, h25, hk]
  obtain rfl : EF = ⟨0, 0, 0, 0, 0⟩ := by rw [HEF.out, hf0]; simp [ofE, noEf, h0, h1, h2, h13, h14, h15, h16, h17, h18, h19, h20, h21, h22, h23, h24, h25]
  obtain rfl : FT = 0 := by rw [HFT.out, hf0]; rfl
  clear HPC HRG HEF HFT HL hk hf0 h0 h1 h2 h13 h14 h15 h16 h17 h18 h19 h20 h21 h22 h23 h24 h25
  go_upto_region 56 with fail
  go_region
  all_goals
    go_wp2_with fail
    exact bodyPost_ret (v := .tuple #[.int .i64 (wrap64 (pc + 1)), .agg #[.int .i64 RG.r0, .int .i64 RG.r1, .int .i64 RG.r2, .int .i64 RG.r3, .int .i64 RG.r4, .int .i64 RG.r5, .int .i64 RG.r6, .int .i64 RG.r7], .agg #[.int .i64 0, .int .i64 0, .int .i64 0, .int .i64 0, .int .i64 0], .int .i64 0]) (by simp [results, Try.results9, go_sem, y0, y1, y2, y3, y4, y5, y6, y7, z0, z1, z2, z3, z4, fr2, fr3, n23, n23.symm]) rfl ⟨rfl, by repeat (first | (with_reducible exact BW) | (with_reducible exact BWg) | (with_reducible refine Below.setCell ?_ b2g _) | (with_reducible refine Below.setCell ?_ b3g _) | (with_reducible refine Below.setCell ?_ b2 _) | (with_reducible refine Below.setCell ?_ b3 _) | (with_reducible refine Below.drew ?_))⟩

end Go.Proofs.Ythmeonabdpbmjaa.Sp
