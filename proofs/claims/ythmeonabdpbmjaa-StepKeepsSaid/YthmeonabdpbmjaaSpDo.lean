/- The walk of step.Do: what an instruction does. Written by gen2.py. -/
import Derived.Test.YthmeonabdpbmjaaSpSt
import Derived.Test.YthmeonabdpbmjaaWrW
import Derived.Deep.RegionHeld3
import Derived.Deep.DeepCutAuto
import Derived.Deep.CutBlock
import Derived.Deep.RegionWith
namespace Go.Proofs.Ythmeonabdpbmjaa.Sp
open Go.RowKit Go.Proofs.Ythmeonabdpbmjaa.Wr
set_option linter.unusedVariables false
set_option linter.unusedSimpArgs false

theorem file_get {W : World} {g : Nat} {R : Rg} (k : Nat) (hk : k < 8) (f0 : W.cell? ⟨g, 0, none⟩ = some (.int .i64 R.r0)) (f1 : W.cell? ⟨g, 1, none⟩ = some (.int .i64 R.r1)) (f2 : W.cell? ⟨g, 2, none⟩ = some (.int .i64 R.r2)) (f3 : W.cell? ⟨g, 3, none⟩ = some (.int .i64 R.r3)) (f4 : W.cell? ⟨g, 4, none⟩ = some (.int .i64 R.r4)) (f5 : W.cell? ⟨g, 5, none⟩ = some (.int .i64 R.r5)) (f6 : W.cell? ⟨g, 6, none⟩ = some (.int .i64 R.r6)) (f7 : W.cell? ⟨g, 7, none⟩ = some (.int .i64 R.r7)) :
    W.cell? ⟨g, k, none⟩ = some (.int .i64 (R.get k)) := by
  have e : k = 0 ∨ k = 1 ∨ k = 2 ∨ k = 3 ∨ k = 4 ∨ k = 5 ∨ k = 6 ∨ k = 7 := by omega
  rcases e with rfl | rfl | rfl | rfl | rfl | rfl | rfl | rfl <;> assumption

set_option maxRecDepth 100000 in
set_option maxHeartbeats 16000000 in
theorem do_go (op A B C pc : Int) (R : Rg) (w : World) :
    Calls Try.prog 8 #[.agg #[.int .i64 op, .int .i64 A, .int .i64 B, .int .i64 C], .int .i64 pc, .agg #[.int .i64 R.r0, .int .i64 R.r1, .int .i64 R.r2, .int .i64 R.r3, .int .i64 R.r4, .int .i64 R.r5, .int .i64 R.r6, .int .i64 R.r7]] w fun e w' => e = .returned (.tuple #[.int .i64 (doPc op A B C pc R), .agg #[.int .i64 (doRg op A B C R).r0, .int .i64 (doRg op A B C R).r1, .int .i64 (doRg op A B C R).r2, .int .i64 (doRg op A B C R).r3, .int .i64 (doRg op A B C R).r4, .int .i64 (doRg op A B C R).r5, .int .i64 (doRg op A B C R).r6, .int .i64 (doRg op A B C R).r7], .agg #[.int .i64 (doEf op A B C R).kind, .int .i64 (doEf op A B C R).at_, .int .i64 (doEf op A B C R).value, .int .i64 (doEf op A B C R).other, .int .i64 (doEf op A B C R).reg], .int .i64 (doFt op C R)]) ∧ Below w.heap.size w w' := by
  have hof := Lib.hid (fun w => of_any op A B C R w)
  have cK := Lib.hid (fun w => known_any op w)
  obtain ⟨k, hk, hk8⟩ : ∃ k : Nat, held A = (k : Int) ∧ k < 8 := ⟨(held A).toNat, by unfold held; omega, by unfold held; omega⟩
  have cH := Lib.hid (fun w => held_any A w)
  have cA := Lib.hid (fun w => at_any R A w)
  have cB := Lib.hid (fun w => at_any R B w)
  have cC := Lib.hid (fun w => at_any R C w)
  have cD := Lib.hid (fun w => do_any op (R.at B) (R.at C) w)
  have HPC := Lib.hid (show doPc op A B C pc R = if faults op (R.at C) = true then pc else goN op A B pc (R.at A) from rfl)
  have HRG := Lib.hid (show doRg op A B C R = if faults op (R.at C) = true then R else goR op A B R (R.at B) (R.at C) from rfl)
  have HEF := Lib.hid (show doEf op A B C R = if faults op (R.at C) = true then noEf else ofE op A (R.at A) (R.at B) (R.at C) (held A) from rfl)
  have HFT := Lib.hid (show doFt op C R = if faults op (R.at C) = true then doF op (R.at C) else 0 from rfl)
  generalize doPc op A B C pc R = PC at *
  generalize doRg op A B C R = RG at *
  generalize doEf op A B C R = EF at *
  generalize doFt op C R = FT at *
  have HE := Lib.hid (show ofE op A (R.at A) (R.at B) (R.at C) (held A) = ofE op A (R.at A) (R.at B) (R.at C) (held A) from rfl)
  generalize hE : ofE op A (R.at A) (R.at B) (R.at C) (held A) = E at hof HEF HE
  clear hE HE
  have HK := Lib.hid hk
  rw [hk] at cH
  clear hk
  generalize R.at A = a at *
  generalize R.at B = b at *
  generalize R.at C = c at *
  obtain ⟨NX, hNX⟩ : ∃ N, Hid (N = goN op A B pc a) := ⟨_, Lib.hid rfl⟩
  obtain ⟨F, hF⟩ : ∃ N, Hid (N = goR op A B R b c) := ⟨_, Lib.hid rfl⟩
  go_enter Try.func8, Try.ntmps8
  go_upto_block 0 with fail
  have HW := Lie.born w #[.int .i64 op, .int .i64 A, .int .i64 B, .int .i64 C] R 23 24 24 27 43
  unfold Rg.arr Z8 Z5 at HW
  generalize hW : ((((w.alloc (.cells #[.int .i64 op, .int .i64 A, .int .i64 B, .int .i64 C] 23)).alloc (.cells #[.int .i64 R.r0, .int .i64 R.r1, .int .i64 R.r2, .int .i64 R.r3, .int .i64 R.r4, .int .i64 R.r5, .int .i64 R.r6, .int .i64 R.r7] 24)).alloc (.cells #[.int .i64 0, .int .i64 0, .int .i64 0, .int .i64 0, .int .i64 0, .int .i64 0, .int .i64 0, .int .i64 0] 24)).alloc (.cells #[.int .i64 0, .int .i64 0, .int .i64 0, .int .i64 0, .int .i64 0] 27)).alloc (.cells #[.int .i64 R.r0, .int .i64 R.r1, .int .i64 R.r2, .int .i64 R.r3, .int .i64 R.r4, .int .i64 R.r5, .int .i64 R.r6, .int .i64 R.r7] 43) = W at *
  generalize hg4 : w.heap.size + 1 + 1 + 1 + 1 = g4 at *
  generalize hg3 : w.heap.size + 1 + 1 + 1 = g3 at *
  generalize hg2 : w.heap.size + 1 + 1 = g2 at *
  generalize hg1 : w.heap.size + 1 = g1 at *
  generalize hg : w.heap.size = g at *
  clear hW hg1 hg2 hg3 hg4
  go_cut [11] (fun s11 wx => s11 = .int .i64 NX ∧ faults op c = false ∧ Lie w g g1 g2 g3 g4 #[.int .i64 op, .int .i64 A, .int .i64 B, .int .i64 C] R F wx)
  case first =>
    have x0 : W.cell? ⟨g, 0, none⟩ = some (.int .i64 op) := HW.x 0
    have x1 : W.cell? ⟨g, 1, none⟩ = some (.int .i64 A) := HW.x 1
    have x2 : W.cell? ⟨g, 2, none⟩ = some (.int .i64 B) := HW.x 2
    have x3 : W.cell? ⟨g, 3, none⟩ = some (.int .i64 C) := HW.x 3
    have f0 : W.cell? ⟨g4, 0, none⟩ = some (.int .i64 R.r0) := HW.f 0
    have f1 : W.cell? ⟨g4, 1, none⟩ = some (.int .i64 R.r1) := HW.f 1
    have f2 : W.cell? ⟨g4, 2, none⟩ = some (.int .i64 R.r2) := HW.f 2
    have f3 : W.cell? ⟨g4, 3, none⟩ = some (.int .i64 R.r3) := HW.f 3
    have f4 : W.cell? ⟨g4, 4, none⟩ = some (.int .i64 R.r4) := HW.f 4
    have f5 : W.cell? ⟨g4, 5, none⟩ = some (.int .i64 R.r5) := HW.f 5
    have f6 : W.cell? ⟨g4, 6, none⟩ = some (.int .i64 R.r6) := HW.f 6
    have f7 : W.cell? ⟨g4, 7, none⟩ = some (.int .i64 R.r7) := HW.f 7
    have F4 := HW.fr4
    have k04 : g ≠ g4 := by have q1 := HW.o1; have q2 := HW.o2; have q3 := HW.o3; have q4 := HW.o4; omega
    have l0 : g < W.heap.size := by have q1 := HW.o1; have q2 := HW.o2; have q3 := HW.o3; have q4 := HW.o4; have ql := HW.l; omega
    have l4 : g4 < W.heap.size := HW.l
    have k14 : g1 ≠ g4 := by have q1 := HW.o1; have q2 := HW.o2; have q3 := HW.o3; have q4 := HW.o4; omega
    have fk := file_get k hk8 f0 f1 f2 f3 f4 f5 f6 f7
    have hk8' : (k : Int) < 8 := by omega
    clear hof
    by_cases h1 : op = 1
    · subst h1
      obtain rfl : NX = wrap64 (pc + 1) := by rw [hNX.out]; simp [goN]
      obtain rfl : F = R.set k B := by rw [hF.out]; simp [goR, HK.out]
      clear hNX hF
      go_upto_region 3 with fail
      go_region_held3 (fun w' => w'.cell? ⟨g, 1, none⟩ = some (.int .i64 A) ∧ w'.cell? ⟨g, 2, none⟩ = some (.int .i64 B))
        (((try dsimp only); (try go_split_ands); (repeat' apply And.intro) <;> (repeat (first | (with_reducible assumption) | (with_reducible refine kc ?_) | (with_reducible refine kd ?_) | (with_reducible refine ks (by first | assumption | exact Ne.symm (by assumption)) ?_) | (refine kb (by with_reducible assumption) (by assumption) ?_)))))
        (first | (go_at_call 15; refine (cH.out _).mono ?_; rintro e w' ⟨rfl, rfl⟩))
      all_goals (go_wp2_with fail; go_meet)
      all_goals exact ⟨rfl, by simp [faults], (by repeat (first | (with_reducible exact HW) | (with_reducible refine Lie.drew ?_) | (with_reducible refine Lie.drewN ?_ _) | (with_reducible refine Lie.alloc ?_ _) | (refine Lie.set ?_ k hk8 _)))⟩
    have n1 : (op == 1) = false := by simp [h1]
    by_cases h2 : op = 2
    · subst h2
      obtain rfl : NX = wrap64 (pc + 1) := by rw [hNX.out]; simp [goN]
      obtain rfl : F = R.set k b := by rw [hF.out]; simp [goR, HK.out]
      clear hNX hF
      go_upto_region 5 with fail
      go_region_with (first | (go_at_call 15; refine (cH.out _).mono ?_; rintro e w' ⟨rfl, rfl⟩) | (go_at_call 16; refine (cB.out _).mono ?_; rintro e w' ⟨rfl, rfl⟩))
      all_goals (go_wp2_with fail; go_meet)
      all_goals exact ⟨rfl, by simp [faults], (by repeat (first | (with_reducible exact HW) | (with_reducible refine Lie.drew ?_) | (with_reducible refine Lie.drewN ?_ _) | (with_reducible refine Lie.alloc ?_ _) | (refine Lie.set ?_ k hk8 _)))⟩
    have n2 : (op == 2) = false := by simp [h2]
    by_cases hk : 3 ≤ op ∧ op ≤ 12
    · have nk : decide (3 ≤ op ∧ op ≤ 12) = true := by simp [hk]
      obtain rfl : NX = wrap64 (pc + 1) := by rw [hNX.out]; simp only [goN]; rw [if_neg (by omega), if_neg (by omega)]
      obtain rfl : F = R.set k (doV op b c) := by rw [hF.out]; simp only [goR]; rw [if_neg h1, if_neg h2, if_pos hk, HK.out]
      have hfe : faults op c = (doF op c != 0) := by simp only [faults, nk, Bool.true_and]
      clear hNX hF hk
      generalize doV op b c = v at *
      generalize doF op c = ft at *
      go_upto_region 7 with (first | (go_at_call 17; refine (cK.out _).mono ?_; rintro e w' ⟨rfl, rfl⟩))
      go_cut [12, 13] (fun s12 s13 wx => s12 = .int .i64 v ∧ s13 = .int .i64 ft ∧ Lie w g g1 g2 g3 g4 #[.int .i64 op, .int .i64 A, .int .i64 B, .int .i64 C] R R wx)
      case first =>
        go_region_held3 (fun w' => w'.cell? ⟨g, 0, none⟩ = some (.int .i64 op) ∧ w'.cell? ⟨g, 2, none⟩ = some (.int .i64 B) ∧ w'.cell? ⟨g, 3, none⟩ = some (.int .i64 C) ∧ w'.cell? ⟨g4, 0, none⟩ = some (.int .i64 R.r0) ∧ w'.cell? ⟨g4, 1, none⟩ = some (.int .i64 R.r1) ∧ w'.cell? ⟨g4, 2, none⟩ = some (.int .i64 R.r2) ∧ w'.cell? ⟨g4, 3, none⟩ = some (.int .i64 R.r3) ∧ w'.cell? ⟨g4, 4, none⟩ = some (.int .i64 R.r4) ∧ w'.cell? ⟨g4, 5, none⟩ = some (.int .i64 R.r5) ∧ w'.cell? ⟨g4, 6, none⟩ = some (.int .i64 R.r6) ∧ w'.cell? ⟨g4, 7, none⟩ = some (.int .i64 R.r7))
          (((try dsimp only); (try go_split_ands); (repeat' apply And.intro) <;> (repeat (first | (with_reducible assumption) | (with_reducible refine kc ?_) | (with_reducible refine kd ?_) | (with_reducible refine ks (by first | assumption | exact Ne.symm (by assumption)) ?_) | (refine kb (by with_reducible assumption) (by assumption) ?_)))))
          (first | (go_at_call 16; refine (cB.out _).mono ?_; rintro e w' ⟨rfl, rfl⟩) | (go_at_call 16; refine (cC.out _).mono ?_; rintro e w' ⟨rfl, rfl⟩) | (go_at_call 18; refine (cD.out _).mono ?_; rintro e w' ⟨rfl, rfl⟩))
        all_goals (go_wp2_with fail; go_meet)
        all_goals exact ⟨rfl, rfl, (by repeat (first | (with_reducible exact HW) | (with_reducible refine Lie.drew ?_) | (with_reducible refine Lie.drewN ?_ _) | (with_reducible refine Lie.alloc ?_ _) | (refine Lie.set ?_ k hk8 _)))⟩
      case rest =>
        obtain ⟨rfl, rfl, HX⟩ := hcut
        clear x0 x1 x2 x3 f0 f1 f2 f3 f4 f5 f6 f7 F4 fk l0 l4 HW
        have x0 : wc.cell? ⟨g, 0, none⟩ = some (.int .i64 op) := HX.x 0
        have x1 : wc.cell? ⟨g, 1, none⟩ = some (.int .i64 A) := HX.x 1
        have x2 : wc.cell? ⟨g, 2, none⟩ = some (.int .i64 B) := HX.x 2
        have x3 : wc.cell? ⟨g, 3, none⟩ = some (.int .i64 C) := HX.x 3
        have p0 : wc.cell? ⟨g1, 0, none⟩ = some (.int .i64 R.r0) := HX.p 0
        have p1 : wc.cell? ⟨g1, 1, none⟩ = some (.int .i64 R.r1) := HX.p 1
        have p2 : wc.cell? ⟨g1, 2, none⟩ = some (.int .i64 R.r2) := HX.p 2
        have p3 : wc.cell? ⟨g1, 3, none⟩ = some (.int .i64 R.r3) := HX.p 3
        have p4 : wc.cell? ⟨g1, 4, none⟩ = some (.int .i64 R.r4) := HX.p 4
        have p5 : wc.cell? ⟨g1, 5, none⟩ = some (.int .i64 R.r5) := HX.p 5
        have p6 : wc.cell? ⟨g1, 6, none⟩ = some (.int .i64 R.r6) := HX.p 6
        have p7 : wc.cell? ⟨g1, 7, none⟩ = some (.int .i64 R.r7) := HX.p 7
        have f0 : wc.cell? ⟨g4, 0, none⟩ = some (.int .i64 R.r0) := HX.f 0
        have f1 : wc.cell? ⟨g4, 1, none⟩ = some (.int .i64 R.r1) := HX.f 1
        have f2 : wc.cell? ⟨g4, 2, none⟩ = some (.int .i64 R.r2) := HX.f 2
        have f3 : wc.cell? ⟨g4, 3, none⟩ = some (.int .i64 R.r3) := HX.f 3
        have f4 : wc.cell? ⟨g4, 4, none⟩ = some (.int .i64 R.r4) := HX.f 4
        have f5 : wc.cell? ⟨g4, 5, none⟩ = some (.int .i64 R.r5) := HX.f 5
        have f6 : wc.cell? ⟨g4, 6, none⟩ = some (.int .i64 R.r6) := HX.f 6
        have f7 : wc.cell? ⟨g4, 7, none⟩ = some (.int .i64 R.r7) := HX.f 7
        have F4 := HX.fr4
        have l0 : g < wc.heap.size := by have q1 := HX.o1; have q2 := HX.o2; have q3 := HX.o3; have q4 := HX.o4; have ql := HX.l; omega
        have l4 : g4 < wc.heap.size := HX.l
        have fk := file_get k hk8 f0 f1 f2 f3 f4 f5 f6 f7
        by_cases hft : ft = 0
        · subst hft
          have hf0 : faults op c = false := by rw [hfe]; rfl
          clear HPC HRG HEF HFT hfe p0 p1 p2 p3 p4 p5 p6 p7
          go_wp2_with (first | (go_at_call 15; refine (cH.out _).mono ?_; rintro e w' ⟨rfl, rfl⟩))
          all_goals go_meet
          all_goals exact ⟨rfl, hf0, (by repeat (first | (with_reducible exact HX) | (with_reducible refine Lie.drew ?_) | (with_reducible refine Lie.drewN ?_ _) | (with_reducible refine Lie.alloc ?_ _) | (refine Lie.set ?_ k hk8 _)))⟩
        · have nft : (ft == 0) = false := by simp [hft]
          have hf1 : faults op c = true := by rw [hfe]; simp [hft]
          obtain rfl : PC = pc := by rw [HPC.out, hf1]; rfl
          obtain rfl : RG = R := by rw [HRG.out, hf1]; rfl
          obtain rfl : EF = noEf := by rw [HEF.out, hf1]; rfl
          obtain rfl : FT = ft := by rw [HFT.out, hf1]; rfl
          clear HPC HRG HEF HFT hfe hf1
          have y0 : wc.cell? ⟨g2, 0, none⟩ = some (.int .i64 0) := HX.y 0
          have y1 : wc.cell? ⟨g2, 1, none⟩ = some (.int .i64 0) := HX.y 1
          have y2 : wc.cell? ⟨g2, 2, none⟩ = some (.int .i64 0) := HX.y 2
          have y3 : wc.cell? ⟨g2, 3, none⟩ = some (.int .i64 0) := HX.y 3
          have y4 : wc.cell? ⟨g2, 4, none⟩ = some (.int .i64 0) := HX.y 4
          have y5 : wc.cell? ⟨g2, 5, none⟩ = some (.int .i64 0) := HX.y 5
          have y6 : wc.cell? ⟨g2, 6, none⟩ = some (.int .i64 0) := HX.y 6
          have y7 : wc.cell? ⟨g2, 7, none⟩ = some (.int .i64 0) := HX.y 7
          have z0 : wc.cell? ⟨g3, 0, none⟩ = some (.int .i64 0) := HX.z 0
          have z1 : wc.cell? ⟨g3, 1, none⟩ = some (.int .i64 0) := HX.z 1
          have z2 : wc.cell? ⟨g3, 2, none⟩ = some (.int .i64 0) := HX.z 2
          have z3 : wc.cell? ⟨g3, 3, none⟩ = some (.int .i64 0) := HX.z 3
          have z4 : wc.cell? ⟨g3, 4, none⟩ = some (.int .i64 0) := HX.z 4
          have fr2 := HX.fr2
          have fr3 := HX.fr3
          have BW := HX.bw
          have b2 : w.heap.size ≤ g2 := by have q1 := HX.o1; have q2 := HX.o2; have q := HX.b; omega
          have b3 : w.heap.size ≤ g3 := by have q1 := HX.o1; have q2 := HX.o2; have q3 := HX.o3; have q := HX.b; omega
          have n23 : g2 ≠ g3 := by have q3 := HX.o3; omega
          have n12 : g1 ≠ g2 := by have q3 := HX.o2; omega
          have n13 : g1 ≠ g3 := by have q2 := HX.o2; have q3 := HX.o3; omega
          clear HX
          go_upto_region 9 with fail
          go_region
          all_goals
            go_wp2_with fail
            exact bodyPost_ret (v := .tuple #[.int .i64 PC, .agg #[.int .i64 RG.r0, .int .i64 RG.r1, .int .i64 RG.r2, .int .i64 RG.r3, .int .i64 RG.r4, .int .i64 RG.r5, .int .i64 RG.r6, .int .i64 RG.r7], .agg #[.int .i64 noEf.kind, .int .i64 noEf.at_, .int .i64 noEf.value, .int .i64 noEf.other, .int .i64 noEf.reg], .int .i64 FT]) (by simp [results, Try.results8, go_sem, y0, y1, y2, y3, y4, y5, y6, y7, z0, z1, z2, z3, z4, fr2, fr3, n23, n23.symm]; trivial) rfl ⟨rfl, by repeat (first | (with_reducible exact BW) | (with_reducible refine Below.setCell ?_ b2 _) | (with_reducible refine Below.setCell ?_ b3 _) | (with_reducible refine Below.drew ?_))⟩
    have nk : decide (3 ≤ op ∧ op ≤ 12) = false := by simp [hk]
    obtain rfl : F = R := by rw [hF.out]; simp only [goR]; rw [if_neg h1, if_neg h2, if_neg hk]
    have hfl : faults op c = false := by simp only [faults, nk, Bool.false_and]
    by_cases h18 : op = 18
    · subst h18
      obtain rfl : NX = A := by rw [hNX.out]; simp [goN]
      clear hNX hF
      go_wp2_with (first | (go_at_call 17; refine (cK.out _).mono ?_; rintro e w' ⟨rfl, rfl⟩))
      all_goals go_meet
      all_goals exact ⟨rfl, hfl, (by repeat (first | (with_reducible exact HW) | (with_reducible refine Lie.drew ?_) | (with_reducible refine Lie.drewN ?_ _) | (with_reducible refine Lie.alloc ?_ _) | (refine Lie.set ?_ k hk8 _)))⟩
    have n18 : (op == 18) = false := by simp [h18]
    by_cases h19 : op = 19
    · subst h19
      have q0 : ∀ (x : Int), x = 0 → (x == 0) = true := fun x h => by simp [h]
      by_cases ha : a = 0
      · subst ha
        obtain rfl : NX = B := by rw [hNX.out]; simp [goN]
        clear hNX hF
        go_upto_region 13 with (first | (go_at_call 17; refine (cK.out _).mono ?_; rintro e w' ⟨rfl, rfl⟩))
        go_wp2_with (first | (go_at_call 16; refine (cA.out _).mono ?_; rintro e w' ⟨rfl, rfl⟩))
        all_goals go_meet
        all_goals exact ⟨rfl, hfl, (by repeat (first | (with_reducible exact HW) | (with_reducible refine Lie.drew ?_) | (with_reducible refine Lie.drewN ?_ _) | (with_reducible refine Lie.alloc ?_ _) | (refine Lie.set ?_ k hk8 _)))⟩
      · have na : (a == 0) = false := by simp [ha]
        obtain rfl : NX = wrap64 (pc + 1) := by rw [hNX.out]; simp [goN, ha]
        clear hNX hF
        go_upto_region 13 with (first | (go_at_call 17; refine (cK.out _).mono ?_; rintro e w' ⟨rfl, rfl⟩))
        go_wp2_with (first | (go_at_call 16; refine (cA.out _).mono ?_; rintro e w' ⟨rfl, rfl⟩))
        all_goals go_meet
        all_goals exact ⟨rfl, hfl, (by repeat (first | (with_reducible exact HW) | (with_reducible refine Lie.drew ?_) | (with_reducible refine Lie.drewN ?_ _) | (with_reducible refine Lie.alloc ?_ _) | (refine Lie.set ?_ k hk8 _)))⟩
    have n19 : (op == 19) = false := by simp [h19]
    obtain rfl : NX = wrap64 (pc + 1) := by rw [hNX.out]; simp [goN, h18, h19]
    clear hNX hF
    go_wp2_with (first | (go_at_call 17; refine (cK.out _).mono ?_; rintro e w' ⟨rfl, rfl⟩))
    all_goals go_meet
    all_goals exact ⟨rfl, hfl, (by repeat (first | (with_reducible exact HW) | (with_reducible refine Lie.drew ?_) | (with_reducible refine Lie.drewN ?_ _) | (with_reducible refine Lie.alloc ?_ _) | (refine Lie.set ?_ k hk8 _)))⟩
  case rest =>
    obtain ⟨rfl, hf, HL⟩ := hcut
    obtain rfl : PC = NX := by rw [HPC.out, hNX.out, hf]; rfl
    obtain rfl : RG = F := by rw [HRG.out, hF.out, hf]; rfl
    obtain rfl : EF = E := by rw [HEF.out, hf]; rfl
    obtain rfl : FT = 0 := by rw [HFT.out, hf]; rfl
    clear HPC HRG HEF HFT hNX hF hf HW HK
    have x0 : wc.cell? ⟨g, 0, none⟩ = some (.int .i64 op) := HL.x 0
    have x1 : wc.cell? ⟨g, 1, none⟩ = some (.int .i64 A) := HL.x 1
    have x2 : wc.cell? ⟨g, 2, none⟩ = some (.int .i64 B) := HL.x 2
    have x3 : wc.cell? ⟨g, 3, none⟩ = some (.int .i64 C) := HL.x 3
    have p0 : wc.cell? ⟨g1, 0, none⟩ = some (.int .i64 R.r0) := HL.p 0
    have p1 : wc.cell? ⟨g1, 1, none⟩ = some (.int .i64 R.r1) := HL.p 1
    have p2 : wc.cell? ⟨g1, 2, none⟩ = some (.int .i64 R.r2) := HL.p 2
    have p3 : wc.cell? ⟨g1, 3, none⟩ = some (.int .i64 R.r3) := HL.p 3
    have p4 : wc.cell? ⟨g1, 4, none⟩ = some (.int .i64 R.r4) := HL.p 4
    have p5 : wc.cell? ⟨g1, 5, none⟩ = some (.int .i64 R.r5) := HL.p 5
    have p6 : wc.cell? ⟨g1, 6, none⟩ = some (.int .i64 R.r6) := HL.p 6
    have p7 : wc.cell? ⟨g1, 7, none⟩ = some (.int .i64 R.r7) := HL.p 7
    have y0 : wc.cell? ⟨g2, 0, none⟩ = some (.int .i64 0) := HL.y 0
    have y1 : wc.cell? ⟨g2, 1, none⟩ = some (.int .i64 0) := HL.y 1
    have y2 : wc.cell? ⟨g2, 2, none⟩ = some (.int .i64 0) := HL.y 2
    have y3 : wc.cell? ⟨g2, 3, none⟩ = some (.int .i64 0) := HL.y 3
    have y4 : wc.cell? ⟨g2, 4, none⟩ = some (.int .i64 0) := HL.y 4
    have y5 : wc.cell? ⟨g2, 5, none⟩ = some (.int .i64 0) := HL.y 5
    have y6 : wc.cell? ⟨g2, 6, none⟩ = some (.int .i64 0) := HL.y 6
    have y7 : wc.cell? ⟨g2, 7, none⟩ = some (.int .i64 0) := HL.y 7
    have z0 : wc.cell? ⟨g3, 0, none⟩ = some (.int .i64 0) := HL.z 0
    have z1 : wc.cell? ⟨g3, 1, none⟩ = some (.int .i64 0) := HL.z 1
    have z2 : wc.cell? ⟨g3, 2, none⟩ = some (.int .i64 0) := HL.z 2
    have z3 : wc.cell? ⟨g3, 3, none⟩ = some (.int .i64 0) := HL.z 3
    have z4 : wc.cell? ⟨g3, 4, none⟩ = some (.int .i64 0) := HL.z 4
    have f0 : wc.cell? ⟨g4, 0, none⟩ = some (.int .i64 RG.r0) := HL.f 0
    have f1 : wc.cell? ⟨g4, 1, none⟩ = some (.int .i64 RG.r1) := HL.f 1
    have f2 : wc.cell? ⟨g4, 2, none⟩ = some (.int .i64 RG.r2) := HL.f 2
    have f3 : wc.cell? ⟨g4, 3, none⟩ = some (.int .i64 RG.r3) := HL.f 3
    have f4 : wc.cell? ⟨g4, 4, none⟩ = some (.int .i64 RG.r4) := HL.f 4
    have f5 : wc.cell? ⟨g4, 5, none⟩ = some (.int .i64 RG.r5) := HL.f 5
    have f6 : wc.cell? ⟨g4, 6, none⟩ = some (.int .i64 RG.r6) := HL.f 6
    have f7 : wc.cell? ⟨g4, 7, none⟩ = some (.int .i64 RG.r7) := HL.f 7
    have fr2 := HL.fr2
    have fr3 := HL.fr3
    have BW := HL.bw
    have l2 : g2 < wc.heap.size := by have q3 := HL.o3; have q4 := HL.o4; have ql := HL.l; omega
    have l3 : g3 < wc.heap.size := by have q4 := HL.o4; have ql := HL.l; omega
    have b2 : w.heap.size ≤ g2 := by have q1 := HL.o1; have q2 := HL.o2; have q := HL.b; omega
    have b3 : w.heap.size ≤ g3 := by have q1 := HL.o1; have q2 := HL.o2; have q3 := HL.o3; have q := HL.b; omega
    have n23 : g2 ≠ g3 := by have q3 := HL.o3; omega
    have l0 : g < wc.heap.size := by have q1 := HL.o1; have q2 := HL.o2; have q3 := HL.o3; have q4 := HL.o4; have ql := HL.l; omega
    have l1 : g1 < wc.heap.size := by have q1 := HL.o1; have q2 := HL.o2; have q3 := HL.o3; have q4 := HL.o4; have ql := HL.l; omega
    have l4 : g4 < wc.heap.size := by have q1 := HL.o1; have q2 := HL.o2; have q3 := HL.o3; have q4 := HL.o4; have ql := HL.l; omega
    have n24 : g2 ≠ g4 := by have q1 := HL.o1; have q2 := HL.o2; have q3 := HL.o3; have q4 := HL.o4; omega
    have n34 : g3 ≠ g4 := by have q1 := HL.o1; have q2 := HL.o2; have q3 := HL.o3; have q4 := HL.o4; omega
    have ng2 : g ≠ g2 := by have q1 := HL.o1; have q2 := HL.o2; have q3 := HL.o3; have q4 := HL.o4; omega
    have ng3 : g ≠ g3 := by have q1 := HL.o1; have q2 := HL.o2; have q3 := HL.o3; have q4 := HL.o4; omega
    have n12 : g1 ≠ g2 := by have q1 := HL.o1; have q2 := HL.o2; have q3 := HL.o3; have q4 := HL.o4; omega
    have n13 : g1 ≠ g3 := by have q1 := HL.o1; have q2 := HL.o2; have q3 := HL.o3; have q4 := HL.o4; omega
    clear HL
    go_upto_region 15 with fail
    go_region_held3 (fun w' => w'.cell? ⟨g, 0, none⟩ = some (.int .i64 op) ∧ w'.cell? ⟨g, 1, none⟩ = some (.int .i64 A) ∧ w'.cell? ⟨g, 2, none⟩ = some (.int .i64 B) ∧ w'.cell? ⟨g, 3, none⟩ = some (.int .i64 C) ∧ w'.cell? ⟨g1, 0, none⟩ = some (.int .i64 R.r0) ∧ w'.cell? ⟨g1, 1, none⟩ = some (.int .i64 R.r1) ∧ w'.cell? ⟨g1, 2, none⟩ = some (.int .i64 R.r2) ∧ w'.cell? ⟨g1, 3, none⟩ = some (.int .i64 R.r3) ∧ w'.cell? ⟨g1, 4, none⟩ = some (.int .i64 R.r4) ∧ w'.cell? ⟨g1, 5, none⟩ = some (.int .i64 R.r5) ∧ w'.cell? ⟨g1, 6, none⟩ = some (.int .i64 R.r6) ∧ w'.cell? ⟨g1, 7, none⟩ = some (.int .i64 R.r7) ∧ w'.cell? ⟨g4, 0, none⟩ = some (.int .i64 RG.r0) ∧ w'.cell? ⟨g4, 1, none⟩ = some (.int .i64 RG.r1) ∧ w'.cell? ⟨g4, 2, none⟩ = some (.int .i64 RG.r2) ∧ w'.cell? ⟨g4, 3, none⟩ = some (.int .i64 RG.r3) ∧ w'.cell? ⟨g4, 4, none⟩ = some (.int .i64 RG.r4) ∧ w'.cell? ⟨g4, 5, none⟩ = some (.int .i64 RG.r5) ∧ w'.cell? ⟨g4, 6, none⟩ = some (.int .i64 RG.r6) ∧ w'.cell? ⟨g4, 7, none⟩ = some (.int .i64 RG.r7))
      (((try dsimp only); (try go_split_ands); (repeat' apply And.intro) <;> (repeat (first | (with_reducible assumption) | (with_reducible refine kc ?_) | (with_reducible refine kd ?_) | (with_reducible refine ks (by first | assumption | exact Ne.symm (by assumption)) ?_) | (refine kb (by with_reducible assumption) (by assumption) ?_)))))
      (first | (go_at_call 19; refine (hof.out _).mono ?_; rintro e w1 ⟨rfl, hb1⟩; have Y0 := kb hb1 l2 y0; have Y1 := kb hb1 l2 y1; have Y2 := kb hb1 l2 y2; have Y3 := kb hb1 l2 y3; have Y4 := kb hb1 l2 y4; have Y5 := kb hb1 l2 y5; have Y6 := kb hb1 l2 y6; have Y7 := kb hb1 l2 y7; have Z0 := kb hb1 l3 z0; have Z1 := kb hb1 l3 z1; have Z2 := kb hb1 l3 z2; have Z3 := kb hb1 l3 z3; have Z4 := kb hb1 l3 z4; have F2 := fun n => kz hb1 l2 (fr2 n); have F3 := fun n => kz hb1 l3 (fr3 n)))
    all_goals
      have HB : Below w.heap.size w w1 := by first | exact BW.drew.trans (hb1.mono BW.size) | exact BW.drew.drew.trans (hb1.mono BW.size)
      go_wp2_with fail
      exact bodyPost_ret (v := .tuple #[.int .i64 PC, .agg #[.int .i64 RG.r0, .int .i64 RG.r1, .int .i64 RG.r2, .int .i64 RG.r3, .int .i64 RG.r4, .int .i64 RG.r5, .int .i64 RG.r6, .int .i64 RG.r7], .agg #[.int .i64 EF.kind, .int .i64 EF.at_, .int .i64 EF.value, .int .i64 EF.other, .int .i64 EF.reg], .int .i64 0]) (by simp [results, Try.results8, go_sem, Y0, Y1, Y2, Y3, Y4, Y5, Y6, Y7, Z0, Z1, Z2, Z3, Z4, F2, F3, n23, n23.symm]) rfl ⟨rfl, by repeat (first | (with_reducible exact HB) | (with_reducible refine Below.setCell ?_ b2 _) | (with_reducible refine Below.setCell ?_ b3 _) | (with_reducible refine Below.drew ?_))⟩

end Go.Proofs.Ythmeonabdpbmjaa.Sp
