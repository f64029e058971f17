/- The walk of step.of: what an instruction asks. -/
import Derived.Test.YthmeonabdpbmjaaSpW
import Derived.Deep.RegionHeld3
import Derived.Deep.DeepCutAuto
namespace Go.Proofs.Ythmeonabdpbmjaa.Sp
open Go.RowKit Go.Proofs.Ythmeonabdpbmjaa.Wr
set_option linter.unusedVariables false
set_option linter.unusedSimpArgs false

set_option maxHeartbeats 4000000 in
theorem of_any (op A B C : Int) (R : Rg) (w : World) :
    Calls Try.prog 19 #[.agg #[.int .i64 op, .int .i64 A, .int .i64 B, .int .i64 C], .agg #[.int .i64 R.r0, .int .i64 R.r1, .int .i64 R.r2, .int .i64 R.r3, .int .i64 R.r4, .int .i64 R.r5, .int .i64 R.r6, .int .i64 R.r7]] w fun e w' => e = .returned (.agg #[.int .i64 (ofE op A (R.at A) (R.at B) (R.at C) (held A)).kind, .int .i64 (ofE op A (R.at A) (R.at B) (R.at C) (held A)).at_, .int .i64 (ofE op A (R.at A) (R.at B) (R.at C) (held A)).value, .int .i64 (ofE op A (R.at A) (R.at B) (R.at C) (held A)).other, .int .i64 (ofE op A (R.at A) (R.at B) (R.at C) (held A)).reg]) ∧ Below w.heap.size w w' := by
  obtain ⟨a, ha⟩ : ∃ a, R.at A = a := ⟨_, rfl⟩
  obtain ⟨b, hb⟩ : ∃ a, R.at B = a := ⟨_, rfl⟩
  obtain ⟨c, hc⟩ : ∃ a, R.at C = a := ⟨_, rfl⟩
  rw [ha, hb, hc]
  go_enter Try.func19, Try.ntmps19
  go_upto_region 1 with fail
  generalize hW : ((w.alloc (.cells #[.int .i64 op, .int .i64 A, .int .i64 B, .int .i64 C] 23)).alloc (.cells #[.int .i64 R.r0, .int .i64 R.r1, .int .i64 R.r2, .int .i64 R.r3, .int .i64 R.r4, .int .i64 R.r5, .int .i64 R.r6, .int .i64 R.r7] 43)).alloc (.cells #[.int .i64 0, .int .i64 0, .int .i64 0, .int .i64 0, .int .i64 0] 27) = W
  generalize hg2 : w.heap.size + 1 + 1 = g2
  generalize hg1 : w.heap.size + 1 = g1
  generalize hg : w.heap.size = g
  have h0 : W.cell? ⟨g, 0, none⟩ = some (.int .i64 op) := by rw [← hW]; exact kc (kc (cell_new _ _ _ _ _ hg.symm))
  have h1 : W.cell? ⟨g, 1, none⟩ = some (.int .i64 A) := by rw [← hW]; exact kc (kc (cell_new _ _ _ _ _ hg.symm))
  have h2 : W.cell? ⟨g, 2, none⟩ = some (.int .i64 B) := by rw [← hW]; exact kc (kc (cell_new _ _ _ _ _ hg.symm))
  have h3 : W.cell? ⟨g, 3, none⟩ = some (.int .i64 C) := by rw [← hW]; exact kc (kc (cell_new _ _ _ _ _ hg.symm))
  have h4 : W.cell? ⟨g1, 0, none⟩ = some (.int .i64 R.r0) := by rw [← hW]; exact kc (cell_new _ _ _ _ _ (by rw [← hg1]; simp))
  have h5 : W.cell? ⟨g1, 1, none⟩ = some (.int .i64 R.r1) := by rw [← hW]; exact kc (cell_new _ _ _ _ _ (by rw [← hg1]; simp))
  have h6 : W.cell? ⟨g1, 2, none⟩ = some (.int .i64 R.r2) := by rw [← hW]; exact kc (cell_new _ _ _ _ _ (by rw [← hg1]; simp))
  have h7 : W.cell? ⟨g1, 3, none⟩ = some (.int .i64 R.r3) := by rw [← hW]; exact kc (cell_new _ _ _ _ _ (by rw [← hg1]; simp))
  have h8 : W.cell? ⟨g1, 4, none⟩ = some (.int .i64 R.r4) := by rw [← hW]; exact kc (cell_new _ _ _ _ _ (by rw [← hg1]; simp))
  have h9 : W.cell? ⟨g1, 5, none⟩ = some (.int .i64 R.r5) := by rw [← hW]; exact kc (cell_new _ _ _ _ _ (by rw [← hg1]; simp))
  have h10 : W.cell? ⟨g1, 6, none⟩ = some (.int .i64 R.r6) := by rw [← hW]; exact kc (cell_new _ _ _ _ _ (by rw [← hg1]; simp))
  have h11 : W.cell? ⟨g1, 7, none⟩ = some (.int .i64 R.r7) := by rw [← hW]; exact kc (cell_new _ _ _ _ _ (by rw [← hg1]; simp))
  have HW := Lib.hid hW
  have HG := Lib.hid hg
  have HG1 := Lib.hid hg1
  have HG2 := Lib.hid hg2
  clear hW hg hg1 hg2
  go_cut [5, 6, 7] (fun s5 s6 s7 wx => s5 = .int .i64 a ∧ s6 = .int .i64 b ∧ s7 = .int .i64 c ∧ Below W.heap.size W wx)
  case first =>
    go_region_held3 (fun w' => w'.cell? ⟨g, 0, none⟩ = some (.int .i64 op) ∧ w'.cell? ⟨g, 1, none⟩ = some (.int .i64 A) ∧ w'.cell? ⟨g, 2, none⟩ = some (.int .i64 B) ∧ w'.cell? ⟨g, 3, none⟩ = some (.int .i64 C) ∧ w'.cell? ⟨g1, 0, none⟩ = some (.int .i64 R.r0) ∧ w'.cell? ⟨g1, 1, none⟩ = some (.int .i64 R.r1) ∧ w'.cell? ⟨g1, 2, none⟩ = some (.int .i64 R.r2) ∧ w'.cell? ⟨g1, 3, none⟩ = some (.int .i64 R.r3) ∧ w'.cell? ⟨g1, 4, none⟩ = some (.int .i64 R.r4) ∧ w'.cell? ⟨g1, 5, none⟩ = some (.int .i64 R.r5) ∧ w'.cell? ⟨g1, 6, none⟩ = some (.int .i64 R.r6) ∧ w'.cell? ⟨g1, 7, none⟩ = some (.int .i64 R.r7))
      (((try dsimp only); (try go_split_ands); (repeat' apply And.intro) <;> (repeat (first | assumption | refine kc ?_ | refine kd ?_))))
      (first | (go_at_call 16; refine (at_any _ _ _).mono ?_; rintro e w' ⟨rfl, rfl⟩))
    all_goals (go_wp2_with fail; go_meet)
    all_goals exact ⟨rfl, rfl, rfl, (by repeat (first | exact Below.refl _ _ | refine Below.alloc ?_ (by simp; try omega) _ | refine Below.drew ?_))⟩
  case rest =>
    obtain ⟨rfl, rfl, rfl, hb1⟩ := hcut
    have hgw0 : W.heap.size = w.heap.size + 3 := by rw [← HW.out]; simp
    have hl2 : g2 < W.heap.size := by have := HG2.out; omega
    have hl1 : g1 < W.heap.size := by have := HG1.out; omega
    have hl : g < W.heap.size := by have := HG.out; omega
    have HBel : Below w.heap.size w wc := Below.trans (by rw [← HW.out]; exact (((Below.refl _ _).alloc (Nat.le_refl _) _).alloc (by simp) _).alloc (by simp; omega) _) (hb1.mono (by omega))
    have hgw : w.heap.size ≤ g2 := by have := HG2.out; omega
    have hsz : g < wc.heap.size := Nat.lt_of_lt_of_le hl hb1.size
    have hsz2 : g2 < wc.heap.size := Nat.lt_of_lt_of_le hl2 hb1.size
    have x0 : wc.cell? ⟨g, 0, none⟩ = some (.int .i64 op) := (hb1.cell (p := ⟨g, 0, none⟩) hl).trans h0
    have x1 : wc.cell? ⟨g, 1, none⟩ = some (.int .i64 A) := (hb1.cell (p := ⟨g, 1, none⟩) hl).trans h1
    have y0 : wc.cell? ⟨g2, 0, none⟩ = some (.int .i64 0) := (hb1.cell (p := ⟨g2, 0, none⟩) hl2).trans (by rw [← HW.out]; exact cell_new _ _ _ _ _ (by rw [← HG2.out]; simp))
    have y1 : wc.cell? ⟨g2, 1, none⟩ = some (.int .i64 0) := (hb1.cell (p := ⟨g2, 1, none⟩) hl2).trans (by rw [← HW.out]; exact cell_new _ _ _ _ _ (by rw [← HG2.out]; simp))
    have y2 : wc.cell? ⟨g2, 2, none⟩ = some (.int .i64 0) := (hb1.cell (p := ⟨g2, 2, none⟩) hl2).trans (by rw [← HW.out]; exact cell_new _ _ _ _ _ (by rw [← HG2.out]; simp))
    have y3 : wc.cell? ⟨g2, 3, none⟩ = some (.int .i64 0) := (hb1.cell (p := ⟨g2, 3, none⟩) hl2).trans (by rw [← HW.out]; exact cell_new _ _ _ _ _ (by rw [← HG2.out]; simp))
    have y4 : wc.cell? ⟨g2, 4, none⟩ = some (.int .i64 0) := (hb1.cell (p := ⟨g2, 4, none⟩) hl2).trans (by rw [← HW.out]; exact cell_new _ _ _ _ _ (by rw [← HG2.out]; simp))
    have z : ∀ n, wc.frozen? ⟨g2, n, none⟩ = false := fun n => (hb1.frozen (p := ⟨g2, n, none⟩) hl2).trans (by rw [← HW.out]; exact World.frozen?_alloc_at _ _ _ _ (by rw [← HG2.out]; simp))
    clear ha hb hc h0 h1 h2 h3 h4 h5 h6 h7 h8 h9 h10 h11 hb1 hgw0
    by_cases h13 : op = 13
    · subst h13
      go_wp2_with (first | (go_at_call 15; refine (held_any _ _).mono ?_; rintro e w' ⟨rfl, rfl⟩))
      exact bodyPost_ret (v := .agg #[.int .i64 1, .int .i64 b, .int .i64 0, .int .i64 0, .int .i64 (held A)]) (by simp [results, Try.results19, go_sem, y0, y1, y2, y3, y4, z]) rfl ⟨rfl, (by repeat (first | (with_reducible exact HBel) | (with_reducible refine Below.setCell ?_ hgw _) | (with_reducible refine Below.drew ?_)))⟩
    have n13 : (op == 13) = false := by simp [h13]
    by_cases h14 : op = 14
    · subst h14
      go_wp2_with (first | (go_at_call 15; refine (held_any _ _).mono ?_; rintro e w' ⟨rfl, rfl⟩))
      exact bodyPost_ret (v := .agg #[.int .i64 2, .int .i64 a, .int .i64 b, .int .i64 0, .int .i64 0]) (by simp [results, Try.results19, go_sem, y0, y1, y2, y3, y4, z]) rfl ⟨rfl, (by repeat (first | (with_reducible exact HBel) | (with_reducible refine Below.setCell ?_ hgw _) | (with_reducible refine Below.drew ?_)))⟩
    have n14 : (op == 14) = false := by simp [h14]
    by_cases h15 : op = 15
    · subst h15
      go_wp2_with (first | (go_at_call 15; refine (held_any _ _).mono ?_; rintro e w' ⟨rfl, rfl⟩))
      exact bodyPost_ret (v := .agg #[.int .i64 3, .int .i64 b, .int .i64 c, .int .i64 0, .int .i64 (held A)]) (by simp [results, Try.results19, go_sem, y0, y1, y2, y3, y4, z]) rfl ⟨rfl, (by repeat (first | (with_reducible exact HBel) | (with_reducible refine Below.setCell ?_ hgw _) | (with_reducible refine Below.drew ?_)))⟩
    have n15 : (op == 15) = false := by simp [h15]
    by_cases h16 : op = 16
    · subst h16
      go_wp2_with (first | (go_at_call 15; refine (held_any _ _).mono ?_; rintro e w' ⟨rfl, rfl⟩))
      exact bodyPost_ret (v := .agg #[.int .i64 4, .int .i64 b, .int .i64 a, .int .i64 c, .int .i64 (held A)]) (by simp [results, Try.results19, go_sem, y0, y1, y2, y3, y4, z]) rfl ⟨rfl, (by repeat (first | (with_reducible exact HBel) | (with_reducible refine Below.setCell ?_ hgw _) | (with_reducible refine Below.drew ?_)))⟩
    have n16 : (op == 16) = false := by simp [h16]
    by_cases h17 : op = 17
    · subst h17
      go_wp2_with (first | (go_at_call 15; refine (held_any _ _).mono ?_; rintro e w' ⟨rfl, rfl⟩))
      exact bodyPost_ret (v := .agg #[.int .i64 5, .int .i64 0, .int .i64 a, .int .i64 0, .int .i64 0]) (by simp [results, Try.results19, go_sem, y0, y1, y2, y3, y4, z]) rfl ⟨rfl, (by repeat (first | (with_reducible exact HBel) | (with_reducible refine Below.setCell ?_ hgw _) | (with_reducible refine Below.drew ?_)))⟩
    have n17 : (op == 17) = false := by simp [h17]
    by_cases h20 : op = 20
    · subst h20
      go_wp2_with (first | (go_at_call 15; refine (held_any _ _).mono ?_; rintro e w' ⟨rfl, rfl⟩))
      exact bodyPost_ret (v := .agg #[.int .i64 6, .int .i64 0, .int .i64 A, .int .i64 0, .int .i64 0]) (by simp [results, Try.results19, go_sem, y0, y1, y2, y3, y4, z]) rfl ⟨rfl, (by repeat (first | (with_reducible exact HBel) | (with_reducible refine Below.setCell ?_ hgw _) | (with_reducible refine Below.drew ?_)))⟩
    have n20 : (op == 20) = false := by simp [h20]
    by_cases h21 : op = 21
    · subst h21
      go_wp2_with (first | (go_at_call 15; refine (held_any _ _).mono ?_; rintro e w' ⟨rfl, rfl⟩))
      exact bodyPost_ret (v := .agg #[.int .i64 7, .int .i64 0, .int .i64 0, .int .i64 0, .int .i64 0]) (by simp [results, Try.results19, go_sem, y0, y1, y2, y3, y4, z]) rfl ⟨rfl, (by repeat (first | (with_reducible exact HBel) | (with_reducible refine Below.setCell ?_ hgw _) | (with_reducible refine Below.drew ?_)))⟩
    have n21 : (op == 21) = false := by simp [h21]
    by_cases h22 : op = 22
    · subst h22
      go_wp2_with (first | (go_at_call 15; refine (held_any _ _).mono ?_; rintro e w' ⟨rfl, rfl⟩))
      exact bodyPost_ret (v := .agg #[.int .i64 8, .int .i64 0, .int .i64 A, .int .i64 0, .int .i64 0]) (by simp [results, Try.results19, go_sem, y0, y1, y2, y3, y4, z]) rfl ⟨rfl, (by repeat (first | (with_reducible exact HBel) | (with_reducible refine Below.setCell ?_ hgw _) | (with_reducible refine Below.drew ?_)))⟩
    have n22 : (op == 22) = false := by simp [h22]
    by_cases h23 : op = 23
    · subst h23
      go_wp2_with (first | (go_at_call 15; refine (held_any _ _).mono ?_; rintro e w' ⟨rfl, rfl⟩))
      exact bodyPost_ret (v := .agg #[.int .i64 9, .int .i64 0, .int .i64 a, .int .i64 0, .int .i64 0]) (by simp [results, Try.results19, go_sem, y0, y1, y2, y3, y4, z]) rfl ⟨rfl, (by repeat (first | (with_reducible exact HBel) | (with_reducible refine Below.setCell ?_ hgw _) | (with_reducible refine Below.drew ?_)))⟩
    have n23 : (op == 23) = false := by simp [h23]
    by_cases h24 : op = 24
    · subst h24
      go_wp2_with (first | (go_at_call 15; refine (held_any _ _).mono ?_; rintro e w' ⟨rfl, rfl⟩))
      exact bodyPost_ret (v := .agg #[.int .i64 10, .int .i64 0, .int .i64 a, .int .i64 0, .int .i64 0]) (by simp [results, Try.results19, go_sem, y0, y1, y2, y3, y4, z]) rfl ⟨rfl, (by repeat (first | (with_reducible exact HBel) | (with_reducible refine Below.setCell ?_ hgw _) | (with_reducible refine Below.drew ?_)))⟩
    have n24 : (op == 24) = false := by simp [h24]
    by_cases h25 : op = 25
    · subst h25
      go_wp2_with (first | (go_at_call 15; refine (held_any _ _).mono ?_; rintro e w' ⟨rfl, rfl⟩))
      exact bodyPost_ret (v := .agg #[.int .i64 11, .int .i64 0, .int .i64 0, .int .i64 0, .int .i64 0]) (by simp [results, Try.results19, go_sem, y0, y1, y2, y3, y4, z]) rfl ⟨rfl, (by repeat (first | (with_reducible exact HBel) | (with_reducible refine Below.setCell ?_ hgw _) | (with_reducible refine Below.drew ?_)))⟩
    have n25 : (op == 25) = false := by simp [h25]
    by_cases h0 : op = 0
    · subst h0
      go_wp2_with (first | (go_at_call 15; refine (held_any _ _).mono ?_; rintro e w' ⟨rfl, rfl⟩))
      exact bodyPost_ret (v := .agg #[.int .i64 12, .int .i64 0, .int .i64 0, .int .i64 0, .int .i64 0]) (by simp [results, Try.results19, go_sem, y0, y1, y2, y3, y4, z]) rfl ⟨rfl, (by repeat (first | (with_reducible exact HBel) | (with_reducible refine Below.setCell ?_ hgw _) | (with_reducible refine Below.drew ?_)))⟩
    have n0 : (op == 0) = false := by simp [h0]
    have HE : Hid (ofE op A a b c (held A) = noEf) := by apply Lib.hid; simp [ofE, h13, h14, h15, h16, h17, h20, h21, h22, h23, h24, h25, h0]
    clear h13 h14 h15 h16 h17 h20 h21 h22 h23 h24 h25 h0
    go_wp2_with (first | (go_at_call 15; refine (held_any _ _).mono ?_; rintro e w' ⟨rfl, rfl⟩))
    exact bodyPost_ret (v := .agg #[.int .i64 0, .int .i64 0, .int .i64 0, .int .i64 0, .int .i64 0]) (by simp [results, Try.results19, go_sem, y0, y1, y2, y3, y4, z]) rfl ⟨by rw [HE.out]; rfl, (by repeat (first | (with_reducible exact HBel) | (with_reducible refine Below.setCell ?_ hgw _) | (with_reducible refine Below.drew ?_)))⟩

end Go.Proofs.Ythmeonabdpbmjaa.Sp
