/- For every input StepTook returns true, and its arguments read as they did. No conditions. -/
import Derived.Test.YthmeonabdpbmjaaSpTk
import Derived.Test.YthmeonabdpbmjaaSpWk
import Derived.Test.YthmeonabdpbmjaaSpO
namespace Go.Proofs.Ythmeonabdpbmjaa.StepTook
open Go.RowKit Go.Proofs.Ythmeonabdpbmjaa.Wr Go.Proofs.Ythmeonabdpbmjaa.Sp
set_option linter.unusedVariables false
set_option linter.unusedSimpArgs false

set_option maxRecDepth 100000 in
set_option maxHeartbeats 4000000 in
theorem walk0 (K n0 n1 n2 n3 got : Int) (R : Rg) (b1 b4 b7 b12 : Bool) (k1 : decide (1 ≤ K) = b1) (k4 : decide (K ≤ 4) = b4) (k7 : decide (7 ≤ K) = b7) (k12 : decide (K ≤ 12) = b12) (w : World) :
    Calls Try.prog 6 #[.agg #[.int .i64 R.r0, .int .i64 R.r1, .int .i64 R.r2, .int .i64 R.r3, .int .i64 R.r4, .int .i64 R.r5, .int .i64 R.r6, .int .i64 R.r7], .int .i64 K, .agg #[.int .i64 n0, .int .i64 n1, .int .i64 n2, .int .i64 n3], .int .i64 got] w fun e w' => e = .returned (.bool true) ∧ Below w.heap.size w w' := by
  have cW := Lib.hid (fun w => works_any w)
  have cT := Lib.hid (fun w => took_any R K n0 n1 n2 n3 got w)
  have cR := Lib.hid (fun w => rtook_any R K n0 n1 n2 n3 got w)
  have cA := Lib.hid (fun w => asks_any K n0 n1 n2 n3 w)
  have cE := Lib.hid (fun w => ends_any K n0 n1 n2 n3 w)
  rw [show decide (1 ≤ K ∧ K ≤ 4) = (b1 && b4) by rw [← k1, ← k4]; simp] at cA
  rw [show decide (7 ≤ K ∧ K ≤ 12) = (b7 && b12) by rw [← k7, ← k12]; simp] at cE
  generalize tookR R K n1 n3 got = T at *
  have E8 := eq8 T
  cases b1 <;> cases b4 <;> cases b7 <;> cases b12
  all_goals try (exfalso; simp at k1 k4 k7 k12; omega)
  all_goals
    simp only [Bool.and_true, Bool.and_false, Bool.true_and, Bool.false_and] at cA cE
    go_enter Try.func6, Try.ntmps6
    go_upto_region 1 with fail
    generalize hW : (w.alloc (.cells #[.int .i64 R.r0, .int .i64 R.r1, .int .i64 R.r2, .int .i64 R.r3, .int .i64 R.r4, .int .i64 R.r5, .int .i64 R.r6, .int .i64 R.r7] 24)).alloc (.cells #[.int .i64 n0, .int .i64 n1, .int .i64 n2, .int .i64 n3] 39) = W
    generalize hg_g1 : w.heap.size + 1 = g1
    generalize hg_g : w.heap.size = g
    have p0 : W.cell? ⟨g, 0, none⟩ = some (.int .i64 R.r0) := by rw [← hW]; exact kc (cell_new _ _ _ _ _ hg_g.symm)
    have p1 : W.cell? ⟨g, 1, none⟩ = some (.int .i64 R.r1) := by rw [← hW]; exact kc (cell_new _ _ _ _ _ hg_g.symm)
    have p2 : W.cell? ⟨g, 2, none⟩ = some (.int .i64 R.r2) := by rw [← hW]; exact kc (cell_new _ _ _ _ _ hg_g.symm)
    have p3 : W.cell? ⟨g, 3, none⟩ = some (.int .i64 R.r3) := by rw [← hW]; exact kc (cell_new _ _ _ _ _ hg_g.symm)
    have p4 : W.cell? ⟨g, 4, none⟩ = some (.int .i64 R.r4) := by rw [← hW]; exact kc (cell_new _ _ _ _ _ hg_g.symm)
    have p5 : W.cell? ⟨g, 5, none⟩ = some (.int .i64 R.r5) := by rw [← hW]; exact kc (cell_new _ _ _ _ _ hg_g.symm)
    have p6 : W.cell? ⟨g, 6, none⟩ = some (.int .i64 R.r6) := by rw [← hW]; exact kc (cell_new _ _ _ _ _ hg_g.symm)
    have p7 : W.cell? ⟨g, 7, none⟩ = some (.int .i64 R.r7) := by rw [← hW]; exact kc (cell_new _ _ _ _ _ hg_g.symm)
    have l_g : g < W.heap.size := by rw [← hW, ← hg_g]; simp; try omega
    have x0 : W.cell? ⟨g1, 0, none⟩ = some (.int .i64 n0) := by rw [← hW]; exact cell_new _ _ _ _ _ (by rw [← hg_g1]; simp)
    have x1 : W.cell? ⟨g1, 1, none⟩ = some (.int .i64 n1) := by rw [← hW]; exact cell_new _ _ _ _ _ (by rw [← hg_g1]; simp)
    have x2 : W.cell? ⟨g1, 2, none⟩ = some (.int .i64 n2) := by rw [← hW]; exact cell_new _ _ _ _ _ (by rw [← hg_g1]; simp)
    have x3 : W.cell? ⟨g1, 3, none⟩ = some (.int .i64 n3) := by rw [← hW]; exact cell_new _ _ _ _ _ (by rw [← hg_g1]; simp)
    have l_g1 : g1 < W.heap.size := by rw [← hW, ← hg_g1]; simp; try omega
    have BW : Below w.heap.size w W := by rw [← hW]; exact (((Below.refl w.heap.size w).alloc (by simp; try omega) _).alloc (by simp; try omega) _)
    clear hW
    go_upto_region 4 with (go_at_call 7; refine (cW.out _).mono ?_; rintro e w1 ⟨rfl, hb1⟩; replace p0 := kb hb1 l_g p0; replace p1 := kb hb1 l_g p1; replace p2 := kb hb1 l_g p2; replace p3 := kb hb1 l_g p3; replace p4 := kb hb1 l_g p4; replace p5 := kb hb1 l_g p5; replace p6 := kb hb1 l_g p6; replace p7 := kb hb1 l_g p7; replace l_g := Nat.lt_of_lt_of_le l_g hb1.size; replace x0 := kb hb1 l_g1 x0; replace x1 := kb hb1 l_g1 x1; replace x2 := kb hb1 l_g1 x2; replace x3 := kb hb1 l_g1 x3; replace l_g1 := Nat.lt_of_lt_of_le l_g1 hb1.size; replace BW := BW.trans (hb1.mono BW.size))
    generalize hW : w1.alloc (.cells #[.int .i64 K, .int .i64 n0, .int .i64 n1, .int .i64 n2, .int .i64 n3] 27) = W2
    replace p0 : W2.cell? ⟨g, 0, none⟩ = some (.int .i64 R.r0) := by rw [← hW]; exact kc (p0)
    replace p1 : W2.cell? ⟨g, 1, none⟩ = some (.int .i64 R.r1) := by rw [← hW]; exact kc (p1)
    replace p2 : W2.cell? ⟨g, 2, none⟩ = some (.int .i64 R.r2) := by rw [← hW]; exact kc (p2)
    replace p3 : W2.cell? ⟨g, 3, none⟩ = some (.int .i64 R.r3) := by rw [← hW]; exact kc (p3)
    replace p4 : W2.cell? ⟨g, 4, none⟩ = some (.int .i64 R.r4) := by rw [← hW]; exact kc (p4)
    replace p5 : W2.cell? ⟨g, 5, none⟩ = some (.int .i64 R.r5) := by rw [← hW]; exact kc (p5)
    replace p6 : W2.cell? ⟨g, 6, none⟩ = some (.int .i64 R.r6) := by rw [← hW]; exact kc (p6)
    replace p7 : W2.cell? ⟨g, 7, none⟩ = some (.int .i64 R.r7) := by rw [← hW]; exact kc (p7)
    replace l_g : g < W2.heap.size := by rw [← hW]; simp; omega
    replace x0 : W2.cell? ⟨g1, 0, none⟩ = some (.int .i64 n0) := by rw [← hW]; exact kc (x0)
    replace x1 : W2.cell? ⟨g1, 1, none⟩ = some (.int .i64 n1) := by rw [← hW]; exact kc (x1)
    replace x2 : W2.cell? ⟨g1, 2, none⟩ = some (.int .i64 n2) := by rw [← hW]; exact kc (x2)
    replace x3 : W2.cell? ⟨g1, 3, none⟩ = some (.int .i64 n3) := by rw [← hW]; exact kc (x3)
    replace l_g1 : g1 < W2.heap.size := by rw [← hW]; simp; omega
    generalize hg_g2 : w1.heap.size = g2
    have e0 : W2.cell? ⟨g2, 0, none⟩ = some (.int .i64 K) := by rw [← hW]; exact cell_new _ _ _ _ _ hg_g2.symm
    have e1 : W2.cell? ⟨g2, 1, none⟩ = some (.int .i64 n0) := by rw [← hW]; exact cell_new _ _ _ _ _ hg_g2.symm
    have e2 : W2.cell? ⟨g2, 2, none⟩ = some (.int .i64 n1) := by rw [← hW]; exact cell_new _ _ _ _ _ hg_g2.symm
    have e3 : W2.cell? ⟨g2, 3, none⟩ = some (.int .i64 n2) := by rw [← hW]; exact cell_new _ _ _ _ _ hg_g2.symm
    have e4 : W2.cell? ⟨g2, 4, none⟩ = some (.int .i64 n3) := by rw [← hW]; exact cell_new _ _ _ _ _ hg_g2.symm
    have l_g2 : g2 < W2.heap.size := by rw [← hW, ← hg_g2]; simp; try omega
    replace BW : Below w.heap.size w W2 := by rw [← hW]; exact (BW.alloc (by have q := BW.size; simp; try omega) _)
    clear hW
    go_upto_region 5 with (go_at_call 12; refine (cR.out _).mono ?_; rintro e w2 ⟨rfl, hb2⟩; replace p0 := kb hb2 l_g p0; replace p1 := kb hb2 l_g p1; replace p2 := kb hb2 l_g p2; replace p3 := kb hb2 l_g p3; replace p4 := kb hb2 l_g p4; replace p5 := kb hb2 l_g p5; replace p6 := kb hb2 l_g p6; replace p7 := kb hb2 l_g p7; replace l_g := Nat.lt_of_lt_of_le l_g hb2.size; replace x0 := kb hb2 l_g1 x0; replace x1 := kb hb2 l_g1 x1; replace x2 := kb hb2 l_g1 x2; replace x3 := kb hb2 l_g1 x3; replace l_g1 := Nat.lt_of_lt_of_le l_g1 hb2.size; replace e0 := kb hb2 l_g2 e0; replace e1 := kb hb2 l_g2 e1; replace e2 := kb hb2 l_g2 e2; replace e3 := kb hb2 l_g2 e3; replace e4 := kb hb2 l_g2 e4; replace l_g2 := Nat.lt_of_lt_of_le l_g2 hb2.size; replace BW := BW.trans (hb2.mono BW.size))
    generalize hW : w2.alloc (.cells #[.int .i64 T.r0, .int .i64 T.r1, .int .i64 T.r2, .int .i64 T.r3, .int .i64 T.r4, .int .i64 T.r5, .int .i64 T.r6, .int .i64 T.r7] 24) = W3
    replace p0 : W3.cell? ⟨g, 0, none⟩ = some (.int .i64 R.r0) := by rw [← hW]; exact kc (p0)
    replace p1 : W3.cell? ⟨g, 1, none⟩ = some (.int .i64 R.r1) := by rw [← hW]; exact kc (p1)
    replace p2 : W3.cell? ⟨g, 2, none⟩ = some (.int .i64 R.r2) := by rw [← hW]; exact kc (p2)
    replace p3 : W3.cell? ⟨g, 3, none⟩ = some (.int .i64 R.r3) := by rw [← hW]; exact kc (p3)
    replace p4 : W3.cell? ⟨g, 4, none⟩ = some (.int .i64 R.r4) := by rw [← hW]; exact kc (p4)
    replace p5 : W3.cell? ⟨g, 5, none⟩ = some (.int .i64 R.r5) := by rw [← hW]; exact kc (p5)
    replace p6 : W3.cell? ⟨g, 6, none⟩ = some (.int .i64 R.r6) := by rw [← hW]; exact kc (p6)
    replace p7 : W3.cell? ⟨g, 7, none⟩ = some (.int .i64 R.r7) := by rw [← hW]; exact kc (p7)
    replace l_g : g < W3.heap.size := by rw [← hW]; simp; omega
    replace x0 : W3.cell? ⟨g1, 0, none⟩ = some (.int .i64 n0) := by rw [← hW]; exact kc (x0)
    replace x1 : W3.cell? ⟨g1, 1, none⟩ = some (.int .i64 n1) := by rw [← hW]; exact kc (x1)
    replace x2 : W3.cell? ⟨g1, 2, none⟩ = some (.int .i64 n2) := by rw [← hW]; exact kc (x2)
    replace x3 : W3.cell? ⟨g1, 3, none⟩ = some (.int .i64 n3) := by rw [← hW]; exact kc (x3)
    replace l_g1 : g1 < W3.heap.size := by rw [← hW]; simp; omega
    replace e0 : W3.cell? ⟨g2, 0, none⟩ = some (.int .i64 K) := by rw [← hW]; exact kc (e0)
    replace e1 : W3.cell? ⟨g2, 1, none⟩ = some (.int .i64 n0) := by rw [← hW]; exact kc (e1)
    replace e2 : W3.cell? ⟨g2, 2, none⟩ = some (.int .i64 n1) := by rw [← hW]; exact kc (e2)
    replace e3 : W3.cell? ⟨g2, 3, none⟩ = some (.int .i64 n2) := by rw [← hW]; exact kc (e3)
    replace e4 : W3.cell? ⟨g2, 4, none⟩ = some (.int .i64 n3) := by rw [← hW]; exact kc (e4)
    replace l_g2 : g2 < W3.heap.size := by rw [← hW]; simp; omega
    generalize hg_g3 : w2.heap.size = g3
    have t0 : W3.cell? ⟨g3, 0, none⟩ = some (.int .i64 T.r0) := by rw [← hW]; exact cell_new _ _ _ _ _ hg_g3.symm
    have t1 : W3.cell? ⟨g3, 1, none⟩ = some (.int .i64 T.r1) := by rw [← hW]; exact cell_new _ _ _ _ _ hg_g3.symm
    have t2 : W3.cell? ⟨g3, 2, none⟩ = some (.int .i64 T.r2) := by rw [← hW]; exact cell_new _ _ _ _ _ hg_g3.symm
    have t3 : W3.cell? ⟨g3, 3, none⟩ = some (.int .i64 T.r3) := by rw [← hW]; exact cell_new _ _ _ _ _ hg_g3.symm
    have t4 : W3.cell? ⟨g3, 4, none⟩ = some (.int .i64 T.r4) := by rw [← hW]; exact cell_new _ _ _ _ _ hg_g3.symm
    have t5 : W3.cell? ⟨g3, 5, none⟩ = some (.int .i64 T.r5) := by rw [← hW]; exact cell_new _ _ _ _ _ hg_g3.symm
    have t6 : W3.cell? ⟨g3, 6, none⟩ = some (.int .i64 T.r6) := by rw [← hW]; exact cell_new _ _ _ _ _ hg_g3.symm
    have t7 : W3.cell? ⟨g3, 7, none⟩ = some (.int .i64 T.r7) := by rw [← hW]; exact cell_new _ _ _ _ _ hg_g3.symm
    have l_g3 : g3 < W3.heap.size := by rw [← hW, ← hg_g3]; simp; try omega
    replace BW : Below w.heap.size w W3 := by rw [← hW]; exact (BW.alloc (by have q := BW.size; simp; try omega) _)
    clear hW
    first
    | go_region_held (fun w' => w'.cell? ⟨g, 0, none⟩ = some (.int .i64 R.r0) ∧ w'.cell? ⟨g, 1, none⟩ = some (.int .i64 R.r1) ∧ w'.cell? ⟨g, 2, none⟩ = some (.int .i64 R.r2) ∧ w'.cell? ⟨g, 3, none⟩ = some (.int .i64 R.r3) ∧ w'.cell? ⟨g, 4, none⟩ = some (.int .i64 R.r4) ∧ w'.cell? ⟨g, 5, none⟩ = some (.int .i64 R.r5) ∧ w'.cell? ⟨g, 6, none⟩ = some (.int .i64 R.r6) ∧ w'.cell? ⟨g, 7, none⟩ = some (.int .i64 R.r7) ∧ w'.cell? ⟨g1, 0, none⟩ = some (.int .i64 n0) ∧ w'.cell? ⟨g1, 1, none⟩ = some (.int .i64 n1) ∧ w'.cell? ⟨g1, 2, none⟩ = some (.int .i64 n2) ∧ w'.cell? ⟨g1, 3, none⟩ = some (.int .i64 n3) ∧ w'.cell? ⟨g2, 0, none⟩ = some (.int .i64 K) ∧ w'.cell? ⟨g2, 1, none⟩ = some (.int .i64 n0) ∧ w'.cell? ⟨g2, 2, none⟩ = some (.int .i64 n1) ∧ w'.cell? ⟨g2, 3, none⟩ = some (.int .i64 n2) ∧ w'.cell? ⟨g2, 4, none⟩ = some (.int .i64 n3) ∧ w'.cell? ⟨g3, 0, none⟩ = some (.int .i64 T.r0) ∧ w'.cell? ⟨g3, 1, none⟩ = some (.int .i64 T.r1) ∧ w'.cell? ⟨g3, 2, none⟩ = some (.int .i64 T.r2) ∧ w'.cell? ⟨g3, 3, none⟩ = some (.int .i64 T.r3) ∧ w'.cell? ⟨g3, 4, none⟩ = some (.int .i64 T.r4) ∧ w'.cell? ⟨g3, 5, none⟩ = some (.int .i64 T.r5) ∧ w'.cell? ⟨g3, 6, none⟩ = some (.int .i64 T.r6) ∧ w'.cell? ⟨g3, 7, none⟩ = some (.int .i64 T.r7))
        (((try dsimp only); (try go_split_ands); (repeat' apply And.intro) <;> (repeat (first | (with_reducible assumption) | (with_reducible refine kc ?_) | (with_reducible refine kd ?_) | (refine kb (by with_reducible assumption) (by assumption) ?_)))))
        (first | (go_at_call 11; refine (cT.out _).mono ?_; rintro e w3 ⟨rfl, hb3⟩; have l_gw3 := Nat.lt_of_lt_of_le l_g hb3.size; have l_g1w3 := Nat.lt_of_lt_of_le l_g1 hb3.size; have l_g2w3 := Nat.lt_of_lt_of_le l_g2 hb3.size; have l_g3w3 := Nat.lt_of_lt_of_le l_g3 hb3.size) | (go_at_call 13; refine (cA.out _).mono ?_; rintro e w4 ⟨rfl, hb4⟩; have l_gw4 := Nat.lt_of_lt_of_le l_gw3 hb4.size; have l_g1w4 := Nat.lt_of_lt_of_le l_g1w3 hb4.size; have l_g2w4 := Nat.lt_of_lt_of_le l_g2w3 hb4.size; have l_g3w4 := Nat.lt_of_lt_of_le l_g3w3 hb4.size) | (go_at_call 14; refine (cE.out _).mono ?_; rintro e w5 ⟨rfl, hb5⟩; have l_gw5 := Nat.lt_of_lt_of_le l_gw4 hb5.size; have l_g1w5 := Nat.lt_of_lt_of_le l_g1w4 hb5.size; have l_g2w5 := Nat.lt_of_lt_of_le l_g2w4 hb5.size; have l_g3w5 := Nat.lt_of_lt_of_le l_g3w4 hb5.size))
    | fail
    all_goals
      have B3 : Below w.heap.size w w3 := by first | exact BW.trans (hb3.mono BW.size) | exact BW.drew.trans (hb3.mono BW.size) | exact BW.drew.drew.trans (hb3.mono BW.size)
      have B4 : Below w.heap.size w w4 := by first | exact B3.trans (hb4.mono B3.size) | exact B3.drew.trans (hb4.mono B3.size) | exact B3.drew.drew.trans (hb4.mono B3.size)
      have B5 : Below w.heap.size w w5 := by first | exact B4.trans (hb5.mono B4.size) | exact B4.drew.trans (hb5.mono B4.size) | exact B4.drew.drew.trans (hb5.mono B4.size)
      go_wp2
      go_ret
      exact ⟨rfl, by first | exact B5 | exact B5.drew | exact B5.drew.drew⟩

open Go.ChangeShapes Go.WideShapes Go.ChangeAt

set_option maxRecDepth 100000 in
theorem lifted (os : Os) (started : os.Started) (H : Type) (enc : TypeId × Value → H) :
    ReturnsInHanded {} Try.checked os 6 .any (Rows.stepTookSpec.pre6 enc Try.prog Try.f6 Rows.stepTookRow.domain false) (Rows.stepTookSpec.post enc Try.prog Try.f6 false true false false) := by
  refine Frame.law_lift (C := Try.checked) Frame.own started (by kernel_rfl) Try.func6 Frame.laidOut
    (ChangeSpec.witness6 (enc := enc) (C := Try.checked) false ⟨#[], #[.agg #[.int .i64 0, .int .i64 0, .int .i64 0, .int .i64 0, .int .i64 0, .int .i64 0, .int .i64 0, .int .i64 0], .int .i64 0, .agg #[.int .i64 0, .int .i64 0, .int .i64 0, .int .i64 0], .int .i64 0], []⟩ 8 (by kernel_rfl) (by kernel_rfl) (by kernel_rfl) (by kernel_rfl))
    rfl rfl Try.underlying4 (by kernel_rfl) (fun ds h => by match ds, h with | [_, _, _, _], _ => exact ⟨rfl, rfl, rfl⟩) ?_
  intro W base args ds p hval0 hA hlt hsz
  have hval : ∀ (j : Nat) t v, Try.f6.params[j]? = some t → args[j]? = some v → Value.okWide Try.prog W .any base t v := hval0
  clear hval0
  replace hA : DataW.TrodAll enc Try.prog W 0 (fun _ => true) true Try.f6.params.toList args.toList ds p := hA
  replace hsz : (DataW.weightsEach Try.prog Try.f6.params.toList ds).all (· ≤ reachBytes) = true := hsz
  rw [Try.params6] at hA hval hsz
  obtain ⟨v0, v1, v2, v3, d0, d1, d2, d3, p0, p1, p2, p3, rfl, rfl, rfl, h0, h1, h2, h3⟩ := trodAll_four hA
  obtain ⟨R, rfl, hR⟩ := open_regs (hval 0 _ v0 rfl rfl) h0
  obtain ⟨K, rfl, rfl, rfl, w1⟩ := open_int Try.underlying3 (hval 1 3 v1 rfl rfl) h1
  obtain ⟨a0, a1, a2, a3, rfl⟩ := open_four (hval 2 _ v2 rfl rfl) h2
  obtain ⟨got, rfl, rfl, rfl, w3⟩ := open_int Try.underlying3 (hval 3 3 v3 rfl rfl) h3
  exact walk0 K a0 a1 a2 a3 got R _ _ _ _ rfl rfl rfl rfl W

theorem proved : Rows.StepTookSaid :=
  OpenClaim.holds_of_wide 6 Try.f6 rfl rfl rfl rfl rfl rfl rfl ⟨rfl, rfl, rfl, rfl, rfl⟩ rfl rfl rfl rfl rfl (by kernel_rfl) Try.func6 (by kernel_rfl)
    (of_decide_eq_true (by kernel_rfl)) (by unfold Func.isWrapper; first | (rw [if_pos (by decide +kernel)]; kernel_rfl) | (rw [if_neg (by decide +kernel)]; exact ⟨rfl, rfl⟩))
    (fun os started H enc _ => lifted os started H enc)
#print axioms proved

end Go.Proofs.Ythmeonabdpbmjaa.StepTook
