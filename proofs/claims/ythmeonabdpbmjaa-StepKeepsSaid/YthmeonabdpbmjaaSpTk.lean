/- The walks of step.Took, Asks, Ends and of the document's Took. Written by gen4.py. -/
import Derived.Test.YthmeonabdpbmjaaSpRh
namespace Go.Proofs.Ythmeonabdpbmjaa.Sp
open Go.RowKit Go.Proofs.Ythmeonabdpbmjaa.Wr
set_option linter.unusedVariables false
set_option linter.unusedSimpArgs false

def tookR (R : Rg) (kind value reg got : Int) : Rg :=
  if kind = 4 then R.set (held reg) (if got = value then 1 else 0) else if kind = 1 ∨ kind = 3 then R.set (held reg) got else R

set_option maxHeartbeats 4000000 in
theorem took_any (R : Rg) (K At V O rg got : Int) (w : World) :
    Calls Try.prog 11 #[.agg #[.int .i64 R.r0, .int .i64 R.r1, .int .i64 R.r2, .int .i64 R.r3, .int .i64 R.r4, .int .i64 R.r5, .int .i64 R.r6, .int .i64 R.r7], .agg #[.int .i64 K, .int .i64 At, .int .i64 V, .int .i64 O, .int .i64 rg], .int .i64 got] w fun e w' => e = .returned (.agg #[.int .i64 (tookR R K V rg got).r0, .int .i64 (tookR R K V rg got).r1, .int .i64 (tookR R K V rg got).r2, .int .i64 (tookR R K V rg got).r3, .int .i64 (tookR R K V rg got).r4, .int .i64 (tookR R K V rg got).r5, .int .i64 (tookR R K V rg got).r6, .int .i64 (tookR R K V rg got).r7]) ∧ Below w.heap.size w w' := by
  have HT := Lib.hid (show tookR R K V rg got = if K = 4 then R.set (held rg) (if got = V then 1 else 0) else if K = 1 ∨ K = 3 then R.set (held rg) got else R from rfl)
  generalize tookR R K V rg got = T at *
  have c1 := Lib.hid (fun w => held_any rg w)
  have hc := held_cases rg
  by_cases hk : K = 4 ∨ K = 1 ∨ K = 3
  · generalize held rg = k at *
    rcases hc with rfl | rfl | rfl | rfl | rfl | rfl | rfl | rfl
    · rcases hk with rfl | rfl | rfl
      · by_cases hg : got = V
        · subst hg
          obtain rfl : T = (⟨1, R.r1, R.r2, R.r3, R.r4, R.r5, R.r6, R.r7⟩ : Rg) := by rw [HT.out]; simp [Rg.set]
          clear HT
          go_enter Try.func11, Try.ntmps11
          go_wp2_with (first | (go_at_call 15; refine (c1.out _).mono ?_; rintro e w' ⟨rfl, rfl⟩))
          exact bodyPost_ret (v := .agg #[.int .i64 1, .int .i64 R.r1, .int .i64 R.r2, .int .i64 R.r3, .int .i64 R.r4, .int .i64 R.r5, .int .i64 R.r6, .int .i64 R.r7]) (by simp [results, Try.results11, go_sem]) rfl ⟨rfl, (by repeat (first | exact Below.refl _ _ | refine Below.alloc ?_ (by simp; try omega) _ | refine Below.setCell ?_ (by simp; try omega) _ | refine Below.drew ?_))⟩
        · have e1 : (got == V) = false := by simp [hg]
          obtain rfl : T = (⟨0, R.r1, R.r2, R.r3, R.r4, R.r5, R.r6, R.r7⟩ : Rg) := by rw [HT.out]; simp [Rg.set, hg]
          clear HT
          go_enter Try.func11, Try.ntmps11
          go_wp2_with (first | (go_at_call 15; refine (c1.out _).mono ?_; rintro e w' ⟨rfl, rfl⟩))
          exact bodyPost_ret (v := .agg #[.int .i64 0, .int .i64 R.r1, .int .i64 R.r2, .int .i64 R.r3, .int .i64 R.r4, .int .i64 R.r5, .int .i64 R.r6, .int .i64 R.r7]) (by simp [results, Try.results11, go_sem]) rfl ⟨rfl, (by repeat (first | exact Below.refl _ _ | refine Below.alloc ?_ (by simp; try omega) _ | refine Below.setCell ?_ (by simp; try omega) _ | refine Below.drew ?_))⟩
      · obtain rfl : T = (⟨got, R.r1, R.r2, R.r3, R.r4, R.r5, R.r6, R.r7⟩ : Rg) := by rw [HT.out]; simp [Rg.set]
        clear HT
        go_enter Try.func11, Try.ntmps11
        go_wp2_with (first | (go_at_call 15; refine (c1.out _).mono ?_; rintro e w' ⟨rfl, rfl⟩))
        exact bodyPost_ret (v := .agg #[.int .i64 got, .int .i64 R.r1, .int .i64 R.r2, .int .i64 R.r3, .int .i64 R.r4, .int .i64 R.r5, .int .i64 R.r6, .int .i64 R.r7]) (by simp [results, Try.results11, go_sem]) rfl ⟨rfl, (by repeat (first | exact Below.refl _ _ | refine Below.alloc ?_ (by simp; try omega) _ | refine Below.setCell ?_ (by simp; try omega) _ | refine Below.drew ?_))⟩
      · obtain rfl : T = (⟨got, R.r1, R.r2, R.r3, R.r4, R.r5, R.r6, R.r7⟩ : Rg) := by rw [HT.out]; simp [Rg.set]
        clear HT
        go_enter Try.func11, Try.ntmps11
        go_wp2_with (first | (go_at_call 15; refine (c1.out _).mono ?_; rintro e w' ⟨rfl, rfl⟩))
        exact bodyPost_ret (v := .agg #[.int .i64 got, .int .i64 R.r1, .int .i64 R.r2, .int .i64 R.r3, .int .i64 R.r4, .int .i64 R.r5, .int .i64 R.r6, .int .i64 R.r7]) (by simp [results, Try.results11, go_sem]) rfl ⟨rfl, (by repeat (first | exact Below.refl _ _ | refine Below.alloc ?_ (by simp; try omega) _ | refine Below.setCell ?_ (by simp; try omega) _ | refine Below.drew ?_))⟩
    · rcases hk with rfl | rfl | rfl
      · by_cases hg : got = V
        · subst hg
          obtain rfl : T = (⟨R.r0, 1, R.r2, R.r3, R.r4, R.r5, R.r6, R.r7⟩ : Rg) := by rw [HT.out]; simp [Rg.set]
          clear HT
          go_enter Try.func11, Try.ntmps11
          go_wp2_with (first | (go_at_call 15; refine (c1.out _).mono ?_; rintro e w' ⟨rfl, rfl⟩))
          exact bodyPost_ret (v := .agg #[.int .i64 R.r0, .int .i64 1, .int .i64 R.r2, .int .i64 R.r3, .int .i64 R.r4, .int .i64 R.r5, .int .i64 R.r6, .int .i64 R.r7]) (by simp [results, Try.results11, go_sem]) rfl ⟨rfl, (by repeat (first | exact Below.refl _ _ | refine Below.alloc ?_ (by simp; try omega) _ | refine Below.setCell ?_ (by simp; try omega) _ | refine Below.drew ?_))⟩
        · have e1 : (got == V) = false := by simp [hg]
          obtain rfl : T = (⟨R.r0, 0, R.r2, R.r3, R.r4, R.r5, R.r6, R.r7⟩ : Rg) := by rw [HT.out]; simp [Rg.set, hg]
          clear HT
          go_enter Try.func11, Try.ntmps11
          go_wp2_with (first | (go_at_call 15; refine (c1.out _).mono ?_; rintro e w' ⟨rfl, rfl⟩))
          exact bodyPost_ret (v := .agg #[.int .i64 R.r0, .int .i64 0, .int .i64 R.r2, .int .i64 R.r3, .int .i64 R.r4, .int .i64 R.r5, .int .i64 R.r6, .int .i64 R.r7]) (by simp [results, Try.results11, go_sem]) rfl ⟨rfl, (by repeat (first | exact Below.refl _ _ | refine Below.alloc ?_ (by simp; try omega) _ | refine Below.setCell ?_ (by simp; try omega) _ | refine Below.drew ?_))⟩
      · obtain rfl : T = (⟨R.r0, got, R.r2, R.r3, R.r4, R.r5, R.r6, R.r7⟩ : Rg) := by rw [HT.out]; simp [Rg.set]
        clear HT
        go_enter Try.func11, Try.ntmps11
        go_wp2_with (first | (go_at_call 15; refine (c1.out _).mono ?_; rintro e w' ⟨rfl, rfl⟩))
        exact bodyPost_ret (v := .agg #[.int .i64 R.r0, .int .i64 got, .int .i64 R.r2, .int .i64 R.r3, .int .i64 R.r4, .int .i64 R.r5, .int .i64 R.r6, .int .i64 R.r7]) (by simp [results, Try.results11, go_sem]) rfl ⟨rfl, (by repeat (first | exact Below.refl _ _ | refine Below.alloc ?_ (by simp; try omega) _ | refine Below.setCell ?_ (by simp; try omega) _ | refine Below.drew ?_))⟩
      · obtain rfl : T = (⟨R.r0, got, R.r2, R.r3, R.r4, R.r5, R.r6, R.r7⟩ : Rg) := by rw [HT.out]; simp [Rg.set]
        clear HT
        go_enter Try.func11, Try.ntmps11
        go_wp2_with (first | (go_at_call 15; refine (c1.out _).mono ?_; rintro e w' ⟨rfl, rfl⟩))
        exact bodyPost_ret (v := .agg #[.int .i64 R.r0, .int .i64 got, .int .i64 R.r2, .int .i64 R.r3, .int .i64 R.r4, .int .i64 R.r5, .int .i64 R.r6, .int .i64 R.r7]) (by simp [results, Try.results11, go_sem]) rfl ⟨rfl, (by repeat (first | exact Below.refl _ _ | refine Below.alloc ?_ (by simp; try omega) _ | refine Below.setCell ?_ (by simp; try omega) _ | refine Below.drew ?_))⟩
    · rcases hk with rfl | rfl | rfl
      · by_cases hg : got = V
        · subst hg
          obtain rfl : T = (⟨R.r0, R.r1, 1, R.r3, R.r4, R.r5, R.r6, R.r7⟩ : Rg) := by rw [HT.out]; simp [Rg.set]
          clear HT
          go_enter Try.func11, Try.ntmps11
          go_wp2_with (first | (go_at_call 15; refine (c1.out _).mono ?_; rintro e w' ⟨rfl, rfl⟩))
          exact bodyPost_ret (v := .agg #[.int .i64 R.r0, .int .i64 R.r1, .int .i64 1, .int .i64 R.r3, .int .i64 R.r4, .int .i64 R.r5, .int .i64 R.r6, .int .i64 R.r7]) (by simp [results, Try.results11, go_sem]) rfl ⟨rfl, (by repeat (first | exact Below.refl _ _ | refine Below.alloc ?_ (by simp; try omega) _ | refine Below.setCell ?_ (by simp; try omega) _ | refine Below.drew ?_))⟩
        · have e1 : (got == V) = false := by simp [hg]
          obtain rfl : T = (⟨R.r0, R.r1, 0, R.r3, R.r4, R.r5, R.r6, R.r7⟩ : Rg) := by rw [HT.out]; simp [Rg.set, hg]
          clear HT
          go_enter Try.func11, Try.ntmps11
          go_wp2_with (first | (go_at_call 15; refine (c1.out _).mono ?_; rintro e w' ⟨rfl, rfl⟩))
          exact bodyPost_ret (v := .agg #[.int .i64 R.r0, .int .i64 R.r1, .int .i64 0, .int .i64 R.r3, .int .i64 R.r4, .int .i64 R.r5, .int .i64 R.r6, .int .i64 R.r7]) (by simp [results, Try.results11, go_sem]) rfl ⟨rfl, (by repeat (first | exact Below.refl _ _ | refine Below.alloc ?_ (by simp; try omega) _ | refine Below.setCell ?_ (by simp; try omega) _ | refine Below.drew ?_))⟩
      · obtain rfl : T = (⟨R.r0, R.r1, got, R.r3, R.r4, R.r5, R.r6, R.r7⟩ : Rg) := by rw [HT.out]; simp [Rg.set]
        clear HT
        go_enter Try.func11, Try.ntmps11
        go_wp2_with (first | (go_at_call 15; refine (c1.out _).mono ?_; rintro e w' ⟨rfl, rfl⟩))
        exact bodyPost_ret (v := .agg #[.int .i64 R.r0, .int .i64 R.r1, .int .i64 got, .int .i64 R.r3, .int .i64 R.r4, .int .i64 R.r5, .int .i64 R.r6, .int .i64 R.r7]) (by simp [results, Try.results11, go_sem]) rfl ⟨rfl, (by repeat (first | exact Below.refl _ _ | refine Below.alloc ?_ (by simp; try omega) _ | refine Below.setCell ?_ (by simp; try omega) _ | refine Below.drew ?_))⟩
      · obtain rfl : T = (⟨R.r0, R.r1, got, R.r3, R.r4, R.r5, R.r6, R.r7⟩ : Rg) := by rw [HT.out]; simp [Rg.set]
        clear HT
        go_enter Try.func11, Try.ntmps11
        go_wp2_with (first | (go_at_call 15; refine (c1.out _).mono ?_; rintro e w' ⟨rfl, rfl⟩))
        exact bodyPost_ret (v := .agg #[.int .i64 R.r0, .int .i64 R.r1, .int .i64 got, .int .i64 R.r3, .int .i64 R.r4, .int .i64 R.r5, .int .i64 R.r6, .int .i64 R.r7]) (by simp [results, Try.results11, go_sem]) rfl ⟨rfl, (by repeat (first | exact Below.refl _ _ | refine Below.alloc ?_ (by simp; try omega) _ | refine Below.setCell ?_ (by simp; try omega) _ | refine Below.drew ?_))⟩
    · rcases hk with rfl | rfl | rfl
      · by_cases hg : got = V
        · subst hg
          obtain rfl : T = (⟨R.r0, R.r1, R.r2, 1, R.r4, R.r5, R.r6, R.r7⟩ : Rg) := by rw [HT.out]; simp [Rg.set]
          clear HT
          go_enter Try.func11, Try.ntmps11
          go_wp2_with (first | (go_at_call 15; refine (c1.out _).mono ?_; rintro e w' ⟨rfl, rfl⟩))
          exact bodyPost_ret (v := .agg #[.int .i64 R.r0, .int .i64 R.r1, .int .i64 R.r2, .int .i64 1, .int .i64 R.r4, .int .i64 R.r5, .int .i64 R.r6, .int .i64 R.r7]) (by simp [results, Try.results11, go_sem]) rfl ⟨rfl, (by repeat (first | exact Below.refl _ _ | refine Below.alloc ?_ (by simp; try omega) _ | refine Below.setCell ?_ (by simp; try omega) _ | refine Below.drew ?_))⟩
        · have e1 : (got == V) = false := by simp [hg]
          obtain rfl : T = (⟨R.r0, R.r1, R.r2, 0, R.r4, R.r5, R.r6, R.r7⟩ : Rg) := by rw [HT.out]; simp [Rg.set, hg]
          clear HT
          go_enter Try.func11, Try.ntmps11
          go_wp2_with (first | (go_at_call 15; refine (c1.out _).mono ?_; rintro e w' ⟨rfl, rfl⟩))
          exact bodyPost_ret (v := .agg #[.int .i64 R.r0, .int .i64 R.r1, .int .i64 R.r2, .int .i64 0, .int .i64 R.r4, .int .i64 R.r5, .int .i64 R.r6, .int .i64 R.r7]) (by simp [results, Try.results11, go_sem]) rfl ⟨rfl, (by repeat (first | exact Below.refl _ _ | refine Below.alloc ?_ (by simp; try omega) _ | refine Below.setCell ?_ (by simp; try omega) _ | refine Below.drew ?_))⟩
      · obtain rfl : T = (⟨R.r0, R.r1, R.r2, got, R.r4, R.r5, R.r6, R.r7⟩ : Rg) := by rw [HT.out]; simp [Rg.set]
        clear HT
        go_enter Try.func11, Try.ntmps11
        go_wp2_with (first | (go_at_call 15; refine (c1.out _).mono ?_; rintro e w' ⟨rfl, rfl⟩))
        exact bodyPost_ret (v := .agg #[.int .i64 R.r0, .int .i64 R.r1, .int .i64 R.r2, .int .i64 got, .int .i64 R.r4, .int .i64 R.r5, .int .i64 R.r6, .int .i64 R.r7]) (by simp [results, Try.results11, go_sem]) rfl ⟨rfl, (by repeat (first | exact Below.refl _ _ | refine Below.alloc ?_ (by simp; try omega) _ | refine Below.setCell ?_ (by simp; try omega) _ | refine Below.drew ?_))⟩
      · obtain rfl : T = (⟨R.r0, R.r1, R.r2, got, R.r4, R.r5, R.r6, R.r7⟩ : Rg) := by rw [HT.out]; simp [Rg.set]
        clear HT
        go_enter Try.func11, Try.ntmps11
        go_wp2_with (first | (go_at_call 15; refine (c1.out _).mono ?_; rintro e w' ⟨rfl, rfl⟩))
        exact bodyPost_ret (v := .agg #[.int .i64 R.r0, .int .i64 R.r1, .int .i64 R.r2, .int .i64 got, .int .i64 R.r4, .int .i64 R.r5, .int .i64 R.r6, .int .i64 R.r7]) (by simp [results, Try.results11, go_sem]) rfl ⟨rfl, (by repeat (first | exact Below.refl _ _ | refine Below.alloc ?_ (by simp; try omega) _ | refine Below.setCell ?_ (by simp; try omega) _ | refine Below.drew ?_))⟩
    · rcases hk with rfl | rfl | rfl
      · by_cases hg : got = V
        · subst hg
          obtain rfl : T = (⟨R.r0, R.r1, R.r2, R.r3, 1, R.r5, R.r6, R.r7⟩ : Rg) := by rw [HT.out]; simp [Rg.set]
          clear HT
          go_enter Try.func11, Try.ntmps11
          go_wp2_with (first | (go_at_call 15; refine (c1.out _).mono ?_; rintro e w' ⟨rfl, rfl⟩))
          exact bodyPost_ret (v := .agg #[.int .i64 R.r0, .int .i64 R.r1, .int .i64 R.r2, .int .i64 R.r3, .int .i64 1, .int .i64 R.r5, .int .i64 R.r6, .int .i64 R.r7]) (by simp [results, Try.results11, go_sem]) rfl ⟨rfl, (by repeat (first | exact Below.refl _ _ | refine Below.alloc ?_ (by simp; try omega) _ | refine Below.setCell ?_ (by simp; try omega) _ | refine Below.drew ?_))⟩
        · have e1 : (got == V) = false := by simp [hg]
          obtain rfl : T = (⟨R.r0, R.r1, R.r2, R.r3, 0, R.r5, R.r6, R.r7⟩ : Rg) := by rw [HT.out]; simp [Rg.set, hg]
          clear HT
          go_enter Try.func11, Try.ntmps11
          go_wp2_with (first | (go_at_call 15; refine (c1.out _).mono ?_; rintro e w' ⟨rfl, rfl⟩))
          exact bodyPost_ret (v := .agg #[.int .i64 R.r0, .int .i64 R.r1, .int .i64 R.r2, .int .i64 R.r3, .int .i64 0, .int .i64 R.r5, .int .i64 R.r6, .int .i64 R.r7]) (by simp [results, Try.results11, go_sem]) rfl ⟨rfl, (by repeat (first | exact Below.refl _ _ | refine Below.alloc ?_ (by simp; try omega) _ | refine Below.setCell ?_ (by simp; try omega) _ | refine Below.drew ?_))⟩
      · obtain rfl : T = (⟨R.r0, R.r1, R.r2, R.r3, got, R.r5, R.r6, R.r7⟩ : Rg) := by rw [HT.out]; simp [Rg.set]
        clear HT
        go_enter Try.func11, Try.ntmps11
        go_wp2_with (first | (go_at_call 15; refine (c1.out _).mono ?_; rintro e w' ⟨rfl, rfl⟩))
        exact bodyPost_ret (v := .agg #[.int .i64 R.r0, .int .i64 R.r1, .int .i64 R.r2, .int .i64 R.r3, .int .i64 got, .int .i64 R.r5, .int .i64 R.r6, .int .i64 R.r7]) (by simp [results, Try.results11, go_sem]) rfl ⟨rfl, (by repeat (first | exact Below.refl _ _ | refine Below.alloc ?_ (by simp; try omega) _ | refine Below.setCell ?_ (by simp; try omega) _ | refine Below.drew ?_))⟩
      · obtain rfl : T = (⟨R.r0, R.r1, R.r2, R.r3, got, R.r5, R.r6, R.r7⟩ : Rg) := by rw [HT.out]; simp [Rg.set]
        clear HT
        go_enter Try.func11, Try.ntmps11
        go_wp2_with (first | (go_at_call 15; refine (c1.out _).mono ?_; rintro e w' ⟨rfl, rfl⟩))
        exact bodyPost_ret (v := .agg #[.int .i64 R.r0, .int .i64 R.r1, .int .i64 R.r2, .int .i64 R.r3, .int .i64 got, .int .i64 R.r5, .int .i64 R.r6, .int .i64 R.r7]) (by simp [results, Try.results11, go_sem]) rfl ⟨rfl, (by repeat (first | exact Below.refl _ _ | refine Below.alloc ?_ (by simp; try omega) _ | refine Below.setCell ?_ (by simp; try omega) _ | refine Below.drew ?_))⟩
    · rcases hk with rfl | rfl | rfl
      · by_cases hg : got = V
        · subst hg
          obtain rfl : T = (⟨R.r0, R.r1, R.r2, R.r3, R.r4, 1, R.r6, R.r7⟩ : Rg) := by rw [HT.out]; simp [Rg.set]
          clear HT
          go_enter Try.func11, Try.ntmps11
          go_wp2_with (first | (go_at_call 15; refine (c1.out _).mono ?_; rintro e w' ⟨rfl, rfl⟩))
          exact bodyPost_ret (v := .agg #[.int .i64 R.r0, .int .i64 R.r1, .int .i64 R.r2, .int .i64 R.r3, .int .i64 R.r4, .int .i64 1, .int .i64 R.r6, .int .i64 R.r7]) (by simp [results, Try.results11, go_sem]) rfl ⟨rfl, (by repeat (first | exact Below.refl _ _ | refine Below.alloc ?_ (by simp; try omega) _ | refine Below.setCell ?_ (by simp; try omega) _ | refine Below.drew ?_))⟩
        · have e1 : (got == V) = false := by simp [hg]
          obtain rfl : T = (⟨R.r0, R.r1, R.r2, R.r3, R.r4, 0, R.r6, R.r7⟩ : Rg) := by rw [HT.out]; simp [Rg.set, hg]
          clear HT
          go_enter Try.func11, Try.ntmps11
          go_wp2_with (first | (go_at_call 15; refine (c1.out _).mono ?_; rintro e w' ⟨rfl, rfl⟩))
          exact bodyPost_ret (v := .agg #[.int .i64 R.r0, .int .i64 R.r1, .int .i64 R.r2, .int .i64 R.r3, .int .i64 R.r4, .int .i64 0, .int .i64 R.r6, .int .i64 R.r7]) (by simp [results, Try.results11, go_sem]) rfl ⟨rfl, (by repeat (first | exact Below.refl _ _ | refine Below.alloc ?_ (by simp; try omega) _ | refine Below.setCell ?_ (by simp; try omega) _ | refine Below.drew ?_))⟩
      · obtain rfl : T = (⟨R.r0, R.r1, R.r2, R.r3, R.r4, got, R.r6, R.r7⟩ : Rg) := by rw [HT.out]; simp [Rg.set]
        clear HT
        go_enter Try.func11, Try.ntmps11
        go_wp2_with (first | (go_at_call 15; refine (c1.out _).mono ?_; rintro e w' ⟨rfl, rfl⟩))
        exact bodyPost_ret (v := .agg #[.int .i64 R.r0, .int .i64 R.r1, .int .i64 R.r2, .int .i64 R.r3, .int .i64 R.r4, .int .i64 got, .int .i64 R.r6, .int .i64 R.r7]) (by simp [results, Try.results11, go_sem]) rfl ⟨rfl, (by repeat (first | exact Below.refl _ _ | refine Below.alloc ?_ (by simp; try omega) _ | refine Below.setCell ?_ (by simp; try omega) _ | refine Below.drew ?_))⟩
      · obtain rfl : T = (⟨R.r0, R.r1, R.r2, R.r3, R.r4, got, R.r6, R.r7⟩ : Rg) := by rw [HT.out]; simp [Rg.set]
        clear HT
        go_enter Try.func11, Try.ntmps11
        go_wp2_with (first | (go_at_call 15; refine (c1.out _).mono ?_; rintro e w' ⟨rfl, rfl⟩))
        exact bodyPost_ret (v := .agg #[.int .i64 R.r0, .int .i64 R.r1, .int .i64 R.r2, .int .i64 R.r3, .int .i64 R.r4, .int .i64 got, .int .i64 R.r6, .int .i64 R.r7]) (by simp [results, Try.results11, go_sem]) rfl ⟨rfl, (by repeat (first | exact Below.refl _ _ | refine Below.alloc ?_ (by simp; try omega) _ | refine Below.setCell ?_ (by simp; try omega) _ | refine Below.drew ?_))⟩
    · rcases hk with rfl | rfl | rfl
      · by_cases hg : got = V
        · subst hg
          obtain rfl : T = (⟨R.r0, R.r1, R.r2, R.r3, R.r4, R.r5, 1, R.r7⟩ : Rg) := by rw [HT.out]; simp [Rg.set]
          clear HT
          go_enter Try.func11, Try.ntmps11
          go_wp2_with (first | (go_at_call 15; refine (c1.out _).mono ?_; rintro e w' ⟨rfl, rfl⟩))
          exact bodyPost_ret (v := .agg #[.int .i64 R.r0, .int .i64 R.r1, .int .i64 R.r2, .int .i64 R.r3, .int .i64 R.r4, .int .i64 R.r5, .int .i64 1, .int .i64 R.r7]) (by simp [results, Try.results11, go_sem]) rfl ⟨rfl, (by repeat (first | exact Below.refl _ _ | refine Below.alloc ?_ (by simp; try omega) _ | refine Below.setCell ?_ (by simp; try omega) _ | refine Below.drew ?_))⟩
        · have e1 : (got == V) = false := by simp [hg]
          obtain rfl : T = (⟨R.r0, R.r1, R.r2, R.r3, R.r4, R.r5, 0, R.r7⟩ : Rg) := by rw [HT.out]; simp [Rg.set, hg]
          clear HT
          go_enter Try.func11, Try.ntmps11
          go_wp2_with (first | (go_at_call 15; refine (c1.out _).mono ?_; rintro e w' ⟨rfl, rfl⟩))
          exact bodyPost_ret (v := .agg #[.int .i64 R.r0, .int .i64 R.r1, .int .i64 R.r2, .int .i64 R.r3, .int .i64 R.r4, .int .i64 R.r5, .int .i64 0, .int .i64 R.r7]) (by simp [results, Try.results11, go_sem]) rfl ⟨rfl, (by repeat (first | exact Below.refl _ _ | refine Below.alloc ?_ (by simp; try omega) _ | refine Below.setCell ?_ (by simp; try omega) _ | refine Below.drew ?_))⟩
      · obtain rfl : T = (⟨R.r0, R.r1, R.r2, R.r3, R.r4, R.r5, got, R.r7⟩ : Rg) := by rw [HT.out]; simp [Rg.set]
        clear HT
        go_enter Try.func11, Try.ntmps11
        go_wp2_with (first | (go_at_call 15; refine (c1.out _).mono ?_; rintro e w' ⟨rfl, rfl⟩))
        exact bodyPost_ret (v := .agg #[.int .i64 R.r0, .int .i64 R.r1, .int .i64 R.r2, .int .i64 R.r3, .int .i64 R.r4, .int .i64 R.r5, .int .i64 got, .int .i64 R.r7]) (by simp [results, Try.results11, go_sem]) rfl ⟨rfl, (by repeat (first | exact Below.refl _ _ | refine Below.alloc ?_ (by simp; try omega) _ | refine Below.setCell ?_ (by simp; try omega) _ | refine Below.drew ?_))⟩
      · obtain rfl : T = (⟨R.r0, R.r1, R.r2, R.r3, R.r4, R.r5, got, R.r7⟩ : Rg) := by rw [HT.out]; simp [Rg.set]
        clear HT
        go_enter Try.func11, Try.ntmps11
        go_wp2_with (first | (go_at_call 15; refine (c1.out _).mono ?_; rintro e w' ⟨rfl, rfl⟩))
        exact bodyPost_ret (v := .agg #[.int .i64 R.r0, .int .i64 R.r1, .int .i64 R.r2, .int .i64 R.r3, .int .i64 R.r4, .int .i64 R.r5, .int .i64 got, .int .i64 R.r7]) (by simp [results, Try.results11, go_sem]) rfl ⟨rfl, (by repeat (first | exact Below.refl _ _ | refine Below.alloc ?_ (by simp; try omega) _ | refine Below.setCell ?_ (by simp; try omega) _ | refine Below.drew ?_))⟩
    · rcases hk with rfl | rfl | rfl
      · by_cases hg : got = V
        · subst hg
          obtain rfl : T = (⟨R.r0, R.r1, R.r2, R.r3, R.r4, R.r5, R.r6, 1⟩ : Rg) := by rw [HT.out]; simp [Rg.set]
          clear HT
          go_enter Try.func11, Try.ntmps11
          go_wp2_with (first | (go_at_call 15; refine (c1.out _).mono ?_; rintro e w' ⟨rfl, rfl⟩))
          exact bodyPost_ret (v := .agg #[.int .i64 R.r0, .int .i64 R.r1, .int .i64 R.r2, .int .i64 R.r3, .int .i64 R.r4, .int .i64 R.r5, .int .i64 R.r6, .int .i64 1]) (by simp [results, Try.results11, go_sem]) rfl ⟨rfl, (by repeat (first | exact Below.refl _ _ | refine Below.alloc ?_ (by simp; try omega) _ | refine Below.setCell ?_ (by simp; try omega) _ | refine Below.drew ?_))⟩
        · have e1 : (got == V) = false := by simp [hg]
          obtain rfl : T = (⟨R.r0, R.r1, R.r2, R.r3, R.r4, R.r5, R.r6, 0⟩ : Rg) := by rw [HT.out]; simp [Rg.set, hg]
          clear HT
          go_enter Try.func11, Try.ntmps11
          go_wp2_with (first | (go_at_call 15; refine (c1.out _).mono ?_; rintro e w' ⟨rfl, rfl⟩))
          exact bodyPost_ret (v := .agg #[.int .i64 R.r0, .int .i64 R.r1, .int .i64 R.r2, .int .i64 R.r3, .int .i64 R.r4, .int .i64 R.r5, .int .i64 R.r6, .int .i64 0]) (by simp [results, Try.results11, go_sem]) rfl ⟨rfl, (by repeat (first | exact Below.refl _ _ | refine Below.alloc ?_ (by simp; try omega) _ | refine Below.setCell ?_ (by simp; try omega) _ | refine Below.drew ?_))⟩
      · obtain rfl : T = (⟨R.r0, R.r1, R.r2, R.r3, R.r4, R.r5, R.r6, got⟩ : Rg) := by rw [HT.out]; simp [Rg.set]
        clear HT
        go_enter Try.func11, Try.ntmps11
        go_wp2_with (first | (go_at_call 15; refine (c1.out _).mono ?_; rintro e w' ⟨rfl, rfl⟩))
        exact bodyPost_ret (v := .agg #[.int .i64 R.r0, .int .i64 R.r1, .int .i64 R.r2, .int .i64 R.r3, .int .i64 R.r4, .int .i64 R.r5, .int .i64 R.r6, .int .i64 got]) (by simp [results, Try.results11, go_sem]) rfl ⟨rfl, (by repeat (first | exact Below.refl _ _ | refine Below.alloc ?_ (by simp; try omega) _ | refine Below.setCell ?_ (by simp; try omega) _ | refine Below.drew ?_))⟩
      · obtain rfl : T = (⟨R.r0, R.r1, R.r2, R.r3, R.r4, R.r5, R.r6, got⟩ : Rg) := by rw [HT.out]; simp [Rg.set]
        clear HT
        go_enter Try.func11, Try.ntmps11
        go_wp2_with (first | (go_at_call 15; refine (c1.out _).mono ?_; rintro e w' ⟨rfl, rfl⟩))
        exact bodyPost_ret (v := .agg #[.int .i64 R.r0, .int .i64 R.r1, .int .i64 R.r2, .int .i64 R.r3, .int .i64 R.r4, .int .i64 R.r5, .int .i64 R.r6, .int .i64 got]) (by simp [results, Try.results11, go_sem]) rfl ⟨rfl, (by repeat (first | exact Below.refl _ _ | refine Below.alloc ?_ (by simp; try omega) _ | refine Below.setCell ?_ (by simp; try omega) _ | refine Below.drew ?_))⟩
  · have e4 : (K == 4) = false := by simp; omega
    have e1 : (K == 1) = false := by simp; omega
    have e3 : (K == 3) = false := by simp; omega
    obtain rfl : T = R := by rw [HT.out, if_neg (by omega), if_neg (by omega)]
    clear HT hk
    go_enter Try.func11, Try.ntmps11
    go_wp2_with (first | (go_at_call 15; refine (c1.out _).mono ?_; rintro e w' ⟨rfl, rfl⟩))
    exact bodyPost_ret (v := .agg #[.int .i64 T.r0, .int .i64 T.r1, .int .i64 T.r2, .int .i64 T.r3, .int .i64 T.r4, .int .i64 T.r5, .int .i64 T.r6, .int .i64 T.r7]) (by simp [results, Try.results11, go_sem]) rfl ⟨rfl, (by repeat (first | exact Below.refl _ _ | refine Below.alloc ?_ (by simp; try omega) _ | refine Below.setCell ?_ (by simp; try omega) _ | refine Below.drew ?_))⟩

set_option maxHeartbeats 4000000 in
theorem rtook_any (R : Rg) (K At V O rg got : Int) (w : World) :
    Calls Try.prog 12 #[.agg #[.int .i64 R.r0, .int .i64 R.r1, .int .i64 R.r2, .int .i64 R.r3, .int .i64 R.r4, .int .i64 R.r5, .int .i64 R.r6, .int .i64 R.r7], .agg #[.int .i64 K, .int .i64 At, .int .i64 V, .int .i64 O, .int .i64 rg], .int .i64 got] w fun e w' => e = .returned (.agg #[.int .i64 (tookR R K V rg got).r0, .int .i64 (tookR R K V rg got).r1, .int .i64 (tookR R K V rg got).r2, .int .i64 (tookR R K V rg got).r3, .int .i64 (tookR R K V rg got).r4, .int .i64 (tookR R K V rg got).r5, .int .i64 (tookR R K V rg got).r6, .int .i64 (tookR R K V rg got).r7]) ∧ Below w.heap.size w w' := by
  have HT := Lib.hid (show tookR R K V rg got = if K = 4 then R.set (held rg) (if got = V then 1 else 0) else if K = 1 ∨ K = 3 then R.set (held rg) got else R from rfl)
  generalize tookR R K V rg got = T at *
  have c1 := Lib.hid (fun w => rheld_any rg w)
  have hc := held_cases rg
  by_cases hk : K = 4 ∨ K = 1 ∨ K = 3
  · generalize held rg = k at *
    rcases hc with rfl | rfl | rfl | rfl | rfl | rfl | rfl | rfl
    · rcases hk with rfl | rfl | rfl
      · by_cases hg : got = V
        · subst hg
          obtain rfl : T = (⟨1, R.r1, R.r2, R.r3, R.r4, R.r5, R.r6, R.r7⟩ : Rg) := by rw [HT.out]; simp [Rg.set]
          clear HT
          go_enter Try.func12, Try.ntmps12
          go_wp2_with (first | (go_at_call 20; refine (c1.out _).mono ?_; rintro e w' ⟨rfl, rfl⟩))
          exact bodyPost_ret (v := .agg #[.int .i64 1, .int .i64 R.r1, .int .i64 R.r2, .int .i64 R.r3, .int .i64 R.r4, .int .i64 R.r5, .int .i64 R.r6, .int .i64 R.r7]) (by simp [results, Try.results12, go_sem]) rfl ⟨rfl, (by repeat (first | exact Below.refl _ _ | refine Below.alloc ?_ (by simp; try omega) _ | refine Below.setCell ?_ (by simp; try omega) _ | refine Below.drew ?_))⟩
        · have e1 : (got == V) = false := by simp [hg]
          obtain rfl : T = (⟨0, R.r1, R.r2, R.r3, R.r4, R.r5, R.r6, R.r7⟩ : Rg) := by rw [HT.out]; simp [Rg.set, hg]
          clear HT
          go_enter Try.func12, Try.ntmps12
          go_wp2_with (first | (go_at_call 20; refine (c1.out _).mono ?_; rintro e w' ⟨rfl, rfl⟩))
          exact bodyPost_ret (v := .agg #[.int .i64 0, .int .i64 R.r1, .int .i64 R.r2, .int .i64 R.r3, .int .i64 R.r4, .int .i64 R.r5, .int .i64 R.r6, .int .i64 R.r7]) (by simp [results, Try.results12, go_sem]) rfl ⟨rfl, (by repeat (first | exact Below.refl _ _ | refine Below.alloc ?_ (by simp; try omega) _ | refine Below.setCell ?_ (by simp; try omega) _ | refine Below.drew ?_))⟩
      · obtain rfl : T = (⟨got, R.r1, R.r2, R.r3, R.r4, R.r5, R.r6, R.r7⟩ : Rg) := by rw [HT.out]; simp [Rg.set]
        clear HT
        go_enter Try.func12, Try.ntmps12
        go_wp2_with (first | (go_at_call 20; refine (c1.out _).mono ?_; rintro e w' ⟨rfl, rfl⟩))
        exact bodyPost_ret (v := .agg #[.int .i64 got, .int .i64 R.r1, .int .i64 R.r2, .int .i64 R.r3, .int .i64 R.r4, .int .i64 R.r5, .int .i64 R.r6, .int .i64 R.r7]) (by simp [results, Try.results12, go_sem]) rfl ⟨rfl, (by repeat (first | exact Below.refl _ _ | refine Below.alloc ?_ (by simp; try omega) _ | refine Below.setCell ?_ (by simp; try omega) _ | refine Below.drew ?_))⟩
      · obtain rfl : T = (⟨got, R.r1, R.r2, R.r3, R.r4, R.r5, R.r6, R.r7⟩ : Rg) := by rw [HT.out]; simp [Rg.set]
        clear HT
        go_enter Try.func12, Try.ntmps12
        go_wp2_with (first | (go_at_call 20; refine (c1.out _).mono ?_; rintro e w' ⟨rfl, rfl⟩))
        exact bodyPost_ret (v := .agg #[.int .i64 got, .int .i64 R.r1, .int .i64 R.r2, .int .i64 R.r3, .int .i64 R.r4, .int .i64 R.r5, .int .i64 R.r6, .int .i64 R.r7]) (by simp [results, Try.results12, go_sem]) rfl ⟨rfl, (by repeat (first | exact Below.refl _ _ | refine Below.alloc ?_ (by simp; try omega) _ | refine Below.setCell ?_ (by simp; try omega) _ | refine Below.drew ?_))⟩
    · rcases hk with rfl | rfl | rfl
      · by_cases hg : got = V
        · subst hg
          obtain rfl : T = (⟨R.r0, 1, R.r2, R.r3, R.r4, R.r5, R.r6, R.r7⟩ : Rg) := by rw [HT.out]; simp [Rg.set]
          clear HT
          go_enter Try.func12, Try.ntmps12
          go_wp2_with (first | (go_at_call 20; refine (c1.out _).mono ?_; rintro e w' ⟨rfl, rfl⟩))
          exact bodyPost_ret (v := .agg #[.int .i64 R.r0, .int .i64 1, .int .i64 R.r2, .int .i64 R.r3, .int .i64 R.r4, .int .i64 R.r5, .int .i64 R.r6, .int .i64 R.r7]) (by simp [results, Try.results12, go_sem]) rfl ⟨rfl, (by repeat (first | exact Below.refl _ _ | refine Below.alloc ?_ (by simp; try omega) _ | refine Below.setCell ?_ (by simp; try omega) _ | refine Below.drew ?_))⟩
        · have e1 : (got == V) = false := by simp [hg]
          obtain rfl : T = (⟨R.r0, 0, R.r2, R.r3, R.r4, R.r5, R.r6, R.r7⟩ : Rg) := by rw [HT.out]; simp [Rg.set, hg]
          clear HT
          go_enter Try.func12, Try.ntmps12
          go_wp2_with (first | (go_at_call 20; refine (c1.out _).mono ?_; rintro e w' ⟨rfl, rfl⟩))
          exact bodyPost_ret (v := .agg #[.int .i64 R.r0, .int .i64 0, .int .i64 R.r2, .int .i64 R.r3, .int .i64 R.r4, .int .i64 R.r5, .int .i64 R.r6, .int .i64 R.r7]) (by simp [results, Try.results12, go_sem]) rfl ⟨rfl, (by repeat (first | exact Below.refl _ _ | refine Below.alloc ?_ (by simp; try omega) _ | refine Below.setCell ?_ (by simp; try omega) _ | refine Below.drew ?_))⟩
      · obtain rfl : T = (⟨R.r0, got, R.r2, R.r3, R.r4, R.r5, R.r6, R.r7⟩ : Rg) := by rw [HT.out]; simp [Rg.set]
        clear HT
        go_enter Try.func12, Try.ntmps12
        go_wp2_with (first | (go_at_call 20; refine (c1.out _).mono ?_; rintro e w' ⟨rfl, rfl⟩))
        exact bodyPost_ret (v := .agg #[.int .i64 R.r0, .int .i64 got, .int .i64 R.r2, .int .i64 R.r3, .int .i64 R.r4, .int .i64 R.r5, .int .i64 R.r6, .int .i64 R.r7]) (by simp [results, Try.results12, go_sem]) rfl ⟨rfl, (by repeat (first | exact Below.refl _ _ | refine Below.alloc ?_ (by simp; try omega) _ | refine Below.setCell ?_ (by simp; try omega) _ | refine Below.drew ?_))⟩
      · obtain rfl : T = (⟨R.r0, got, R.r2, R.r3, R.r4, R.r5, R.r6, R.r7⟩ : Rg) := by rw [HT.out]; simp [Rg.set]
        clear HT
        go_enter Try.func12, Try.ntmps12
        go_wp2_with (first | (go_at_call 20; refine (c1.out _).mono ?_; rintro e w' ⟨rfl, rfl⟩))
        exact bodyPost_ret (v := .agg #[.int .i64 R.r0, .int .i64 got, .int .i64 R.r2, .int .i64 R.r3, .int .i64 R.r4, .int .i64 R.r5, .int .i64 R.r6, .int .i64 R.r7]) (by simp [results, Try.results12, go_sem]) rfl ⟨rfl, (by repeat (first | exact Below.refl _ _ | refine Below.alloc ?_ (by simp; try omega) _ | refine Below.setCell ?_ (by simp; try omega) _ | refine Below.drew ?_))⟩
    · rcases hk with rfl | rfl | rfl
      · by_cases hg : got = V
        · subst hg
          obtain rfl : T = (⟨R.r0, R.r1, 1, R.r3, R.r4, R.r5, R.r6, R.r7⟩ : Rg) := by rw [HT.out]; simp [Rg.set]
          clear HT
          go_enter Try.func12, Try.ntmps12
          go_wp2_with (first | (go_at_call 20; refine (c1.out _).mono ?_; rintro e w' ⟨rfl, rfl⟩))
          exact bodyPost_ret (v := .agg #[.int .i64 R.r0, .int .i64 R.r1, .int .i64 1, .int .i64 R.r3, .int .i64 R.r4, .int .i64 R.r5, .int .i64 R.r6, .int .i64 R.r7]) (by simp [results, Try.results12, go_sem]) rfl ⟨rfl, (by repeat (first | exact Below.refl _ _ | refine Below.alloc ?_ (by simp; try omega) _ | refine Below.setCell ?_ (by simp; try omega) _ | refine Below.drew ?_))⟩
        · have e1 : (got == V) = false := by simp [hg]
          obtain rfl : T = (⟨R.r0, R.r1, 0, R.r3, R.r4, R.r5, R.r6, R.r7⟩ : Rg) := by rw [HT.out]; simp [Rg.set, hg]
          clear HT
          go_enter Try.func12, Try.ntmps12
          go_wp2_with (first | (go_at_call 20; refine (c1.out _).mono ?_; rintro e w' ⟨rfl, rfl⟩))
          exact bodyPost_ret (v := .agg #[.int .i64 R.r0, .int .i64 R.r1, .int .i64 0, .int .i64 R.r3, .int .i64 R.r4, .int .i64 R.r5, .int .i64 R.r6, .int .i64 R.r7]) (by simp [results, Try.results12, go_sem]) rfl ⟨rfl, (by repeat (first | exact Below.refl _ _ | refine Below.alloc ?_ (by simp; try omega) _ | refine Below.setCell ?_ (by simp; try omega) _ | refine Below.drew ?_))⟩
      · obtain rfl : T = (⟨R.r0, R.r1, got, R.r3, R.r4, R.r5, R.r6, R.r7⟩ : Rg) := by rw [HT.out]; simp [Rg.set]
        clear HT
        go_enter Try.func12, Try.ntmps12
        go_wp2_with (first | (go_at_call 20; refine (c1.out _).mono ?_; rintro e w' ⟨rfl, rfl⟩))
        exact bodyPost_ret (v := .agg #[.int .i64 R.r0, .int .i64 R.r1, .int .i64 got, .int .i64 R.r3, .int .i64 R.r4, .int .i64 R.r5, .int .i64 R.r6, .int .i64 R.r7]) (by simp [results, Try.results12, go_sem]) rfl ⟨rfl, (by repeat (first | exact Below.refl _ _ | refine Below.alloc ?_ (by simp; try omega) _ | refine Below.setCell ?_ (by simp; try omega) _ | refine Below.drew ?_))⟩
      · obtain rfl : T = (⟨R.r0, R.r1, got, R.r3, R.r4, R.r5, R.r6, R.r7⟩ : Rg) := by rw [HT.out]; simp [Rg.set]
        clear HT
        go_enter Try.func12, Try.ntmps12
        go_wp2_with (first | (go_at_call 20; refine (c1.out _).mono ?_; rintro e w' ⟨rfl, rfl⟩))
        exact bodyPost_ret (v := .agg #[.int .i64 R.r0, .int .i64 R.r1, .int .i64 got, .int .i64 R.r3, .int .i64 R.r4, .int .i64 R.r5, .int .i64 R.r6, .int .i64 R.r7]) (by simp [results, Try.results12, go_sem]) rfl ⟨rfl, (by repeat (first | exact Below.refl _ _ | refine Below.alloc ?_ (by simp; try omega) _ | refine Below.setCell ?_ (by simp; try omega) _ | refine Below.drew ?_))⟩
    · rcases hk with rfl | rfl | rfl
      · by_cases hg : got = V
        · subst hg
          obtain rfl : T = (⟨R.r0, R.r1, R.r2, 1, R.r4, R.r5, R.r6, R.r7⟩ : Rg) := by rw [HT.out]; simp [Rg.set]
          clear HT
          go_enter Try.func12, Try.ntmps12
          go_wp2_with (first | (go_at_call 20; refine (c1.out _).mono ?_; rintro e w' ⟨rfl, rfl⟩))
          exact bodyPost_ret (v := .agg #[.int .i64 R.r0, .int .i64 R.r1, .int .i64 R.r2, .int .i64 1, .int .i64 R.r4, .int .i64 R.r5, .int .i64 R.r6, .int .i64 R.r7]) (by simp [results, Try.results12, go_sem]) rfl ⟨rfl, (by repeat (first | exact Below.refl _ _ | refine Below.alloc ?_ (by simp; try omega) _ | refine Below.setCell ?_ (by simp; try omega) _ | refine Below.drew ?_))⟩
        · have e1 : (got == V) = false := by simp [hg]
          obtain rfl : T = (⟨R.r0, R.r1, R.r2, 0, R.r4, R.r5, R.r6, R.r7⟩ : Rg) := by rw [HT.out]; simp [Rg.set, hg]
          clear HT
          go_enter Try.func12, Try.ntmps12
          go_wp2_with (first | (go_at_call 20; refine (c1.out _).mono ?_; rintro e w' ⟨rfl, rfl⟩))
          exact bodyPost_ret (v := .agg #[.int .i64 R.r0, .int .i64 R.r1, .int .i64 R.r2, .int .i64 0, .int .i64 R.r4, .int .i64 R.r5, .int .i64 R.r6, .int .i64 R.r7]) (by simp [results, Try.results12, go_sem]) rfl ⟨rfl, (by repeat (first | exact Below.refl _ _ | refine Below.alloc ?_ (by simp; try omega) _ | refine Below.setCell ?_ (by simp; try omega) _ | refine Below.drew ?_))⟩
      · obtain rfl : T = (⟨R.r0, R.r1, R.r2, got, R.r4, R.r5, R.r6, R.r7⟩ : Rg) := by rw [HT.out]; simp [Rg.set]
        clear HT
        go_enter Try.func12, Try.ntmps12
        go_wp2_with (first | (go_at_call 20; refine (c1.out _).mono ?_; rintro e w' ⟨rfl, rfl⟩))
        exact bodyPost_ret (v := .agg #[.int .i64 R.r0, .int .i64 R.r1, .int .i64 R.r2, .int .i64 got, .int .i64 R.r4, .int .i64 R.r5, .int .i64 R.r6, .int .i64 R.r7]) (by simp [results, Try.results12, go_sem]) rfl ⟨rfl, (by repeat (first | exact Below.refl _ _ | refine Below.alloc ?_ (by simp; try omega) _ | refine Below.setCell ?_ (by simp; try omega) _ | refine Below.drew ?_))⟩
      · obtain rfl : T = (⟨R.r0, R.r1, R.r2, got, R.r4, R.r5, R.r6, R.r7⟩ : Rg) := by rw [HT.out]; simp [Rg.set]
        clear HT
        go_enter Try.func12, Try.ntmps12
        go_wp2_with (first | (go_at_call 20; refine (c1.out _).mono ?_; rintro e w' ⟨rfl, rfl⟩))
        exact bodyPost_ret (v := .agg #[.int .i64 R.r0, .int .i64 R.r1, .int .i64 R.r2, .int .i64 got, .int .i64 R.r4, .int .i64 R.r5, .int .i64 R.r6, .int .i64 R.r7]) (by simp [results, Try.results12, go_sem]) rfl ⟨rfl, (by repeat (first | exact Below.refl _ _ | refine Below.alloc ?_ (by simp; try omega) _ | refine Below.setCell ?_ (by simp; try omega) _ | refine Below.drew ?_))⟩
    · rcases hk with rfl | rfl | rfl
      · by_cases hg : got = V
        · subst hg
          obtain rfl : T = (⟨R.r0, R.r1, R.r2, R.r3, 1, R.r5, R.r6, R.r7⟩ : Rg) := by rw [HT.out]; simp [Rg.set]
          clear HT
          go_enter Try.func12, Try.ntmps12
          go_wp2_with (first | (go_at_call 20; refine (c1.out _).mono ?_; rintro e w' ⟨rfl, rfl⟩))
          exact bodyPost_ret (v := .agg #[.int .i64 R.r0, .int .i64 R.r1, .int .i64 R.r2, .int .i64 R.r3, .int .i64 1, .int .i64 R.r5, .int .i64 R.r6, .int .i64 R.r7]) (by simp [results, Try.results12, go_sem]) rfl ⟨rfl, (by repeat (first | exact Below.refl _ _ | refine Below.alloc ?_ (by simp; try omega) _ | refine Below.setCell ?_ (by simp; try omega) _ | refine Below.drew ?_))⟩
        · have e1 : (got == V) = false := by simp [hg]
          obtain rfl : T = (⟨R.r0, R.r1, R.r2, R.r3, 0, R.r5, R.r6, R.r7⟩ : Rg) := by rw [HT.out]; simp [Rg.set, hg]
          clear HT
          go_enter Try.func12, Try.ntmps12
          go_wp2_with (first | (go_at_call 20; refine (c1.out _).mono ?_; rintro e w' ⟨rfl, rfl⟩))
          exact bodyPost_ret (v := .agg #[.int .i64 R.r0, .int .i64 R.r1, .int .i64 R.r2, .int .i64 R.r3, .int .i64 0, .int .i64 R.r5, .int .i64 R.r6, .int .i64 R.r7]) (by simp [results, Try.results12, go_sem]) rfl ⟨rfl, (by repeat (first | exact Below.refl _ _ | refine Below.alloc ?_ (by simp; try omega) _ | refine Below.setCell ?_ (by simp; try omega) _ | refine Below.drew ?_))⟩
      · obtain rfl : T = (⟨R.r0, R.r1, R.r2, R.r3, got, R.r5, R.r6, R.r7⟩ : Rg) := by rw [HT.out]; simp [Rg.set]
        clear HT
        go_enter Try.func12, Try.ntmps12
        go_wp2_with (first | (go_at_call 20; refine (c1.out _).mono ?_; rintro e w' ⟨rfl, rfl⟩))
        exact bodyPost_ret (v := .agg #[.int .i64 R.r0, .int .i64 R.r1, .int .i64 R.r2, .int .i64 R.r3, .int .i64 got, .int .i64 R.r5, .int .i64 R.r6, .int .i64 R.r7]) (by simp [results, Try.results12, go_sem]) rfl ⟨rfl, (by repeat (first | exact Below.refl _ _ | refine Below.alloc ?_ (by simp; try omega) _ | refine Below.setCell ?_ (by simp; try omega) _ | refine Below.drew ?_))⟩
      · obtain rfl : T = (⟨R.r0, R.r1, R.r2, R.r3, got, R.r5, R.r6, R.r7⟩ : Rg) := by rw [HT.out]; simp [Rg.set]
        clear HT
        go_enter Try.func12, Try.ntmps12
        go_wp2_with (first | (go_at_call 20; refine (c1.out _).mono ?_; rintro e w' ⟨rfl, rfl⟩))
        exact bodyPost_ret (v := .agg #[.int .i64 R.r0, .int .i64 R.r1, .int .i64 R.r2, .int .i64 R.r3, .int .i64 got, .int .i64 R.r5, .int .i64 R.r6, .int .i64 R.r7]) (by simp [results, Try.results12, go_sem]) rfl ⟨rfl, (by repeat (first | exact Below.refl _ _ | refine Below.alloc ?_ (by simp; try omega) _ | refine Below.setCell ?_ (by simp; try omega) _ | refine Below.drew ?_))⟩
    · rcases hk with rfl | rfl | rfl
      · by_cases hg : got = V
        · subst hg
          obtain rfl : T = (⟨R.r0, R.r1, R.r2, R.r3, R.r4, 1, R.r6, R.r7⟩ : Rg) := by rw [HT.out]; simp [Rg.set]
          clear HT
          go_enter Try.func12, Try.ntmps12
          go_wp2_with (first | (go_at_call 20; refine (c1.out _).mono ?_; rintro e w' ⟨rfl, rfl⟩))
          exact bodyPost_ret (v := .agg #[.int .i64 R.r0, .int .i64 R.r1, .int .i64 R.r2, .int .i64 R.r3, .int .i64 R.r4, .int .i64 1, .int .i64 R.r6, .int .i64 R.r7]) (by simp [results, Try.results12, go_sem]) rfl ⟨rfl, (by repeat (first | exact Below.refl _ _ | refine Below.alloc ?_ (by simp; try omega) _ | refine Below.setCell ?_ (by simp; try omega) _ | refine Below.drew ?_))⟩
        · have e1 : (got == V) = false := by simp [hg]
          obtain rfl : T = (⟨R.r0, R.r1, R.r2, R.r3, R.r4, 0, R.r6, R.r7⟩ : Rg) := by rw [HT.out]; simp [Rg.set, hg]
          clear HT
          go_enter Try.func12, Try.ntmps12
          go_wp2_with (first | (go_at_call 20; refine (c1.out _).mono ?_; rintro e w' ⟨rfl, rfl⟩))
          exact bodyPost_ret (v := .agg #[.int .i64 R.r0, .int .i64 R.r1, .int .i64 R.r2, .int .i64 R.r3, .int .i64 R.r4, .int .i64 0, .int .i64 R.r6, .int .i64 R.r7]) (by simp [results, Try.results12, go_sem]) rfl ⟨rfl, (by repeat (first | exact Below.refl _ _ | refine Below.alloc ?_ (by simp; try omega) _ | refine Below.setCell ?_ (by simp; try omega) _ | refine Below.drew ?_))⟩
      · obtain rfl : T = (⟨R.r0, R.r1, R.r2, R.r3, R.r4, got, R.r6, R.r7⟩ : Rg) := by rw [HT.out]; simp [Rg.set]
        clear HT
        go_enter Try.func12, Try.ntmps12
        go_wp2_with (first | (go_at_call 20; refine (c1.out _).mono ?_; rintro e w' ⟨rfl, rfl⟩))
        exact bodyPost_ret (v := .agg #[.int .i64 R.r0, .int .i64 R.r1, .int .i64 R.r2, .int .i64 R.r3, .int .i64 R.r4, .int .i64 got, .int .i64 R.r6, .int .i64 R.r7]) (by simp [results, Try.results12, go_sem]) rfl ⟨rfl, (by repeat (first | exact Below.refl _ _ | refine Below.alloc ?_ (by simp; try omega) _ | refine Below.setCell ?_ (by simp; try omega) _ | refine Below.drew ?_))⟩
      · obtain rfl : T = (⟨R.r0, R.r1, R.r2, R.r3, R.r4, got, R.r6, R.r7⟩ : Rg) := by rw [HT.out]; simp [Rg.set]
        clear HT
        go_enter Try.func12, Try.ntmps12
        go_wp2_with (first | (go_at_call 20; refine (c1.out _).mono ?_; rintro e w' ⟨rfl, rfl⟩))
        exact bodyPost_ret (v := .agg #[.int .i64 R.r0, .int .i64 R.r1, .int .i64 R.r2, .int .i64 R.r3, .int .i64 R.r4, .int .i64 got, .int .i64 R.r6, .int .i64 R.r7]) (by simp [results, Try.results12, go_sem]) rfl ⟨rfl, (by repeat (first | exact Below.refl _ _ | refine Below.alloc ?_ (by simp; try omega) _ | refine Below.setCell ?_ (by simp; try omega) _ | refine Below.drew ?_))⟩
    · rcases hk with rfl | rfl | rfl
      · by_cases hg : got = V
        · subst hg
          obtain rfl : T = (⟨R.r0, R.r1, R.r2, R.r3, R.r4, R.r5, 1, R.r7⟩ : Rg) := by rw [HT.out]; simp [Rg.set]
          clear HT
          go_enter Try.func12, Try.ntmps12
          go_wp2_with (first | (go_at_call 20; refine (c1.out _).mono ?_; rintro e w' ⟨rfl, rfl⟩))
          exact bodyPost_ret (v := .agg #[.int .i64 R.r0, .int .i64 R.r1, .int .i64 R.r2, .int .i64 R.r3, .int .i64 R.r4, .int .i64 R.r5, .int .i64 1, .int .i64 R.r7]) (by simp [results, Try.results12, go_sem]) rfl ⟨rfl, (by repeat (first | exact Below.refl _ _ | refine Below.alloc ?_ (by simp; try omega) _ | refine Below.setCell ?_ (by simp; try omega) _ | refine Below.drew ?_))⟩
        · have e1 : (got == V) = false := by simp [hg]
          obtain rfl : T = (⟨R.r0, R.r1, R.r2, R.r3, R.r4, R.r5, 0, R.r7⟩ : Rg) := by rw [HT.out]; simp [Rg.set, hg]
          clear HT
          go_enter Try.func12, Try.ntmps12
          go_wp2_with (first | (go_at_call 20; refine (c1.out _).mono ?_; rintro e w' ⟨rfl, rfl⟩))
          exact bodyPost_ret (v := .agg #[.int .i64 R.r0, .int .i64 R.r1, .int .i64 R.r2, .int .i64 R.r3, .int .i64 R.r4, .int .i64 R.r5, .int .i64 0, .int .i64 R.r7]) (by simp [results, Try.results12, go_sem]) rfl ⟨rfl, (by repeat (first | exact Below.refl _ _ | refine Below.alloc ?_ (by simp; try omega) _ | refine Below.setCell ?_ (by simp; try omega) _ | refine Below.drew ?_))⟩
      · obtain rfl : T = (⟨R.r0, R.r1, R.r2, R.r3, R.r4, R.r5, got, R.r7⟩ : Rg) := by rw [HT.out]; simp [Rg.set]
        clear HT
        go_enter Try.func12, Try.ntmps12
        go_wp2_with (first | (go_at_call 20; refine (c1.out _).mono ?_; rintro e w' ⟨rfl, rfl⟩))
        exact bodyPost_ret (v := .agg #[.int .i64 R.r0, .int .i64 R.r1, .int .i64 R.r2, .int .i64 R.r3, .int .i64 R.r4, .int .i64 R.r5, .int .i64 got, .int .i64 R.r7]) (by simp [results, Try.results12, go_sem]) rfl ⟨rfl, (by repeat (first | exact Below.refl _ _ | refine Below.alloc ?_ (by simp; try omega) _ | refine Below.setCell ?_ (by simp; try omega) _ | refine Below.drew ?_))⟩
      · obtain rfl : T = (⟨R.r0, R.r1, R.r2, R.r3, R.r4, R.r5, got, R.r7⟩ : Rg) := by rw [HT.out]; simp [Rg.set]
        clear HT
        go_enter Try.func12, Try.ntmps12
        go_wp2_with (first | (go_at_call 20; refine (c1.out _).mono ?_; rintro e w' ⟨rfl, rfl⟩))
        exact bodyPost_ret (v := .agg #[.int .i64 R.r0, .int .i64 R.r1, .int .i64 R.r2, .int .i64 R.r3, .int .i64 R.r4, .int .i64 R.r5, .int .i64 got, .int .i64 R.r7]) (by simp [results, Try.results12, go_sem]) rfl ⟨rfl, (by repeat (first | exact Below.refl _ _ | refine Below.alloc ?_ (by simp; try omega) _ | refine Below.setCell ?_ (by simp; try omega) _ | refine Below.drew ?_))⟩
    · rcases hk with rfl | rfl | rfl
      · by_cases hg : got = V
        · subst hg
          obtain rfl : T = (⟨R.r0, R.r1, R.r2, R.r3, R.r4, R.r5, R.r6, 1⟩ : Rg) := by rw [HT.out]; simp [Rg.set]
          clear HT
          go_enter Try.func12, Try.ntmps12
          go_wp2_with (first | (go_at_call 20; refine (c1.out _).mono ?_; rintro e w' ⟨rfl, rfl⟩))
          exact bodyPost_ret (v := .agg #[.int .i64 R.r0, .int .i64 R.r1, .int .i64 R.r2, .int .i64 R.r3, .int .i64 R.r4, .int .i64 R.r5, .int .i64 R.r6, .int .i64 1]) (by simp [results, Try.results12, go_sem]) rfl ⟨rfl, (by repeat (first | exact Below.refl _ _ | refine Below.alloc ?_ (by simp; try omega) _ | refine Below.setCell ?_ (by simp; try omega) _ | refine Below.drew ?_))⟩
        · have e1 : (got == V) = false := by simp [hg]
          obtain rfl : T = (⟨R.r0, R.r1, R.r2, R.r3, R.r4, R.r5, R.r6, 0⟩ : Rg) := by rw [HT.out]; simp [Rg.set, hg]
          clear HT
          go_enter Try.func12, Try.ntmps12
          go_wp2_with (first | (go_at_call 20; refine (c1.out _).mono ?_; rintro e w' ⟨rfl, rfl⟩))
          exact bodyPost_ret (v := .agg #[.int .i64 R.r0, .int .i64 R.r1, .int .i64 R.r2, .int .i64 R.r3, .int .i64 R.r4, .int .i64 R.r5, .int .i64 R.r6, .int .i64 0]) (by simp [results, Try.results12, go_sem]) rfl ⟨rfl, (by repeat (first | exact Below.refl _ _ | refine Below.alloc ?_ (by simp; try omega) _ | refine Below.setCell ?_ (by simp; try omega) _ | refine Below.drew ?_))⟩
      · obtain rfl : T = (⟨R.r0, R.r1, R.r2, R.r3, R.r4, R.r5, R.r6, got⟩ : Rg) := by rw [HT.out]; simp [Rg.set]
        clear HT
        go_enter Try.func12, Try.ntmps12
        go_wp2_with (first | (go_at_call 20; refine (c1.out _).mono ?_; rintro e w' ⟨rfl, rfl⟩))
        exact bodyPost_ret (v := .agg #[.int .i64 R.r0, .int .i64 R.r1, .int .i64 R.r2, .int .i64 R.r3, .int .i64 R.r4, .int .i64 R.r5, .int .i64 R.r6, .int .i64 got]) (by simp [results, Try.results12, go_sem]) rfl ⟨rfl, (by repeat (first | exact Below.refl _ _ | refine Below.alloc ?_ (by simp; try omega) _ | refine Below.setCell ?_ (by simp; try omega) _ | refine Below.drew ?_))⟩
      · obtain rfl : T = (⟨R.r0, R.r1, R.r2, R.r3, R.r4, R.r5, R.r6, got⟩ : Rg) := by rw [HT.out]; simp [Rg.set]
        clear HT
        go_enter Try.func12, Try.ntmps12
        go_wp2_with (first | (go_at_call 20; refine (c1.out _).mono ?_; rintro e w' ⟨rfl, rfl⟩))
        exact bodyPost_ret (v := .agg #[.int .i64 R.r0, .int .i64 R.r1, .int .i64 R.r2, .int .i64 R.r3, .int .i64 R.r4, .int .i64 R.r5, .int .i64 R.r6, .int .i64 got]) (by simp [results, Try.results12, go_sem]) rfl ⟨rfl, (by repeat (first | exact Below.refl _ _ | refine Below.alloc ?_ (by simp; try omega) _ | refine Below.setCell ?_ (by simp; try omega) _ | refine Below.drew ?_))⟩
  · have e4 : (K == 4) = false := by simp; omega
    have e1 : (K == 1) = false := by simp; omega
    have e3 : (K == 3) = false := by simp; omega
    obtain rfl : T = R := by rw [HT.out, if_neg (by omega), if_neg (by omega)]
    clear HT hk
    go_enter Try.func12, Try.ntmps12
    go_wp2_with (first | (go_at_call 20; refine (c1.out _).mono ?_; rintro e w' ⟨rfl, rfl⟩))
    exact bodyPost_ret (v := .agg #[.int .i64 T.r0, .int .i64 T.r1, .int .i64 T.r2, .int .i64 T.r3, .int .i64 T.r4, .int .i64 T.r5, .int .i64 T.r6, .int .i64 T.r7]) (by simp [results, Try.results12, go_sem]) rfl ⟨rfl, (by repeat (first | exact Below.refl _ _ | refine Below.alloc ?_ (by simp; try omega) _ | refine Below.setCell ?_ (by simp; try omega) _ | refine Below.drew ?_))⟩

theorem asks_any (K At V O rg : Int) (w : World) :
    Calls Try.prog 13 #[.agg #[.int .i64 K, .int .i64 At, .int .i64 V, .int .i64 O, .int .i64 rg]] w fun e w' => e = .returned (.bool (decide (1 ≤ K ∧ K ≤ 4))) ∧ Below w.heap.size w w' := by
  by_cases h1 : 1 ≤ K
  · have e1 : decide (1 ≤ K) = true := by simp [h1]
    have e2 : decide (1 ≤ K ∧ K ≤ 4) = decide (K ≤ 4) := by simp [h1]
    rw [e2]
    go_enter Try.func13, Try.ntmps13
    go_wp2
    all_goals (go_ret; exact ⟨ret_bool (by simp <;> omega), (by repeat (first | exact Below.refl _ _ | refine Below.alloc ?_ (by simp; try omega) _ | refine Below.setCell ?_ (by simp; try omega) _ | refine Below.drew ?_))⟩)
  · have e1 : decide (1 ≤ K) = false := by simp [h1]
    have e2 : decide (1 ≤ K ∧ K ≤ 4) = false := by simp [h1]
    rw [e2]
    go_enter Try.func13, Try.ntmps13
    go_wp2
    all_goals (go_ret; exact ⟨ret_bool (by simp <;> omega), (by repeat (first | exact Below.refl _ _ | refine Below.alloc ?_ (by simp; try omega) _ | refine Below.setCell ?_ (by simp; try omega) _ | refine Below.drew ?_))⟩)
theorem ends_any (K At V O rg : Int) (w : World) :
    Calls Try.prog 14 #[.agg #[.int .i64 K, .int .i64 At, .int .i64 V, .int .i64 O, .int .i64 rg]] w fun e w' => e = .returned (.bool (decide (7 ≤ K ∧ K ≤ 12))) ∧ Below w.heap.size w w' := by
  by_cases h1 : 7 ≤ K
  · have e1 : decide (7 ≤ K) = true := by simp [h1]
    have e2 : decide (7 ≤ K ∧ K ≤ 12) = decide (K ≤ 12) := by simp [h1]
    rw [e2]
    go_enter Try.func14, Try.ntmps14
    go_wp2
    all_goals (go_ret; exact ⟨ret_bool (by simp <;> omega), (by repeat (first | exact Below.refl _ _ | refine Below.alloc ?_ (by simp; try omega) _ | refine Below.setCell ?_ (by simp; try omega) _ | refine Below.drew ?_))⟩)
  · have e1 : decide (7 ≤ K) = false := by simp [h1]
    have e2 : decide (7 ≤ K ∧ K ≤ 12) = false := by simp [h1]
    rw [e2]
    go_enter Try.func14, Try.ntmps14
    go_wp2
    all_goals (go_ret; exact ⟨ret_bool (by simp <;> omega), (by repeat (first | exact Below.refl _ _ | refine Below.alloc ?_ (by simp; try omega) _ | refine Below.setCell ?_ (by simp; try omega) _ | refine Below.drew ?_))⟩)

end Go.Proofs.Ythmeonabdpbmjaa.Sp
