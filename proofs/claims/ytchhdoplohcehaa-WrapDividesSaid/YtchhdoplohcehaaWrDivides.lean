/- For every input WrapDivides returns true, and its arguments read as they did. No conditions. -/
import Derived.Test.YtchhdoplohcehaaWrW
import Derived.Test.YtchhdoplohcehaaFrame
namespace Go.Proofs.Ytchhdoplohcehaa.WrDivides
open Go.RowKit Go.Proofs.Ytchhdoplohcehaa.Wr
set_option linter.unusedVariables false

theorem walk_zero (a : Int) (w : World) :
    Calls Try.prog 5 #[.int .i64 a, .int .i64 0] w fun e w' => e = .returned (.bool true) ∧ Below w.heap.size w w' := by
  have k1 : doV 6 a 0 = 0 := rfl
  have k2 : doV 7 a 0 = 0 := rfl
  have k3 : doF 6 0 = 1 := rfl
  have k4 : doF 7 0 = 1 := rfl
  go_enter Try.func5, Try.ntmps5
  go_wp2_with (first | (go_at_call 10; refine (works_any _).mono ?_; rintro e w' ⟨rfl, rfl⟩) | (go_at_call 8; refine (do_any _ _ _ _).mono ?_; rintro e w' ⟨rfl, rfl⟩))
  go_ret
  exact ⟨rfl, (Below.refl _ _).alloc (Nat.le_refl _) _⟩

theorem walk_even (a b q p r : Int) (k1 : doV 6 a b = q) (k2 : doV 7 a b = r) (k3 : doV 5 q b = p) (k4 : doV 3 p r = a) (f1 : doF 6 b = 0) (f2 : doF 7 b = 0) (f3 : doF 5 b = 0) (f4 : doF 3 r = 0) (hb0 : (b == 0) = false) (bb : -9223372036854775808 ≤ b ∧ b ≤ 9223372036854775807) (hr : r = 0) (w : World) :
    Calls Try.prog 5 #[.int .i64 a, .int .i64 b] w fun e w' => e = .returned (.bool true) ∧ Below w.heap.size w w' := by
  subst hr
  go_enter Try.func5, Try.ntmps5
  go_wp2_with (first | (go_at_call 10; refine (works_any _).mono ?_; rintro e w' ⟨rfl, rfl⟩) | (go_at_call 8; refine (do_any _ _ _ _).mono ?_; rintro e w' ⟨rfl, rfl⟩))
  go_ret
  exact ⟨rfl, (Below.refl _ _).alloc (Nat.le_refl _) _⟩

theorem walk_pos (a b q p r : Int) (k1 : doV 6 a b = q) (k2 : doV 7 a b = r) (k3 : doV 5 q b = p) (k4 : doV 3 p r = a) (f1 : doF 6 b = 0) (f2 : doF 7 b = 0) (f3 : doF 5 b = 0) (f4 : doF 3 r = 0) (hb0 : (b == 0) = false) (bb : -9223372036854775808 ≤ b ∧ b ≤ 9223372036854775807) (hr : (r == 0) = false) (hb : 0 < b) (h1 : r < b) (h2 : -b < r) (s : Bool) (hs1 : decide (r < 0) = s) (hs2 : decide (a < 0) = s) (w : World) :
    Calls Try.prog 5 #[.int .i64 a, .int .i64 b] w fun e w' => e = .returned (.bool true) ∧ Below w.heap.size w w' := by
  go_enter Try.func5, Try.ntmps5
  go_wp2_with (first | (go_at_call 10; refine (works_any _).mono ?_; rintro e w' ⟨rfl, rfl⟩) | (go_at_call 8; refine (do_any _ _ _ _).mono ?_; rintro e w' ⟨rfl, rfl⟩))
  go_ret
  exact ⟨rfl, (Below.refl _ _).alloc (Nat.le_refl _) _⟩

theorem walk_least (a b q p r : Int) (k1 : doV 6 a b = q) (k2 : doV 7 a b = r) (k3 : doV 5 q b = p) (k4 : doV 3 p r = a) (f1 : doF 6 b = 0) (f2 : doF 7 b = 0) (f3 : doF 5 b = 0) (f4 : doF 3 r = 0) (hb0 : (b == 0) = false) (bb : -9223372036854775808 ≤ b ∧ b ≤ 9223372036854775807) (hr : (r == 0) = false) (hb : b = -9223372036854775808) (h1 : b < r) (s : Bool) (hs1 : decide (r < 0) = s) (hs2 : decide (a < 0) = s) (w : World) :
    Calls Try.prog 5 #[.int .i64 a, .int .i64 b] w fun e w' => e = .returned (.bool true) ∧ Below w.heap.size w w' := by
  subst hb
  go_enter Try.func5, Try.ntmps5
  go_wp2_with (first | (go_at_call 10; refine (works_any _).mono ?_; rintro e w' ⟨rfl, rfl⟩) | (go_at_call 8; refine (do_any _ _ _ _).mono ?_; rintro e w' ⟨rfl, rfl⟩))
  go_ret
  exact ⟨rfl, (Below.refl _ _).alloc (Nat.le_refl _) _⟩

theorem walk_neg (a b q p r : Int) (k1 : doV 6 a b = q) (k2 : doV 7 a b = r) (k3 : doV 5 q b = p) (k4 : doV 3 p r = a) (f1 : doF 6 b = 0) (f2 : doF 7 b = 0) (f3 : doF 5 b = 0) (f4 : doF 3 r = 0) (hb0 : (b == 0) = false) (bb : -9223372036854775808 ≤ b ∧ b ≤ 9223372036854775807) (hr : (r == 0) = false) (hb : b < 0) (hl : (b == -9223372036854775808) = false) (hl2 : -9223372036854775808 < b) (h1 : b < r) (h2 : r < -b) (s : Bool) (hs1 : decide (r < 0) = s) (hs2 : decide (a < 0) = s) (w : World) :
    Calls Try.prog 5 #[.int .i64 a, .int .i64 b] w fun e w' => e = .returned (.bool true) ∧ Below w.heap.size w w' := by
  go_enter Try.func5, Try.ntmps5
  go_wp2_with (first | (go_at_call 10; refine (works_any _).mono ?_; rintro e w' ⟨rfl, rfl⟩) | (go_at_call 8; refine (do_any _ _ _ _).mono ?_; rintro e w' ⟨rfl, rfl⟩))
  go_ret
  exact ⟨rfl, (Below.refl _ _).alloc (Nat.le_refl _) _⟩

theorem walk (a b : Int) (w : World) (ha : -9223372036854775808 ≤ a ∧ a ≤ 9223372036854775807) (hb : -9223372036854775808 ≤ b ∧ b ≤ 9223372036854775807) :
    Calls Try.prog 5 #[.int .i64 a, .int .i64 b] w fun e w' => e = .returned (.bool true) ∧ Below w.heap.size w w' := by
  by_cases h0 : b = 0
  · subst h0; exact walk_zero a w
  · have n1 := tmod_near a b h0
    have n2 := tmod_sign a b
    have k1 : doV 6 a b = wrap64 (a.tdiv b) := by simp [doV, h0]
    have k2 : doV 7 a b = a.tmod b := by simp [doV, h0]
    have k4 : doV 3 (wrap64 (wrap64 (a.tdiv b) * b)) (a.tmod b) = a := div_back a b ha.1 ha.2
    have f1 : doF 6 b = 0 := by simp [doF, h0]
    have f2 : doF 7 b = 0 := by simp [doF, h0]
    have hb0 : (b == 0) = false := by simp [h0]
    generalize a.tmod b = r at *
    by_cases hr : r = 0
    · exact walk_even a b _ _ r k1 k2 rfl k4 f1 f2 rfl rfl hb0 hb hr w
    · have hr' : (r == 0) = false := by simp [hr]
      have hs : decide (a < 0) = decide (r < 0) := by rw [decide_eq_decide]; omega
      by_cases hp : 0 < b
      · exact walk_pos a b _ _ r k1 k2 rfl k4 f1 f2 rfl rfl hb0 hb hr' hp (by omega) (by omega) _ rfl hs w
      · by_cases hl : b = -9223372036854775808
        · exact walk_least a b _ _ r k1 k2 rfl k4 f1 f2 rfl rfl hb0 hb hr' hl (by omega) _ rfl hs w
        · exact walk_neg a b _ _ r k1 k2 rfl k4 f1 f2 rfl rfl hb0 hb hr' (by omega) (by simp [hl]) (by omega) (by omega) (by omega) _ rfl hs w

open Go.ChangeShapes Go.WideShapes Go.ChangeAt

set_option maxRecDepth 100000 in
theorem lifted (os : Os) (started : os.Started) (H : Type) (enc : TypeId × Value → H) :
    ReturnsInHanded {} Try.checked os 5 .any (Rows.wrapDividesSpec.pre6 enc Try.prog Try.f5 Rows.wrapDividesRow.domain false) (Rows.wrapDividesSpec.post enc Try.prog Try.f5 false true false false) := by
  refine Frame.law_lift (C := Try.checked) Frame.own started (by kernel_rfl) Try.func5 Frame.laidOut
    (ChangeSpec.witness6 (enc := enc) (C := Try.checked) false ⟨#[], #[.int .i64 0, .int .i64 0], []⟩ 8 (by kernel_rfl) (by kernel_rfl) (by kernel_rfl) (by kernel_rfl))
    rfl rfl Try.underlying4 (by kernel_rfl) (fun ds h => by match ds, h with | [_, _], _ => exact ⟨rfl, rfl, rfl⟩) ?_
  intro W base args ds p hval0 hA hlt hsz
  have hval : ∀ (j : Nat) t v, Try.f5.params[j]? = some t → args[j]? = some v → Value.okWide Try.prog W .any base t v := hval0
  clear hval0
  replace hA : DataW.TrodAll enc Try.prog W 0 (fun _ => true) true Try.f5.params.toList args.toList ds p := hA
  replace hsz : (DataW.weightsEach Try.prog Try.f5.params.toList ds).all (· ≤ reachBytes) = true := hsz
  rw [Try.params5] at hA hval hsz
  obtain ⟨v0, v1, d0, d1, p0, p1, rfl, rfl, rfl, h0, h1⟩ := trodAll_two hA
  obtain ⟨a0, rfl, rfl, rfl, w0⟩ := open_int Try.underlying3 (hval 0 3 v0 rfl rfl) h0
  obtain ⟨a1, rfl, rfl, rfl, w1⟩ := open_int Try.underlying3 (hval 1 3 v1 rfl rfl) h1
  exact walk a0 a1 W (bd_i64 w0) (bd_i64 w1)

theorem proved : Rows.WrapDividesSaid :=
  OpenClaim.holds_of_wide 5 Try.f5 rfl rfl rfl rfl rfl rfl rfl ⟨rfl, rfl, rfl, rfl, rfl⟩ rfl rfl rfl rfl rfl (by kernel_rfl) Try.func5 (by kernel_rfl)
    (of_decide_eq_true (by kernel_rfl)) (by unfold Func.isWrapper; first | (rw [if_pos (by decide +kernel)]; kernel_rfl) | (rw [if_neg (by decide +kernel)]; exact ⟨rfl, rfl⟩))
    (fun os started H enc _ => lifted os started H enc)
#print axioms proved

end Go.Proofs.Ytchhdoplohcehaa.WrDivides
