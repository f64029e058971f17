/- For every input WrapOrders returns true, and its arguments read as they did. No conditions. -/
import Derived.Test.YtchhdoplohcehaaWrW
import Derived.Test.YtchhdoplohcehaaFrame
namespace Go.Proofs.Ytchhdoplohcehaa.WrOrders
open Go.RowKit Go.Proofs.Ytchhdoplohcehaa.Wr
set_option linter.unusedVariables false

theorem walk0 (a b p q r : Int) (w : World) (x y z : Bool) (k1 : doV 8 a b = b2i x) (k2 : doV 8 b a = b2i y) (k3 : doV 9 a b = b2i z) (k4 : doV 10 a b = p) (k5 : doV 11 a b = q) (k6 : doV 12 a b = r) (k7 : doV 4 q p = r)
    (k8 : sumW [p, q] = sumW [a, b]) (hx : decide (a < b) = x) (hxyz : x = true ∧ y = false ∧ z = false ∨ x = false ∧ y = true ∧ z = false ∨ x = false ∧ y = false ∧ z = true)
    (f1 : doF 8 b = 0) (f2 : doF 8 a = 0) (f3 : doF 9 b = 0) (f4 : doF 10 b = 0) (f5 : doF 11 b = 0) (f6 : doF 12 b = 0) (f7 : doF 4 p = 0) :
    Calls Try.prog 6 #[.int .i64 a, .int .i64 b] w fun e w' => e = .returned (.bool true) ∧ Below w.heap.size w w' := by
  rcases hxyz with ⟨rfl, rfl, rfl⟩ | ⟨rfl, rfl, rfl⟩ | ⟨rfl, rfl, rfl⟩
  all_goals
    rw [b2i] at k1 k2 k3
    simp only [if_true, Bool.false_eq_true, if_false] at k1 k2 k3
    go_enter Try.func6, Try.ntmps6
    go_wp2_with (first | (go_at_call 10; refine (works_any _).mono ?_; rintro e w' ⟨rfl, rfl⟩) | (go_at_call 8; refine (do_any _ _ _ _).mono ?_; rintro e w' ⟨rfl, rfl⟩))
    refine (sum_any _ _ _ [p, q] _ rfl (by simp) ?_).mono ?_
    · intro _
      refine ⟨_, _, rfl, ?_⟩
      intro j hj
      match j, hj with
      | 0, _ => rw [cell_new _ _ _ _ _ (by simp)]; simp
      | 1, _ => rw [cell_new _ _ _ _ _ (by simp)]; simp
    rintro e w' ⟨rfl, rfl⟩
    go_wp2_with fail
    refine (sum_any _ _ _ [a, b] _ rfl (by simp) ?_).mono ?_
    · intro _
      refine ⟨_, _, rfl, ?_⟩
      intro j hj
      match j, hj with
      | 0, _ => rw [cell_new _ _ _ _ _ (by simp)]; simp
      | 1, _ => rw [cell_new _ _ _ _ _ (by simp)]; simp
    rintro e w' ⟨rfl, rfl⟩
    go_wp2_with fail
    go_ret
    exact ⟨rfl, (((Below.refl _ _).alloc (Nat.le_refl _) _).alloc (by simp) _).alloc (by simp; omega) _⟩

theorem walk (a b : Int) (w : World) (ha : -9223372036854775808 ≤ a ∧ a ≤ 9223372036854775807) (hb : -9223372036854775808 ≤ b ∧ b ≤ 9223372036854775807) :
    Calls Try.prog 6 #[.int .i64 a, .int .i64 b] w fun e w' => e = .returned (.bool true) ∧ Below w.heap.size w w' := by
  refine walk0 a b _ _ _ w (decide (a < b)) (decide (b < a)) (a == b) rfl rfl rfl rfl rfl rfl ?_ ?_ rfl ?_ rfl rfl rfl rfl rfl rfl rfl
  · exact or_sub_and a b
  · show wrap64 (wrap64 (0 + bits .and .i64 a b) + bits .or .i64 a b) = wrap64 (wrap64 (0 + a) + b)
    have := and_or_sum a b
    unfold wrap64 at *
    omega
  · rcases Int.lt_trichotomy a b with h | h | h
    · left; simp; omega
    · right; right; simp; omega
    · right; left; simp; omega

open Go.ChangeShapes Go.WideShapes Go.ChangeAt

set_option maxRecDepth 100000 in
theorem lifted (os : Os) (started : os.Started) (H : Type) (enc : TypeId × Value → H) :
    ReturnsInHanded {} Try.checked os 6 .any (Rows.wrapOrdersSpec.pre6 enc Try.prog Try.f6 Rows.wrapOrdersRow.domain false) (Rows.wrapOrdersSpec.post enc Try.prog Try.f6 false true false false) := by
  refine Frame.law_lift (C := Try.checked) Frame.own started (by kernel_rfl) Try.func6 Frame.laidOut
    (ChangeSpec.witness6 (enc := enc) (C := Try.checked) false ⟨#[], #[.int .i64 0, .int .i64 0], []⟩ 8 (by kernel_rfl) (by kernel_rfl) (by kernel_rfl) (by kernel_rfl))
    rfl rfl Try.underlying4 (by kernel_rfl) (fun ds h => by match ds, h with | [_, _], _ => exact ⟨rfl, rfl, rfl⟩) ?_
  intro W base args ds p hval0 hA hlt hsz
  have hval : ∀ (j : Nat) t v, Try.f6.params[j]? = some t → args[j]? = some v → Value.okWide Try.prog W .any base t v := hval0
  clear hval0
  replace hA : DataW.TrodAll enc Try.prog W 0 (fun _ => true) true Try.f6.params.toList args.toList ds p := hA
  replace hsz : (DataW.weightsEach Try.prog Try.f6.params.toList ds).all (· ≤ reachBytes) = true := hsz
  rw [Try.params6] at hA hval hsz
  obtain ⟨v0, v1, d0, d1, p0, p1, rfl, rfl, rfl, h0, h1⟩ := trodAll_two hA
  obtain ⟨a0, rfl, rfl, rfl, w0⟩ := open_int Try.underlying3 (hval 0 3 v0 rfl rfl) h0
  obtain ⟨a1, rfl, rfl, rfl, w1⟩ := open_int Try.underlying3 (hval 1 3 v1 rfl rfl) h1
  exact walk a0 a1 W (bd_i64 w0) (bd_i64 w1)

theorem proved : Rows.WrapOrdersSaid :=
  OpenClaim.holds_of_wide 6 Try.f6 rfl rfl rfl rfl rfl rfl rfl ⟨rfl, rfl, rfl, rfl, rfl⟩ rfl rfl rfl rfl rfl (by kernel_rfl) Try.func6 (by kernel_rfl)
    (of_decide_eq_true (by kernel_rfl)) (by unfold Func.isWrapper; first | (rw [if_pos (by decide +kernel)]; kernel_rfl) | (rw [if_neg (by decide +kernel)]; exact ⟨rfl, rfl⟩))
    (fun os started H enc _ => lifted os started H enc)
#print axioms proved

end Go.Proofs.Ytchhdoplohcehaa.WrOrders
