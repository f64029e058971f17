/- For every input WrapBack returns true, and its arguments read as they did. No conditions. -/
import Derived.Test.YtchhdoplohcehaaWrW
import Derived.Test.YtchhdoplohcehaaFrame
namespace Go.Proofs.Ytchhdoplohcehaa.WrBack
open Go.RowKit Go.Proofs.Ytchhdoplohcehaa.Wr
set_option linter.unusedVariables false

theorem walk0 (a b s u : Int) (w : World) (k1 : doV 3 a b = s) (k2 : doV 3 b a = s) (k3 : doV 4 s b = a) (k4 : doV 12 a b = u) (k5 : doV 12 u b = a)
    (f1 : doF 3 a = 0) (f2 : doF 3 b = 0) (f3 : doF 4 b = 0) (f4 : doF 12 b = 0) :
    Calls Try.prog 4 #[.int .i64 a, .int .i64 b] w fun e w' => e = .returned (.bool true) ∧ Below w.heap.size w w' := by
  go_enter Try.func4, Try.ntmps4
  go_wp2_with (first | (go_at_call 10; refine (works_any _).mono ?_; rintro e w' ⟨rfl, rfl⟩) | (go_at_call 8; refine (do_any _ _ _ _).mono ?_; rintro e w' ⟨rfl, rfl⟩))
  go_ret
  exact ⟨rfl, (Below.refl _ _).alloc (Nat.le_refl _) _⟩

theorem walk (a b : Int) (w : World) (ha : -9223372036854775808 ≤ a ∧ a ≤ 9223372036854775807) (hb : -9223372036854775808 ≤ b ∧ b ≤ 9223372036854775807) :
    Calls Try.prog 4 #[.int .i64 a, .int .i64 b] w fun e w' => e = .returned (.bool true) ∧ Below w.heap.size w w' := by
  refine walk0 a b _ _ w rfl ?_ ?_ rfl ?_ rfl rfl rfl rfl
  · show wrap64 (b + a) = wrap64 (a + b)
    rw [Int.add_comm]
  · show wrap64 (wrap64 (a + b) - b) = a
    unfold wrap64; omega
  · exact xor_back a b ha.1 ha.2

open Go.ChangeShapes Go.WideShapes Go.ChangeAt

set_option maxRecDepth 100000 in
theorem lifted (os : Os) (started : os.Started) (H : Type) (enc : TypeId × Value → H) :
    ReturnsInHanded {} Try.checked os 4 .any (Rows.wrapBackSpec.pre6 enc Try.prog Try.f4 Rows.wrapBackRow.domain false) (Rows.wrapBackSpec.post enc Try.prog Try.f4 false true false false) := by
  refine Frame.law_lift (C := Try.checked) Frame.own started (by kernel_rfl) Try.func4 Frame.laidOut
    (ChangeSpec.witness6 (enc := enc) (C := Try.checked) false ⟨#[], #[.int .i64 0, .int .i64 0], []⟩ 8 (by kernel_rfl) (by kernel_rfl) (by kernel_rfl) (by kernel_rfl))
    rfl rfl Try.underlying4 (by kernel_rfl) (fun ds h => by match ds, h with | [_, _], _ => exact ⟨rfl, rfl, rfl⟩) ?_
  intro W base args ds p hval0 hA hlt hsz
  have hval : ∀ (j : Nat) t v, Try.f4.params[j]? = some t → args[j]? = some v → Value.okWide Try.prog W .any base t v := hval0
  clear hval0
  replace hA : DataW.TrodAll enc Try.prog W 0 (fun _ => true) true Try.f4.params.toList args.toList ds p := hA
  replace hsz : (DataW.weightsEach Try.prog Try.f4.params.toList ds).all (· ≤ reachBytes) = true := hsz
  rw [Try.params4] at hA hval hsz
  obtain ⟨v0, v1, d0, d1, p0, p1, rfl, rfl, rfl, h0, h1⟩ := trodAll_two hA
  obtain ⟨a0, rfl, rfl, rfl, w0⟩ := open_int Try.underlying3 (hval 0 3 v0 rfl rfl) h0
  obtain ⟨a1, rfl, rfl, rfl, w1⟩ := open_int Try.underlying3 (hval 1 3 v1 rfl rfl) h1
  exact walk a0 a1 W (bd_i64 w0) (bd_i64 w1)

theorem proved : Rows.WrapBackSaid :=
  OpenClaim.holds_of_wide 4 Try.f4 rfl rfl rfl rfl rfl rfl rfl ⟨rfl, rfl, rfl, rfl, rfl⟩ rfl rfl rfl rfl rfl (by kernel_rfl) Try.func4 (by kernel_rfl)
    (of_decide_eq_true (by kernel_rfl)) (by unfold Func.isWrapper; first | (rw [if_pos (by decide +kernel)]; kernel_rfl) | (rw [if_neg (by decide +kernel)]; exact ⟨rfl, rfl⟩))
    (fun os started H enc _ => lifted os started H enc)
#print axioms proved

end Go.Proofs.Ytchhdoplohcehaa.WrBack
