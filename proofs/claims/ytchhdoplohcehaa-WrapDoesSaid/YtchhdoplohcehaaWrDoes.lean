/- For every input WrapDoes returns true, and its arguments read as they did. No conditions. -/
import Derived.Test.YtchhdoplohcehaaWrD
import Derived.Test.YtchhdoplohcehaaFrame
namespace Go.Proofs.Ytchhdoplohcehaa.WrDoes
open Go.RowKit Go.Proofs.Ytchhdoplohcehaa.Wr
set_option linter.unusedVariables false

theorem walk (op a b : Int) (w : World) (ha : -9223372036854775808 ≤ a ∧ a ≤ 9223372036854775807) (hb : -9223372036854775808 ≤ b ∧ b ≤ 9223372036854775807) :
    Calls Try.prog 3 #[.int .i64 op, .int .i64 a, .int .i64 b] w fun e w' => e = .returned (.bool true) ∧ Below w.heap.size w w' := by
  have c1 := Lib.hid (fun w => rdo_any op a b w ha hb)
  have c2 := Lib.hid (fun w => do_any op a b w)
  have c3 := Lib.hid (fun w => known_any op w)
  have c4 := Lib.hid (fun w => works_any w)
  generalize doV op a b = v at *
  generalize doF op b = f at *
  by_cases h1 : 3 ≤ op
  · by_cases h2 : op ≤ 12
    · rw [decide_eq_true (show 3 ≤ op ∧ op ≤ 12 from ⟨h1, h2⟩)] at c3
      clear ha hb
      go_enter Try.func3, Try.ntmps3
      go_wp2_with (first | (go_at_call 10; refine (c4.out _).mono ?_; rintro e w' ⟨rfl, rfl⟩) | (go_at_call 8; refine (c2.out _).mono ?_; rintro e w' ⟨rfl, rfl⟩) | (go_at_call 9; refine (c1.out _).mono ?_; rintro e w' ⟨rfl, rfl⟩) | (go_at_call 11; refine (c3.out _).mono ?_; rintro e w' ⟨rfl, rfl⟩))
      go_ret
      exact ⟨rfl, (Below.refl _ _).alloc (Nat.le_refl _) _⟩
    · rw [decide_eq_false (show ¬ (3 ≤ op ∧ op ≤ 12) from fun h => h2 h.2)] at c3
      have d2 : decide (op ≤ 12) = false := by simp; omega
      clear ha hb
      go_enter Try.func3, Try.ntmps3
      go_wp2_with (first | (go_at_call 10; refine (c4.out _).mono ?_; rintro e w' ⟨rfl, rfl⟩) | (go_at_call 8; refine (c2.out _).mono ?_; rintro e w' ⟨rfl, rfl⟩) | (go_at_call 9; refine (c1.out _).mono ?_; rintro e w' ⟨rfl, rfl⟩) | (go_at_call 11; refine (c3.out _).mono ?_; rintro e w' ⟨rfl, rfl⟩))
      go_ret
      exact ⟨rfl, (Below.refl _ _).alloc (Nat.le_refl _) _⟩
  · rw [decide_eq_false (show ¬ (3 ≤ op ∧ op ≤ 12) from fun h => h1 h.1)] at c3
    clear ha hb
    go_enter Try.func3, Try.ntmps3
    go_wp2_with (first | (go_at_call 10; refine (c4.out _).mono ?_; rintro e w' ⟨rfl, rfl⟩) | (go_at_call 8; refine (c2.out _).mono ?_; rintro e w' ⟨rfl, rfl⟩) | (go_at_call 9; refine (c1.out _).mono ?_; rintro e w' ⟨rfl, rfl⟩) | (go_at_call 11; refine (c3.out _).mono ?_; rintro e w' ⟨rfl, rfl⟩))
    go_ret
    exact ⟨rfl, (Below.refl _ _).alloc (Nat.le_refl _) _⟩

open Go.ChangeShapes Go.WideShapes Go.ChangeAt

set_option maxRecDepth 100000 in
theorem lifted (os : Os) (started : os.Started) (H : Type) (enc : TypeId × Value → H) :
    ReturnsInHanded {} Try.checked os 3 .any (Rows.wrapDoesSpec.pre6 enc Try.prog Try.f3 Rows.wrapDoesRow.domain false) (Rows.wrapDoesSpec.post enc Try.prog Try.f3 false true false false) := by
  refine Frame.law_lift (C := Try.checked) Frame.own started (by kernel_rfl) Try.func3 Frame.laidOut
    (ChangeSpec.witness6 (enc := enc) (C := Try.checked) false ⟨#[], #[.int .i64 0, .int .i64 0, .int .i64 0], []⟩ 8 (by kernel_rfl) (by kernel_rfl) (by kernel_rfl) (by kernel_rfl))
    rfl rfl Try.underlying4 (by kernel_rfl) (fun ds h => by match ds, h with | [_, _, _], _ => exact ⟨rfl, rfl, rfl⟩) ?_
  intro W base args ds p hval0 hA hlt hsz
  have hval : ∀ (j : Nat) t v, Try.f3.params[j]? = some t → args[j]? = some v → Value.okWide Try.prog W .any base t v := hval0
  clear hval0
  replace hA : DataW.TrodAll enc Try.prog W 0 (fun _ => true) true Try.f3.params.toList args.toList ds p := hA
  replace hsz : (DataW.weightsEach Try.prog Try.f3.params.toList ds).all (· ≤ reachBytes) = true := hsz
  rw [Try.params3] at hA hval hsz
  obtain ⟨v0, v1, v2, d0, d1, d2, p0, p1, p2, rfl, rfl, rfl, h0, h1, h2⟩ := trodAll_three hA
  obtain ⟨a0, rfl, rfl, rfl, w0⟩ := open_int Try.underlying3 (hval 0 3 v0 rfl rfl) h0
  obtain ⟨a1, rfl, rfl, rfl, w1⟩ := open_int Try.underlying3 (hval 1 3 v1 rfl rfl) h1
  obtain ⟨a2, rfl, rfl, rfl, w2⟩ := open_int Try.underlying3 (hval 2 3 v2 rfl rfl) h2
  exact walk a0 a1 a2 W (bd_i64 w1) (bd_i64 w2)

theorem proved : Rows.WrapDoesSaid :=
  OpenClaim.holds_of_wide 3 Try.f3 rfl rfl rfl rfl rfl rfl rfl ⟨rfl, rfl, rfl, rfl, rfl⟩ rfl rfl rfl rfl rfl (by kernel_rfl) Try.func3 (by kernel_rfl)
    (of_decide_eq_true (by kernel_rfl)) (by unfold Func.isWrapper; first | (rw [if_pos (by decide +kernel)]; kernel_rfl) | (rw [if_neg (by decide +kernel)]; exact ⟨rfl, rfl⟩))
    (fun os started H enc _ => lifted os started H enc)
#print axioms proved

end Go.Proofs.Ytchhdoplohcehaa.WrDoes
