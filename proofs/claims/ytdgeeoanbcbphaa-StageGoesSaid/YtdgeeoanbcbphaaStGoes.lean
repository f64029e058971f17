/- For every input StageGoes returns true, and its arguments read as they did. No conditions. -/
import Derived.Test.YtdgeeoanbcbphaaStW
import Derived.Test.YtdgeeoanbcbphaaFrame
namespace Go.Proofs.Ytdgeeoanbcbphaa.StGoes
open Go.RowKit Go.Proofs.Ytdgeeoanbcbphaa.St
set_option linter.unusedVariables false

theorem walk0 (a b c u v x : Int) (w : World) (g1 : goV a b = u) (g2 : goV b c = v) (g3 : goV a c = x) (hu : u = 0 ∧ a < b ∧ b ≤ 1048575 ∨ u = 3 ∧ (b ≤ a ∨ a < b ∧ 1048575 < b)) (hv : v = 0 ∨ v = 3) (hx : u = 0 → v = 0 → x = 0) :
    Calls Try.prog 3 #[.int .i64 a, .int .i64 b, .int .i64 c] w fun e w' => e = .returned (.bool true) ∧ Below w.heap.size w w' := by
  obtain ⟨d, hd⟩ : ∃ d, decide (b < a) = d := ⟨_, rfl⟩
  rcases hu with ⟨rfl, h1, h2⟩ | ⟨rfl, h1 | ⟨h1, h2⟩⟩
  · rcases hv with rfl | rfl
    · obtain rfl := hx rfl rfl
      clear hx
      go_enter Try.func3, Try.ntmps3
      go_wp2_with (first | (go_at_call 6; refine (works_any _).mono ?_; rintro e w1 ⟨rfl, hb1⟩) | (go_at_call 7; refine (go_any _ _ _).mono ?_; rintro e w' ⟨rfl, rfl⟩) | (go_at_call 8; refine (past_any _ _ _).mono ?_; rintro e w' ⟨rfl, rfl⟩))
      go_ret
      exact ⟨rfl, hb1⟩
    · clear hx
      go_enter Try.func3, Try.ntmps3
      go_wp2_with (first | (go_at_call 6; refine (works_any _).mono ?_; rintro e w1 ⟨rfl, hb1⟩) | (go_at_call 7; refine (go_any _ _ _).mono ?_; rintro e w' ⟨rfl, rfl⟩) | (go_at_call 8; refine (past_any _ _ _).mono ?_; rintro e w' ⟨rfl, rfl⟩))
      go_ret
      exact ⟨rfl, hb1⟩
  · clear hx hv
    go_enter Try.func3, Try.ntmps3
    go_wp2_with (first | (go_at_call 6; refine (works_any _).mono ?_; rintro e w1 ⟨rfl, hb1⟩) | (go_at_call 7; refine (go_any _ _ _).mono ?_; rintro e w' ⟨rfl, rfl⟩) | (go_at_call 8; refine (past_any _ _ _).mono ?_; rintro e w' ⟨rfl, rfl⟩))
    go_ret
    exact ⟨rfl, hb1⟩
  · clear hx hv
    go_enter Try.func3, Try.ntmps3
    go_wp2_with (first | (go_at_call 6; refine (works_any _).mono ?_; rintro e w1 ⟨rfl, hb1⟩) | (go_at_call 7; refine (go_any _ _ _).mono ?_; rintro e w' ⟨rfl, rfl⟩) | (go_at_call 8; refine (past_any _ _ _).mono ?_; rintro e w' ⟨rfl, rfl⟩))
    go_ret
    exact ⟨rfl, hb1⟩

theorem walk (a b c : Int) (w : World) :
    Calls Try.prog 3 #[.int .i64 a, .int .i64 b, .int .i64 c] w fun e w' => e = .returned (.bool true) ∧ Below w.heap.size w w' := by
  have h1 : goV a b = 0 ∧ a < b ∧ b ≤ 1048575 ∨ goV a b = 3 ∧ (b ≤ a ∨ a < b ∧ 1048575 < b) := by unfold goV; split <;> omega
  have h2 : goV b c = 0 ∨ goV b c = 3 := by unfold goV; split <;> omega
  refine walk0 a b c _ _ _ w rfl rfl rfl h1 h2 ?_
  unfold goV
  intro h3 h4
  split at h3 <;> split at h4 <;> split <;> omega

open Go.ChangeShapes Go.WideShapes Go.ChangeAt

set_option maxRecDepth 100000 in
theorem lifted (os : Os) (started : os.Started) (H : Type) (enc : TypeId × Value → H) :
    ReturnsInHanded {} Try.checked os 3 .any (Rows.stageGoesSpec.pre6 enc Try.prog Try.f3 Rows.stageGoesRow.domain false) (Rows.stageGoesSpec.post enc Try.prog Try.f3 false true false false) := by
  refine Frame.law_lift (C := Try.checked) Frame.own started (by kernel_rfl) Try.func3 Frame.laidOut
    (ChangeSpec.witness6 (enc := enc) (C := Try.checked) false ⟨#[], #[.int .i64 0, .int .i64 0, .int .i64 0], []⟩ 8 (by kernel_rfl) (by kernel_rfl) (by kernel_rfl) (by kernel_rfl))
    rfl rfl Try.underlying4 (by kernel_rfl) (fun ds h => by match ds, h with | [_, _, _], _ => exact ⟨rfl, rfl, rfl⟩) ?_
  intro W base args ds p hval0 hA hlt hsz
  have hval : ∀ (j : Nat) t v, Try.f3.params[j]? = some t → args[j]? = some v → Value.okWide Try.prog W .any base t v := hval0
  clear hval0
  replace hA : DataW.TrodAll enc Try.prog W 0 (fun _ => true) true Try.f3.params.toList args.toList ds p := hA
  replace hsz : (DataW.weightsEach Try.prog Try.f3.params.toList ds).all (· ≤ reachBytes) = true := hsz
  rw [Try.params3] at hA hval hsz
  obtain ⟨v0, v1, v2, d0, d1, d2, p0, p1, p2, rfl, rfl, rfl, h0, h1, h2⟩ := trodAll_three hA
  obtain ⟨a0, rfl, rfl, rfl, w0⟩ := open_int Try.underlying3 (hval 0 3 v0 rfl rfl) h0
  obtain ⟨a1, rfl, rfl, rfl, w1⟩ := open_int Try.underlying3 (hval 1 3 v1 rfl rfl) h1
  obtain ⟨a2, rfl, rfl, rfl, w2⟩ := open_int Try.underlying3 (hval 2 3 v2 rfl rfl) h2
  exact walk a0 a1 a2 W

theorem proved : Rows.StageGoesSaid :=
  OpenClaim.holds_of_wide 3 Try.f3 rfl rfl rfl rfl rfl rfl rfl ⟨rfl, rfl, rfl, rfl, rfl⟩ rfl rfl rfl rfl rfl (by kernel_rfl) Try.func3 (by kernel_rfl)
    (of_decide_eq_true (by kernel_rfl)) (by unfold Func.isWrapper; first | (rw [if_pos (by decide +kernel)]; kernel_rfl) | (rw [if_neg (by decide +kernel)]; exact ⟨rfl, rfl⟩))
    (fun os started H enc _ => lifted os started H enc)
#print axioms proved

end Go.Proofs.Ytdgeeoanbcbphaa.StGoes
