/- For every input TokenNext returns true, and its arguments read as they did. No conditions. -/
import Derived.Test.YtgkbgkfgoplijaaTokL
import Derived.Test.YtgkbgkfgoplijaaFrame
namespace Go.Proofs.Ytgkbgkfgoplijaa.TokNext
open Go.RowKit Go.Proofs.Ytgkbgkfgoplijaa.Tok

theorem walk (t c : Int) (w : World) :
    Calls Try.prog 5 #[.int .i64 t, .int .i64 c] w fun e w' => e = .returned (.bool true) ∧ Below w.heap.size w w' := by
  by_cases h1 : 1099511627776 ≤ t
  · by_cases h2 : t ≤ 1152921504606846975
    · have hi : tokIs t = true := by unfold tokIs; simp; omega
      by_cases h3 : tokStage t < c
      · have k1 : nextOk t c = true := by simp [nextOk, hi, h3]
        have k2 : nextV t c = tokIter t := by simp [nextV, k1]
        have k3 : decide (tokStage t < c) = true := by simp [h3]
        clear hi
        go_enter Try.func5, Try.ntmps5
        go_wp2_with (first | (go_at_call 7; refine (works_any _).mono ?_; rintro e w' ⟨rfl, rfl⟩) | (go_at_call 8; refine (parts_any _ _).mono ?_; rintro e w' ⟨rfl, rfl⟩) | (go_at_call 15; refine (next_any _ _ _).mono ?_; rintro e w' ⟨rfl, rfl⟩))
        go_ret
        exact ⟨rfl, ((Below.refl _ _).alloc (Nat.le_refl _) _).alloc (by simp) _⟩
      · have k1 : nextOk t c = false := by simp [nextOk, hi]; omega
        have k2 : nextV t c = 0 := by simp [nextV, k1]
        have k3 : decide (tokStage t < c) = false := by simp; omega
        clear hi
        go_enter Try.func5, Try.ntmps5
        go_wp2_with (first | (go_at_call 7; refine (works_any _).mono ?_; rintro e w' ⟨rfl, rfl⟩) | (go_at_call 8; refine (parts_any _ _).mono ?_; rintro e w' ⟨rfl, rfl⟩) | (go_at_call 15; refine (next_any _ _ _).mono ?_; rintro e w' ⟨rfl, rfl⟩))
        go_ret
        exact ⟨rfl, ((Below.refl _ _).alloc (Nat.le_refl _) _).alloc (by simp) _⟩
    · have hi : tokIs t = false := by unfold tokIs; simp; omega
      have k1 : nextOk t c = false := by simp [nextOk, hi]
      have k2 : nextV t c = 0 := by simp [nextV, k1]
      clear hi
      go_enter Try.func5, Try.ntmps5
      go_wp2_with (first | (go_at_call 7; refine (works_any _).mono ?_; rintro e w' ⟨rfl, rfl⟩) | (go_at_call 8; refine (parts_any _ _).mono ?_; rintro e w' ⟨rfl, rfl⟩) | (go_at_call 15; refine (next_any _ _ _).mono ?_; rintro e w' ⟨rfl, rfl⟩))
      go_ret
      exact ⟨rfl, ((Below.refl _ _).alloc (Nat.le_refl _) _).alloc (by simp) _⟩
  · have hi : tokIs t = false := by unfold tokIs; simp; omega
    have k1 : nextOk t c = false := by simp [nextOk, hi]
    have k2 : nextV t c = 0 := by simp [nextV, k1]
    clear hi
    go_enter Try.func5, Try.ntmps5
    go_wp2_with (first | (go_at_call 7; refine (works_any _).mono ?_; rintro e w' ⟨rfl, rfl⟩) | (go_at_call 8; refine (parts_any _ _).mono ?_; rintro e w' ⟨rfl, rfl⟩) | (go_at_call 15; refine (next_any _ _ _).mono ?_; rintro e w' ⟨rfl, rfl⟩))
    go_ret
    exact ⟨rfl, ((Below.refl _ _).alloc (Nat.le_refl _) _).alloc (by simp) _⟩

open Go.ChangeShapes Go.WideShapes Go.ChangeAt

set_option maxRecDepth 100000 in
theorem lifted (os : Os) (started : os.Started) (H : Type) (enc : TypeId × Value → H) :
    ReturnsInHanded {} Try.checked os 5 .any (Rows.tokenNextSpec.pre6 enc Try.prog Try.f5 Rows.tokenNextRow.domain false) (Rows.tokenNextSpec.post enc Try.prog Try.f5 false true false false) := by
  refine Frame.law_lift (C := Try.checked) Frame.own started (by kernel_rfl) Try.func5 Frame.laidOut
    (ChangeSpec.witness6 (enc := enc) (C := Try.checked) false ⟨#[], #[.int .i64 0, .int .i64 0], []⟩ 8 (by kernel_rfl) (by kernel_rfl) (by kernel_rfl) (by kernel_rfl))
    rfl rfl Try.underlying4 (by kernel_rfl) (fun ds h => by match ds, h with | [_, _], _ => exact ⟨rfl, rfl, rfl⟩) ?_
  intro W base args ds p hval0 hA hlt hsz
  have hval : ∀ (j : Nat) t v, Try.f5.params[j]? = some t → args[j]? = some v → Value.okWide Try.prog W .any base t v := hval0
  clear hval0 hsz
  replace hA : DataW.TrodAll enc Try.prog W 0 (fun _ => true) true Try.f5.params.toList args.toList ds p := hA
  rw [Try.params5] at hA hval
  obtain ⟨v0, v1, d0, d1, p0, p1, rfl, rfl, rfl, h0, h1⟩ := trodAll_two hA
  obtain ⟨a0, rfl, rfl, rfl, w0⟩ := open_int Try.underlying3 (hval 0 3 v0 rfl rfl) h0
  obtain ⟨a1, rfl, rfl, rfl, w1⟩ := open_int Try.underlying3 (hval 1 3 v1 rfl rfl) h1
  exact walk a0 a1 W

theorem proved : Rows.TokenNextSaid :=
  OpenClaim.holds_of_wide 5 Try.f5 rfl rfl rfl rfl rfl rfl rfl ⟨rfl, rfl, rfl, rfl, rfl⟩ rfl rfl rfl rfl rfl (by kernel_rfl) Try.func5 (by kernel_rfl)
    (of_decide_eq_true (by kernel_rfl)) (by unfold Func.isWrapper; first | (rw [if_pos (by decide +kernel)]; kernel_rfl) | (rw [if_neg (by decide +kernel)]; exact ⟨rfl, rfl⟩))
    (fun os started H enc _ => lifted os started H enc)
#print axioms proved

end Go.Proofs.Ytgkbgkfgoplijaa.TokNext
