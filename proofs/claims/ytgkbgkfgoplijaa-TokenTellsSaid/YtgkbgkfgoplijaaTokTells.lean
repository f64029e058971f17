/- For every input TokenTells returns true, and its arguments read as they did. No conditions. -/
import Derived.Test.YtgkbgkfgoplijaaTokL
import Derived.Test.YtgkbgkfgoplijaaFrame
namespace Go.Proofs.Ytgkbgkfgoplijaa.TokTells
open Go.RowKit Go.Proofs.Ytgkbgkfgoplijaa.Tok Go.ChangeShapes Go.WideShapes Go.ChangeAt

theorem walk (l i s t : Int) (w : World) :
    Calls Try.prog 3 #[.int .i64 l, .int .i64 i, .int .i64 s, .int .i64 t] w fun e w' => e = .returned (.bool true) ∧ Below w.heap.size w w' := by
  have e1 : tokIs t = (decide (1099511627776 ≤ t) && decide (t ≤ 1152921504606846975)) := by unfold tokIs; simp
  by_cases h1 : 1099511627776 ≤ t
  · have h2 : decide (1099511627776 ≤ t) = true := by simp [h1]
    have e2 : tokIs t = decide (t ≤ 1152921504606846975) := by rw [e1, h2]; rfl
    clear e1
    go_enter Try.func3, Try.ntmps3
    go_wp2_with (first | (go_at_call 7; refine (works_any _).mono ?_; rintro e w' ⟨rfl, rfl⟩) | (go_at_call 8; refine (parts_any _ _).mono ?_; rintro e w' ⟨rfl, rfl⟩))
    go_quiet ((first | (go_at_call 9; exact quiet_same (of_any _ _ _ _)) | (go_at_call 10; exact quiet_same (rof_any _ _ _ _)) | (go_at_call 14; exact quiet_same (is_any _ _)) | (go_at_call 13; exact quiet_same (stage_any _ _)) | (go_at_call 12; exact quiet_same (iter_any _ _)) | (go_at_call 11; exact quiet_same (loop_any _ _))))
    go_wp2
    go_ret
    exact ⟨rfl, below_drewN (((Below.refl _ _).alloc (Nat.le_refl _) _).alloc (by simp) _) _⟩
  · have h2 : decide (1099511627776 ≤ t) = false := by simp; omega
    have e2 : tokIs t = false := by rw [e1, h2]; rfl
    clear e1
    go_enter Try.func3, Try.ntmps3
    go_wp2_with (first | (go_at_call 7; refine (works_any _).mono ?_; rintro e w' ⟨rfl, rfl⟩) | (go_at_call 8; refine (parts_any _ _).mono ?_; rintro e w' ⟨rfl, rfl⟩))
    go_quiet ((first | (go_at_call 9; exact quiet_same (of_any _ _ _ _)) | (go_at_call 10; exact quiet_same (rof_any _ _ _ _)) | (go_at_call 14; exact quiet_same (is_any _ _)) | (go_at_call 13; exact quiet_same (stage_any _ _)) | (go_at_call 12; exact quiet_same (iter_any _ _)) | (go_at_call 11; exact quiet_same (loop_any _ _))))
    go_wp2
    go_ret
    exact ⟨rfl, below_drewN (((Below.refl _ _).alloc (Nat.le_refl _) _).alloc (by simp) _) _⟩

open Go.ChangeShapes Go.WideShapes Go.ChangeAt

set_option maxRecDepth 100000 in
theorem lifted (os : Os) (started : os.Started) (H : Type) (enc : TypeId × Value → H) :
    ReturnsInHanded {} Try.checked os 3 .any (Rows.tokenTellsSpec.pre6 enc Try.prog Try.f3 Rows.tokenTellsRow.domain false) (Rows.tokenTellsSpec.post enc Try.prog Try.f3 false true false false) := by
  refine Frame.law_lift (C := Try.checked) Frame.own started (by kernel_rfl) Try.func3 Frame.laidOut
    (ChangeSpec.witness6 (enc := enc) (C := Try.checked) false ⟨#[], #[.int .i64 0, .int .i64 0, .int .i64 0, .int .i64 0], []⟩ 8 (by kernel_rfl) (by kernel_rfl) (by kernel_rfl) (by kernel_rfl))
    rfl rfl Try.underlying4 (by kernel_rfl) (fun ds h => by match ds, h with | [_, _, _, _], _ => exact ⟨rfl, rfl, rfl⟩) ?_
  intro W base args ds p hval0 hA hlt hsz
  have hval : ∀ (j : Nat) t v, Try.f3.params[j]? = some t → args[j]? = some v → Value.okWide Try.prog W .any base t v := hval0
  clear hval0 hsz
  replace hA : DataW.TrodAll enc Try.prog W 0 (fun _ => true) true Try.f3.params.toList args.toList ds p := hA
  rw [Try.params3] at hA hval
  obtain ⟨v0, v1, v2, v3, d0, d1, d2, d3, p0, p1, p2, p3, rfl, rfl, rfl, h0, h1, h2, h3⟩ := trodAll_four hA
  obtain ⟨a0, rfl, rfl, rfl, w0⟩ := open_int Try.underlying3 (hval 0 3 v0 rfl rfl) h0
  obtain ⟨a1, rfl, rfl, rfl, w1⟩ := open_int Try.underlying3 (hval 1 3 v1 rfl rfl) h1
  obtain ⟨a2, rfl, rfl, rfl, w2⟩ := open_int Try.underlying3 (hval 2 3 v2 rfl rfl) h2
  obtain ⟨a3, rfl, rfl, rfl, w3⟩ := open_int Try.underlying3 (hval 3 3 v3 rfl rfl) h3
  exact walk a0 a1 a2 a3 W

theorem proved : Rows.TokenTellsSaid :=
  OpenClaim.holds_of_wide 3 Try.f3 rfl rfl rfl rfl rfl rfl rfl ⟨rfl, rfl, rfl, rfl, rfl⟩ rfl rfl rfl rfl rfl (by kernel_rfl) Try.func3 (by kernel_rfl)
    (of_decide_eq_true (by kernel_rfl)) (by unfold Func.isWrapper; first | (rw [if_pos (by decide +kernel)]; kernel_rfl) | (rw [if_neg (by decide +kernel)]; exact ⟨rfl, rfl⟩))
    (fun os started H enc _ => lifted os started H enc)
#print axioms proved

end Go.Proofs.Ytgkbgkfgoplijaa.TokTells
