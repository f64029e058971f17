/- For every input TokenOnce returns true, and its arguments read as they did. No conditions. -/
import Derived.Test.YtgkbgkfgoplijaaTokL
import Derived.Test.YtgkbgkfgoplijaaFrame
import Derived.Test.YtgkbgkfgoplijaaTokE
import Derived.Test.YtgkbgkfgoplijaaTokA
import Derived.Handy
namespace Go.Proofs.Ytgkbgkfgoplijaa.TokOnce
open Go.RowKit Go.Proofs.Ytgkbgkfgoplijaa.Tok

theorem walk0 (a0 a1 a2 b0 b1 b2 : Int) (w : World) (ha0 : 0 ≤ a0 ∧ a0 ≤ 4294967295) (ha1 : 0 ≤ a1 ∧ a1 ≤ 4294967295) (ha2 : 0 ≤ a2 ∧ a2 ≤ 4294967295)
    (hb0 : 0 ≤ b0 ∧ b0 ≤ 4294967295) (hb1 : 0 ≤ b1 ∧ b1 ≤ 4294967295) (hb2 : 0 ≤ b2 ∧ b2 ≤ 4294967295)
    (x0 x1 x2 y0 y1 y2 : Int) (e0 : a0 % 1048576 = x0) (e1 : a1 % 1048576 = x1) (e2 : a2 % 1048576 = x2) (f0 : b0 % 1048576 = y0) (f1 : b1 % 1048576 = y1) (f2 : b2 % 1048576 = y2)
    (g1 : tokLoop (tokOf x0 x1 x2) = x0) (g2 : tokIter (tokOf x0 x1 x2) = x1) (g3 : tokStage (tokOf x0 x1 x2) = x2) (g4 : tokIs (tokOf x0 x1 x2) = decide (0 < x0))
    (b : Bool) (g5 : (tokOf x0 x1 x2 == tokOf y0 y1 y2) = b) (g6 : ∀ w : World, (Op.equalIn 10000 23 (.agg #[.int .i64 x0, .int .i64 x1, .int .i64 x2]) (.agg #[.int .i64 y0, .int .i64 y1, .int .i64 y2])).run Try.prog w = .ok b w) :
    Calls Try.prog 4 #[.agg #[.int .u32 a0, .int .u32 a1, .int .u32 a2], .agg #[.int .u32 b0, .int .u32 b1, .int .u32 b2]] w fun e w' => e = .returned (.bool true) ∧ Below w.heap.size w w' := by
  go_enter Try.func4, Try.ntmps4
  go_wp2_with (first | (go_at_call 7; refine (works_any _).mono ?_; rintro e w' ⟨rfl, rfl⟩))
  go_rounds 4
  clear ha0 ha1 ha2 hb0 hb1 hb2 e0 e1 e2 f0 f1 f2
  go_quiet ((first | (go_at_call 9; exact quiet_same (of_any _ _ _ _))))
  go_wp2
  go_quiet ((first | (go_at_call 14; exact quiet_same2 (is_any _ _)) | (go_at_call 13; exact quiet_same2 (stage_any _ _)) | (go_at_call 12; exact quiet_same2 (iter_any _ _)) | (go_at_call 11; exact quiet_same2 (loop_any _ _))))
  go_wp2
  go_ret
  exact ⟨rfl, below_drewN (below_drewN (((((Below.refl _ _).alloc (Nat.le_refl _) _).alloc (by simp) _).alloc (by simp; omega) _).alloc (by simp; omega) _) _) _⟩

theorem walk (a0 a1 a2 b0 b1 b2 : Int) (w : World) (ha0 : 0 ≤ a0 ∧ a0 ≤ 4294967295) (ha1 : 0 ≤ a1 ∧ a1 ≤ 4294967295) (ha2 : 0 ≤ a2 ∧ a2 ≤ 4294967295)
    (hb0 : 0 ≤ b0 ∧ b0 ≤ 4294967295) (hb1 : 0 ≤ b1 ∧ b1 ≤ 4294967295) (hb2 : 0 ≤ b2 ∧ b2 ≤ 4294967295) :
    Calls Try.prog 4 #[.agg #[.int .u32 a0, .int .u32 a1, .int .u32 a2], .agg #[.int .u32 b0, .int .u32 b1, .int .u32 b2]] w fun e w' => e = .returned (.bool true) ∧ Below w.heap.size w w' := by
  have k1 := tokOf_in (a0 % 1048576) (a1 % 1048576) (a2 % 1048576) (by omega) (by omega) (by omega) (by omega) (by omega) (by omega)
  have k2 := tokOf_in (b0 % 1048576) (b1 % 1048576) (b2 % 1048576) (by omega) (by omega) (by omega) (by omega) (by omega) (by omega)
  by_cases h : a0 % 1048576 = b0 % 1048576 ∧ a1 % 1048576 = b1 % 1048576 ∧ a2 % 1048576 = b2 % 1048576
  · refine walk0 a0 a1 a2 b0 b1 b2 w ha0 ha1 ha2 hb0 hb1 hb2 _ _ _ _ _ _ rfl rfl rfl rfl rfl rfl ?_ ?_ ?_ ?_ true ?_ (fun w => eq3 _ _ _ _ _ _ true ?_ w)
    · exact tokLoop_of _ _ _ (by omega) (by omega) (by omega) (by omega) (by omega) (by omega)
    · exact tokIter_of _ _ _ (by omega) (by omega) (by omega) (by omega) (by omega) (by omega)
    · exact tokStage_of _ _ _ (by omega) (by omega) (by omega) (by omega) (by omega) (by omega)
    · exact tokIs_of _ _ _ (by omega) (by omega) (by omega) (by omega) (by omega) (by omega)
    · rw [h.1, h.2.1, h.2.2]; simp
    · simp [h]
  · refine walk0 a0 a1 a2 b0 b1 b2 w ha0 ha1 ha2 hb0 hb1 hb2 _ _ _ _ _ _ rfl rfl rfl rfl rfl rfl ?_ ?_ ?_ ?_ false ?_ (fun w => eq3 _ _ _ _ _ _ false ?_ w)
    · exact tokLoop_of _ _ _ (by omega) (by omega) (by omega) (by omega) (by omega) (by omega)
    · exact tokIter_of _ _ _ (by omega) (by omega) (by omega) (by omega) (by omega) (by omega)
    · exact tokStage_of _ _ _ (by omega) (by omega) (by omega) (by omega) (by omega) (by omega)
    · exact tokIs_of _ _ _ (by omega) (by omega) (by omega) (by omega) (by omega) (by omega)
    · rw [k1, k2, beq_eq_false_iff_ne]; omega
    · rw [Bool.eq_false_iff]; intro hh; simp at hh; omega

open Go.ChangeShapes Go.WideShapes Go.ChangeAt

set_option maxRecDepth 100000 in
theorem lifted (os : Os) (started : os.Started) (H : Type) (enc : TypeId × Value → H) :
    ReturnsInHanded {} Try.checked os 4 .any (Rows.tokenOnceSpec.pre6 enc Try.prog Try.f4 Rows.tokenOnceRow.domain false) (Rows.tokenOnceSpec.post enc Try.prog Try.f4 false true false false) := by
  refine Frame.law_lift (C := Try.checked) Frame.own started (by kernel_rfl) Try.func4 Frame.laidOut
    (ChangeSpec.witness6 (enc := enc) (C := Try.checked) false ⟨#[], #[.agg #[.int .u32 0, .int .u32 0, .int .u32 0], .agg #[.int .u32 0, .int .u32 0, .int .u32 0]], []⟩ 8 (by kernel_rfl) (by kernel_rfl) (by kernel_rfl) (by kernel_rfl))
    rfl rfl Try.underlying4 (by kernel_rfl) (fun ds h => by match ds, h with | [_, _], _ => exact ⟨rfl, rfl, rfl⟩) ?_
  intro W base args ds p hval0 hA hlt hsz
  have hval : ∀ (j : Nat) t v, Try.f4.params[j]? = some t → args[j]? = some v → Value.okWide Try.prog W .any base t v := hval0
  clear hval0 hsz
  replace hA : DataW.TrodAll enc Try.prog W 0 (fun _ => true) true Try.f4.params.toList args.toList ds p := hA
  rw [Try.params4] at hA hval
  obtain ⟨v0, v1, d0, d1, p0, p1, rfl, rfl, rfl, h0, h1⟩ := trodAll_two hA
  obtain ⟨a0, a1, a2, rfl, ra0, ra1, ra2⟩ := open_arr3 (hval 0 30 v0 rfl rfl) h0
  obtain ⟨b0, b1, b2, rfl, rb0, rb1, rb2⟩ := open_arr3 (hval 1 30 v1 rfl rfl) h1
  exact walk a0 a1 a2 b0 b1 b2 W ra0 ra1 ra2 rb0 rb1 rb2

theorem proved : Rows.TokenOnceSaid :=
  OpenClaim.holds_of_wide 4 Try.f4 rfl rfl rfl rfl rfl rfl rfl ⟨rfl, rfl, rfl, rfl, rfl⟩ rfl rfl rfl rfl rfl (by kernel_rfl) Try.func4 (by kernel_rfl)
    (of_decide_eq_true (by kernel_rfl)) (by unfold Func.isWrapper; first | (rw [if_pos (by decide +kernel)]; kernel_rfl) | (rw [if_neg (by decide +kernel)]; exact ⟨rfl, rfl⟩))
    (fun os started H enc _ => lifted os started H enc)
#print axioms proved

end Go.Proofs.Ytgkbgkfgoplijaa.TokOnce
