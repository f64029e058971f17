/- For every input TokenOrder returns true, and its arguments read as they did. No conditions. -/
import Derived.Test.YtgkbgkfgoplijaaTokL
import Derived.Test.YtgkbgkfgoplijaaFrame
import Derived.Test.YtgkbgkfgoplijaaTokA
import Derived.Handy
import Derived.Deep.DeepCutAuto
namespace Go.Proofs.Ytgkbgkfgoplijaa.TokOrder
open Go.RowKit Go.Proofs.Ytgkbgkfgoplijaa.Tok

/-- the order of two triples -/
def lex (x0 x1 x2 y0 y1 y2 : Int) : Bool := decide (x0 < y0 ∨ x0 = y0 ∧ (x1 < y1 ∨ x1 = y1 ∧ x2 < y2))

set_option maxRecDepth 100000 in
set_option maxHeartbeats 1600000 in
theorem walk0 (a0 a1 a2 b0 b1 b2 c : Int) (w : World) (ha0 : 0 ≤ a0 ∧ a0 ≤ 4294967295) (ha1 : 0 ≤ a1 ∧ a1 ≤ 4294967295) (ha2 : 0 ≤ a2 ∧ a2 ≤ 4294967295)
    (hb0 : 0 ≤ b0 ∧ b0 ≤ 4294967295) (hb1 : 0 ≤ b1 ∧ b1 ≤ 4294967295) (hb2 : 0 ≤ b2 ∧ b2 ≤ 4294967295)
    (x0 x1 x2 y0 y1 y2 : Int) (e0 : a0 % 1048575 + 1 = x0) (e1 : a1 % 1048575 + 1 = x1) (e2 : a2 % 1048575 + 1 = x2) (f0 : b0 % 1048575 + 1 = y0) (f1 : b1 % 1048575 + 1 = y1) (f2 : b2 % 1048575 + 1 = y2)
    (S T D : Int) (hS : tokOf x0 x1 x2 = S) (hT : tokOf y0 y1 y2 = T) (bS : 0 ≤ S ∧ S ≤ 1152921504606846975) (hx : 1 ≤ x2 ∧ x2 ≤ 1048575) (hD : tokOf x0 x1 (x2 + 1) = D)
    (HD : Hid (x2 < 1048575 ∧ D = S + 1 ∨ x2 = 1048575 ∧ D = S))
    (L A p q : Bool) (hL : decide (S < T) = L) (HL : Hid (lex x0 x1 x2 y0 y1 y2 = L)) (hA : decide (y2 < x2) = A) (hp : nextOk S c = p) (hq : nextOk T c = q) (HO : Hid (A = true ∨ q = false ∨ p = true)) :
    Calls Try.prog 6 #[.agg #[.int .u32 a0, .int .u32 a1, .int .u32 a2], .agg #[.int .u32 b0, .int .u32 b1, .int .u32 b2], .int .i64 c] w fun e w' => e = .returned (.bool true) ∧ Below w.heap.size w w' := by
  go_enter Try.func6, Try.ntmps6
  go_wp2_with (first | (go_at_call 7; refine (works_any _).mono ?_; rintro e w' ⟨rfl, rfl⟩))
  go_rounds 4
  clear ha0 ha1 ha2 hb0 hb1 hb2 e0 e1 e2 f0 f1 f2
  go_quiet ((first | (go_at_call 9; exact quiet_same (of_any _ _ _ _))))
  go_upto_region 10 with fail
  go_cut [12] (fun s12 wx => s12 = .bool L ∧ wx = ((((w.alloc (.cells #[.int .u32 a0, .int .u32 a1, .int .u32 a2] 30)).alloc (.cells #[.int .u32 b0, .int .u32 b1, .int .u32 b2] 30)).alloc (.cells #[.int .i64 x0, .int .i64 x1, .int .i64 x2] 23)).alloc (.cells #[.int .i64 y0, .int .i64 y1, .int .i64 y2] 23)).drewN nq)
  case first =>
    clear hS hT bS hD hL hA hp hq
    by_cases h0 : x0 < y0
    · have hl : L = true := by rw [← HL.out]; unfold lex; simp; omega
      have d0 : decide (x0 < y0) = true := by simp [h0]
      subst hl
      go_wp2
      go_meet
      exact ⟨rfl, rfl⟩
    · have d0 : decide (x0 < y0) = false := by simp; omega
      by_cases h0' : x0 = y0
      · subst h0'
        by_cases h1 : x1 < y1
        · have hl : L = true := by rw [← HL.out]; unfold lex; simp; omega
          have d1 : decide (x1 < y1) = true := by simp [h1]
          subst hl
          go_wp2
          go_meet
          exact ⟨rfl, rfl⟩
        · have d1 : decide (x1 < y1) = false := by simp; omega
          by_cases h1' : x1 = y1
          · subst h1'
            have hl : L = decide (x2 < y2) := by rw [← HL.out]; unfold lex; simp
            subst hl
            go_wp2
            go_meet
            exact ⟨rfl, rfl⟩
          · have hl : L = false := by rw [← HL.out]; unfold lex; simp; omega
            have d2 : (x1 == y1) = false := by simp [h1']
            subst hl
            go_wp2
            go_meet
            exact ⟨rfl, rfl⟩
      · have hl : L = false := by rw [← HL.out]; unfold lex; simp; omega
        have d2 : (x0 == y0) = false := by simp [h0']
        subst hl
        go_wp2
        go_meet
        exact ⟨rfl, rfl⟩
  case rest =>
    obtain ⟨rfl, rfl⟩ := hcut
    go_wp2_with (first | (go_at_call 15; refine (next_any _ _ _).mono ?_; rintro e w' ⟨rfl, rfl⟩))
    clear hS hT HL
    rcases HD.out with ⟨hx2, hd⟩ | ⟨hx2, hd⟩
    · clear HD
      cases A
      · cases q
        · have ed : D = S + 1 := by omega
          subst ed
          go_quiet ((first | (go_at_call 9; exact quiet_same2 (of_any _ _ _ _))))
          go_wp2
          all_goals (go_ret; exact ⟨ret_bool (by rw [beq_iff_eq]; omega), below_drewN (((((Below.refl _ _).alloc (Nat.le_refl _) _).alloc (by simp) _).alloc (by simp; omega) _).alloc (by simp; omega) _) _⟩)
        · have ep : p = true := by have := HO.out; simpa using this
          subst ep
          have ed : D = S + 1 := by omega
          subst ed
          go_quiet ((first | (go_at_call 9; exact quiet_same2 (of_any _ _ _ _))))
          go_wp2
          all_goals (go_ret; exact ⟨ret_bool (by rw [beq_iff_eq]; omega), below_drewN (((((Below.refl _ _).alloc (Nat.le_refl _) _).alloc (by simp) _).alloc (by simp; omega) _).alloc (by simp; omega) _) _⟩)
      · have ed : D = S + 1 := by omega
        subst ed
        go_quiet ((first | (go_at_call 9; exact quiet_same2 (of_any _ _ _ _))))
        go_wp2
        all_goals (go_ret; exact ⟨ret_bool (by rw [beq_iff_eq]; omega), below_drewN (((((Below.refl _ _).alloc (Nat.le_refl _) _).alloc (by simp) _).alloc (by simp; omega) _).alloc (by simp; omega) _) _⟩)
    · clear HD
      subst hx2
      have hD2 : tokOf x0 x1 1048576 = D := hD
      clear hD
      cases A
      · cases q
        · have ed : D = S := by omega
          subst ed
          go_quiet ((first | (go_at_call 9; exact quiet_same2 (of_any _ _ _ _))))
          go_wp2
          go_ret
          exact ⟨rfl, below_drewN (((((Below.refl _ _).alloc (Nat.le_refl _) _).alloc (by simp) _).alloc (by simp; omega) _).alloc (by simp; omega) _) _⟩
        · have ep : p = true := by have := HO.out; simpa using this
          subst ep
          have ed : D = S := by omega
          subst ed
          go_quiet ((first | (go_at_call 9; exact quiet_same2 (of_any _ _ _ _))))
          go_wp2
          go_ret
          exact ⟨rfl, below_drewN (((((Below.refl _ _).alloc (Nat.le_refl _) _).alloc (by simp) _).alloc (by simp; omega) _).alloc (by simp; omega) _) _⟩
      · have ed : D = S := by omega
        subst ed
        go_quiet ((first | (go_at_call 9; exact quiet_same2 (of_any _ _ _ _))))
        go_wp2
        go_ret
        exact ⟨rfl, below_drewN (((((Below.refl _ _).alloc (Nat.le_refl _) _).alloc (by simp) _).alloc (by simp; omega) _).alloc (by simp; omega) _) _⟩

theorem walk (a0 a1 a2 b0 b1 b2 c : Int) (w : World) (ha0 : 0 ≤ a0 ∧ a0 ≤ 4294967295) (ha1 : 0 ≤ a1 ∧ a1 ≤ 4294967295) (ha2 : 0 ≤ a2 ∧ a2 ≤ 4294967295)
    (hb0 : 0 ≤ b0 ∧ b0 ≤ 4294967295) (hb1 : 0 ≤ b1 ∧ b1 ≤ 4294967295) (hb2 : 0 ≤ b2 ∧ b2 ≤ 4294967295) :
    Calls Try.prog 6 #[.agg #[.int .u32 a0, .int .u32 a1, .int .u32 a2], .agg #[.int .u32 b0, .int .u32 b1, .int .u32 b2], .int .i64 c] w fun e w' => e = .returned (.bool true) ∧ Below w.heap.size w w' := by
  obtain ⟨x0, e0⟩ : ∃ x, a0 % 1048575 + 1 = x := ⟨_, rfl⟩
  obtain ⟨x1, e1⟩ : ∃ x, a1 % 1048575 + 1 = x := ⟨_, rfl⟩
  obtain ⟨x2, e2⟩ : ∃ x, a2 % 1048575 + 1 = x := ⟨_, rfl⟩
  obtain ⟨y0, f0⟩ : ∃ x, b0 % 1048575 + 1 = x := ⟨_, rfl⟩
  obtain ⟨y1, f1⟩ : ∃ x, b1 % 1048575 + 1 = x := ⟨_, rfl⟩
  obtain ⟨y2, f2⟩ : ∃ x, b2 % 1048575 + 1 = x := ⟨_, rfl⟩
  have k1 := tokOf_in x0 x1 x2 (by omega) (by omega) (by omega) (by omega) (by omega) (by omega)
  have k2 := tokOf_in y0 y1 y2 (by omega) (by omega) (by omega) (by omega) (by omega) (by omega)
  have s1 := tokStage_of x0 x1 x2 (by omega) (by omega) (by omega) (by omega) (by omega) (by omega)
  have s2 := tokStage_of y0 y1 y2 (by omega) (by omega) (by omega) (by omega) (by omega) (by omega)
  have i1 := tokIs_of x0 x1 x2 (by omega) (by omega) (by omega) (by omega) (by omega) (by omega)
  have i2 := tokIs_of y0 y1 y2 (by omega) (by omega) (by omega) (by omega) (by omega) (by omega)
  refine walk0 a0 a1 a2 b0 b1 b2 c w ha0 ha1 ha2 hb0 hb1 hb2 x0 x1 x2 y0 y1 y2 e0 e1 e2 f0 f1 f2 _ _ _ rfl rfl ?_ ?_ rfl ?_ _ _ _ _ rfl ?_ rfl rfl rfl ?_
  · rw [k1]; omega
  · omega
  · apply Lib.hid
    by_cases h : x2 < 1048575
    · left
      have k3 := tokOf_in x0 x1 (x2 + 1) (by omega) (by omega) (by omega) (by omega) (by omega) (by omega)
      rw [k1, k3]; omega
    · right
      have h' : x2 = 1048575 := by omega
      rw [h']
      exact ⟨rfl, by unfold tokOf th; omega⟩
  · apply Lib.hid
    unfold lex
    rw [k1, k2, decide_eq_decide]
    omega
  · apply Lib.hid
    unfold nextOk
    rw [s1, s2, i1, i2]
    by_cases h : y2 < x2
    · left; simp [h]
    · right
      by_cases h' : y2 < c
      · right; simp; omega
      · left; simp; omega

open Go.ChangeShapes Go.WideShapes Go.ChangeAt

set_option maxRecDepth 100000 in
theorem lifted (os : Os) (started : os.Started) (H : Type) (enc : TypeId × Value → H) :
    ReturnsInHanded {} Try.checked os 6 .any (Rows.tokenOrderSpec.pre6 enc Try.prog Try.f6 Rows.tokenOrderRow.domain false) (Rows.tokenOrderSpec.post enc Try.prog Try.f6 false true false false) := by
  refine Frame.law_lift (C := Try.checked) Frame.own started (by kernel_rfl) Try.func6 Frame.laidOut
    (ChangeSpec.witness6 (enc := enc) (C := Try.checked) false ⟨#[], #[.agg #[.int .u32 0, .int .u32 0, .int .u32 0], .agg #[.int .u32 0, .int .u32 0, .int .u32 0], .int .i64 0], []⟩ 8 (by kernel_rfl) (by kernel_rfl) (by kernel_rfl) (by kernel_rfl))
    rfl rfl Try.underlying4 (by kernel_rfl) (fun ds h => by match ds, h with | [_, _, _], _ => exact ⟨rfl, rfl, rfl⟩) ?_
  intro W base args ds p hval0 hA hlt hsz
  have hval : ∀ (j : Nat) t v, Try.f6.params[j]? = some t → args[j]? = some v → Value.okWide Try.prog W .any base t v := hval0
  clear hval0 hsz
  replace hA : DataW.TrodAll enc Try.prog W 0 (fun _ => true) true Try.f6.params.toList args.toList ds p := hA
  rw [Try.params6] at hA hval
  obtain ⟨v0, v1, v2, d0, d1, d2, p0, p1, p2, rfl, rfl, rfl, h0, h1, h2⟩ := trodAll_three hA
  obtain ⟨a0, a1, a2, rfl, ra0, ra1, ra2⟩ := open_arr3 (hval 0 30 v0 rfl rfl) h0
  obtain ⟨b0, b1, b2, rfl, rb0, rb1, rb2⟩ := open_arr3 (hval 1 30 v1 rfl rfl) h1
  obtain ⟨c, rfl, rfl, rfl, wc⟩ := open_int Try.underlying3 (hval 2 3 v2 rfl rfl) h2
  exact walk a0 a1 a2 b0 b1 b2 c W ra0 ra1 ra2 rb0 rb1 rb2

theorem proved : Rows.TokenOrderSaid :=
  OpenClaim.holds_of_wide 6 Try.f6 rfl rfl rfl rfl rfl rfl rfl ⟨rfl, rfl, rfl, rfl, rfl⟩ rfl rfl rfl rfl rfl (by kernel_rfl) Try.func6 (by kernel_rfl)
    (of_decide_eq_true (by kernel_rfl)) (by unfold Func.isWrapper; first | (rw [if_pos (by decide +kernel)]; kernel_rfl) | (rw [if_neg (by decide +kernel)]; exact ⟨rfl, rfl⟩))
    (fun os started H enc _ => lifted os started H enc)
#print axioms proved

end Go.Proofs.Ytgkbgkfgoplijaa.TokOrder
