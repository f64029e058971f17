/- The walk of the reference's Do: it answers what package wrap's answers. -/
import Derived.Test.YthmeonabdpbmjaaWrR
namespace Go.Proofs.Ythmeonabdpbmjaa.Wr
open Go.RowKit
set_option linter.unusedVariables false
set_option linter.unusedSimpArgs false

theorem rdo3 (a b : Int) (w : World) (ha : -9223372036854775808 ≤ a ∧ a ≤ 9223372036854775807) (hb : -9223372036854775808 ≤ b ∧ b ≤ 9223372036854775807) :
    Calls Try.prog 21 #[.int .i64 3, .int .i64 a, .int .i64 b] w fun e w' => e = .returned (.tuple #[.int .i64 (doV 3 a b), .int .i64 (doF 3 b)]) ∧ w = w' := by
  have e1 := u64_val a
  have e2 := u64_val b
  have k1 := u64N_le a
  have k2 := u64N_le b
  have HV := Lib.hid (sum_val a b)
  generalize u64N a = u at *
  generalize u64N b = v at *
  go_enter Try.func21, Try.ntmps21
  go_wp2_with (go_at_call 26; refine (add_any _ _ _ (by omega) (by omega)).mono ?_; rintro e w' ⟨rfl, rfl⟩)
  go_ret2
  exact ⟨by rw [← show wrap64 (addN u v : Nat) = doV 3 a b from HV.out]; rfl, rfl⟩

theorem rdo4 (a b : Int) (w : World) (ha : -9223372036854775808 ≤ a ∧ a ≤ 9223372036854775807) (hb : -9223372036854775808 ≤ b ∧ b ≤ 9223372036854775807) :
    Calls Try.prog 21 #[.int .i64 4, .int .i64 a, .int .i64 b] w fun e w' => e = .returned (.tuple #[.int .i64 (doV 4 a b), .int .i64 (doF 4 b)]) ∧ w = w' := by
  have e1 := u64_val a
  have e2 := u64_val b
  have k1 := u64N_le a
  have k2 := u64N_le b
  have HV := Lib.hid (sub_val a b)
  generalize u64N a = u at *
  generalize u64N b = v at *
  have e3 := not_val v k2
  have k3 := notN_le v
  have hs := sg
  go_enter Try.func21, Try.ntmps21
  go_wp2_with fail
  refine (add_any u (notN v) _ k1 k3).mono ?_
  rintro e w' ⟨rfl, rfl⟩
  go_wp2_with fail
  refine (add_any (addN u (notN v)) 1 _ (addN_le _ _) (by decide)).mono ?_
  rintro e w' ⟨rfl, rfl⟩
  go_wp2_with fail
  go_ret2
  exact ⟨by rw [← show wrap64 (addN (addN u (notN v)) 1 : Nat) = doV 4 a b from HV.out]; rfl, rfl⟩

theorem rdo5 (a b : Int) (w : World) (ha : -9223372036854775808 ≤ a ∧ a ≤ 9223372036854775807) (hb : -9223372036854775808 ≤ b ∧ b ≤ 9223372036854775807) :
    Calls Try.prog 21 #[.int .i64 5, .int .i64 a, .int .i64 b] w fun e w' => e = .returned (.tuple #[.int .i64 (doV 5 a b), .int .i64 (doF 5 b)]) ∧ w = w' := by
  have e1 := u64_val a
  have e2 := u64_val b
  have k1 := u64N_le a
  have k2 := u64N_le b
  have HV := Lib.hid (prod_val a b)
  generalize u64N a = u at *
  generalize u64N b = v at *
  go_enter Try.func21, Try.ntmps21
  go_wp2_with fail
  refine (times_any u v _ k1 k2).mono ?_
  have k3 : ((u * v % 18446744073709551616 : Nat) : Int) ≤ 18446744073709551615 := by omega
  generalize u * v % 18446744073709551616 = t at *
  rintro e w' ⟨rfl, rfl⟩
  go_wp2_with fail
  go_ret2
  exact ⟨by rw [← show wrap64 (t : Nat) = doV 5 a b from HV.out]; rfl, rfl⟩

theorem rdo6z (a : Int) (w : World) :
    Calls Try.prog 21 #[.int .i64 6, .int .i64 a, .int .i64 0] w fun e w' => e = .returned (.tuple #[.int .i64 (doV 6 a 0), .int .i64 (doF 6 0)]) ∧ w = w' := by
  go_enter Try.func21, Try.ntmps21
  go_wp2_with fail
  go_ret2
  exact ⟨rfl, rfl⟩

theorem rdo6 (a b : Int) (w : World) (ha : -9223372036854775808 ≤ a ∧ a ≤ 9223372036854775807) (hb : -9223372036854775808 ≤ b ∧ b ≤ 9223372036854775807) (h0 : b ≠ 0) :
    Calls Try.prog 21 #[.int .i64 6, .int .i64 a, .int .i64 b] w fun e w' => e = .returned (.tuple #[.int .i64 (doV 6 a b), .int .i64 (doF 6 b)]) ∧ w = w' := by
  have h0' : (b == 0) = false := by simp [h0]
  have HV : Hid (sgnV (a.natAbs / b.natAbs) (decide (a < 0) != decide (b < 0)) = wrap64 (a.tdiv b)) := quot_val a b h0
  have HF : Hid (doF 6 b = 0) := by apply Lib.hid; simp [doF, h0]
  have HD : Hid (doV 6 a b = wrap64 (a.tdiv b)) := by apply Lib.hid; simp [doV, h0]
  have HB2 : Hid (wrap64 (a.tmod b) = a.tmod b) := by
    apply Lib.hid
    have h1 := tmod_sign a b
    have h2 := Int.natAbs_tmod a b
    have h3 := Nat.mod_le a.natAbs b.natAbs
    exact IntWalk.wrap64_in _ ⟨by omega, by omega⟩
  have m1 : (a.natAbs : Int) ≤ 18446744073709551615 := by omega
  have n1 : (b.natAbs : Int) ≤ 18446744073709551615 := by omega
  have n2 : 1 ≤ (b.natAbs : Int) := by omega
  have q1 : ((a.natAbs / b.natAbs : Nat) : Int) ≤ 18446744073709551615 := by have := Nat.div_le_self a.natAbs b.natAbs; omega
  have r1 : ((a.natAbs % b.natAbs : Nat) : Int) ≤ 18446744073709551615 := by have := Nat.mod_le a.natAbs b.natAbs; omega
  have c1 := size_any a
  have C1 := Lib.hid (fun w => c1 w ha)
  have c2 := size_any b
  have C2 := Lib.hid (fun w => c2 w hb)
  have c3 := fun w => long_any a.natAbs b.natAbs w m1 n1 n2
  have C3 := Lib.hid c3
  clear c1 c2 c3
  clear h0
  generalize a.natAbs / b.natAbs = q at *
  generalize a.natAbs % b.natAbs = r at *
  generalize a.natAbs = m at *
  generalize b.natAbs = n at *
  go_enter Try.func21, Try.ntmps21
  go_wp2_with fail
  refine (C1.out _).mono ?_
  rintro e w' ⟨rfl, rfl⟩
  go_wp2_with fail
  refine (C2.out _).mono ?_
  rintro e w' ⟨rfl, rfl⟩
  go_wp2_with fail
  refine (C3.out _).mono ?_
  rintro e w' ⟨rfl, rfl⟩
  go_wp2_with fail
  refine (signed_any q _ _ q1).mono ?_
  rintro e w' ⟨rfl, rfl⟩
  go_wp2_with fail
  go_ret2
  exact ⟨by rw [HF.out, HD.out, ← HV.out]; rfl, rfl⟩

theorem rdo7z (a : Int) (w : World) :
    Calls Try.prog 21 #[.int .i64 7, .int .i64 a, .int .i64 0] w fun e w' => e = .returned (.tuple #[.int .i64 (doV 7 a 0), .int .i64 (doF 7 0)]) ∧ w = w' := by
  go_enter Try.func21, Try.ntmps21
  go_wp2_with fail
  go_ret2
  exact ⟨rfl, rfl⟩

theorem rdo7 (a b : Int) (w : World) (ha : -9223372036854775808 ≤ a ∧ a ≤ 9223372036854775807) (hb : -9223372036854775808 ≤ b ∧ b ≤ 9223372036854775807) (h0 : b ≠ 0) :
    Calls Try.prog 21 #[.int .i64 7, .int .i64 a, .int .i64 b] w fun e w' => e = .returned (.tuple #[.int .i64 (doV 7 a b), .int .i64 (doF 7 b)]) ∧ w = w' := by
  have h0' : (b == 0) = false := by simp [h0]
  have HV : Hid (sgnV (a.natAbs % b.natAbs) (decide (a < 0)) = wrap64 (a.tmod b)) := congrArg wrap64 (rem_val a b)
  have HF : Hid (doF 7 b = 0) := by apply Lib.hid; simp [doF, h0]
  have HD : Hid (doV 7 a b = a.tmod b) := by apply Lib.hid; simp [doV, h0]
  have HB2 : Hid (wrap64 (a.tmod b) = a.tmod b) := by
    apply Lib.hid
    have h1 := tmod_sign a b
    have h2 := Int.natAbs_tmod a b
    have h3 := Nat.mod_le a.natAbs b.natAbs
    exact IntWalk.wrap64_in _ ⟨by omega, by omega⟩
  have m1 : (a.natAbs : Int) ≤ 18446744073709551615 := by omega
  have n1 : (b.natAbs : Int) ≤ 18446744073709551615 := by omega
  have n2 : 1 ≤ (b.natAbs : Int) := by omega
  have q1 : ((a.natAbs / b.natAbs : Nat) : Int) ≤ 18446744073709551615 := by have := Nat.div_le_self a.natAbs b.natAbs; omega
  have r1 : ((a.natAbs % b.natAbs : Nat) : Int) ≤ 18446744073709551615 := by have := Nat.mod_le a.natAbs b.natAbs; omega
  have c1 := size_any a
  have C1 := Lib.hid (fun w => c1 w ha)
  have c2 := size_any b
  have C2 := Lib.hid (fun w => c2 w hb)
  have c3 := fun w => long_any a.natAbs b.natAbs w m1 n1 n2
  have C3 := Lib.hid c3
  clear c1 c2 c3
  clear h0
  generalize a.natAbs / b.natAbs = q at *
  generalize a.natAbs % b.natAbs = r at *
  generalize a.natAbs = m at *
  generalize b.natAbs = n at *
  go_enter Try.func21, Try.ntmps21
  go_wp2_with fail
  refine (C1.out _).mono ?_
  rintro e w' ⟨rfl, rfl⟩
  go_wp2_with fail
  refine (C2.out _).mono ?_
  rintro e w' ⟨rfl, rfl⟩
  go_wp2_with fail
  refine (C3.out _).mono ?_
  rintro e w' ⟨rfl, rfl⟩
  go_wp2_with fail
  refine (signed_any r _ _ r1).mono ?_
  rintro e w' ⟨rfl, rfl⟩
  go_wp2_with fail
  go_ret2
  exact ⟨by rw [HF.out, HD.out, ← HB2.out, ← HV.out]; rfl, rfl⟩

theorem rdo8 (a b : Int) (w : World) :
    Calls Try.prog 21 #[.int .i64 8, .int .i64 a, .int .i64 b] w fun e w' => e = .returned (.tuple #[.int .i64 (doV 8 a b), .int .i64 (doF 8 b)]) ∧ w = w' := by
  by_cases h : a < b
  · have hd : decide (a < b) = true := by simp [h]
    have HD : Hid (doV 8 a b = 1) := by apply Lib.hid; simp [doV, b2i, h]
    go_enter Try.func21, Try.ntmps21
    go_wp2_with fail
    go_ret2
    exact ⟨by rw [HD.out]; rfl, rfl⟩
  · have hd : decide (a < b) = false := by simp; omega
    have HD : Hid (doV 8 a b = 0) := by apply Lib.hid; simp [doV, b2i]; omega
    go_enter Try.func21, Try.ntmps21
    go_wp2_with fail
    go_ret2
    exact ⟨by rw [HD.out]; rfl, rfl⟩

theorem rdo9 (a b : Int) (w : World) :
    Calls Try.prog 21 #[.int .i64 9, .int .i64 a, .int .i64 b] w fun e w' => e = .returned (.tuple #[.int .i64 (doV 9 a b), .int .i64 (doF 9 b)]) ∧ w = w' := by
  by_cases h : a = b
  · have hd : (a == b) = true := by simp [h]
    have HD : Hid (doV 9 a b = 1) := by apply Lib.hid; simp [doV, b2i, h]
    go_enter Try.func21, Try.ntmps21
    go_wp2_with fail
    go_ret2
    exact ⟨by rw [HD.out]; rfl, rfl⟩
  · have hd : (a == b) = false := by simp [h]
    have HD : Hid (doV 9 a b = 0) := by apply Lib.hid; simp [doV, b2i, h]
    go_enter Try.func21, Try.ntmps21
    go_wp2_with fail
    go_ret2
    exact ⟨by rw [HD.out]; rfl, rfl⟩

theorem rdo10 (a b : Int) (w : World) :
    Calls Try.prog 21 #[.int .i64 10, .int .i64 a, .int .i64 b] w fun e w' => e = .returned (.tuple #[.int .i64 (doV 10 a b), .int .i64 (doF 10 b)]) ∧ w = w' := by
  have e1 := u64_val a
  have e2 := u64_val b
  have k1 := u64N_le a
  have k2 := u64N_le b
  have HV := Lib.hid (and_back a b)
  generalize u64N a = u at *
  generalize u64N b = v at *
  go_enter Try.func21, Try.ntmps21
  go_wp2_with fail
  go_loop [10, 13] (fun n i => ∃ k : Nat, k ≤ 64 ∧ i = .int .i64 k ∧ n = .int .u64 (lowN (u &&& v) k : Nat)) (fun _ i => 64 - (intOf i).toNat)
  case atStart => exact ⟨0, by omega, rfl, by rw [lowN_zero]; rfl⟩
  case round =>
    obtain ⟨k, hk, rfl, rfl⟩ := hrel
    by_cases hlt : k < 64
    · have HZ := Lib.hid (bitN_and u v k)
      have HS := Lib.hid (lowN_skip (u &&& v) k)
      have HX := Lib.hid (lowN_take (u &&& v) k hlt)
      have c1 := Lib.hid (fun w => bit_any u k w k1 (by omega))
      have c2 := Lib.hid (fun w => bit_any v k w k2 (by omega))
      have b1 := bitN_le u k
      have b2 := bitN_le v k
      have hu : bitN u k = 0 ∨ bitN u k = 1 := by omega
      have hv : bitN v k = 0 ∨ bitN v k = 1 := by omega
      clear b1 b2
      rcases hu with hu | hu <;> rcases hv with hv | hv <;> rw [hu] at c1 HZ <;> rw [hv] at c2 HZ
      all_goals
        clear hu hv
        go_wp2_with fail
        refine (c1.out _).mono ?_
        rintro e w' ⟨rfl, rfl⟩
        go_wp2_with fail
        refine (c2.out _).mono ?_
        rintro e w' ⟨rfl, rfl⟩
        go_wp2_with fail
        go_round
        case rel => exact ⟨k + 1, by omega, by go_num, by first | rw [HS.out HZ.out] | rw [HX.out HZ.out]⟩
        case measure => simp [intOf]; omega
    · go_wp2_with fail
      go_ret2
      have h64 : lowN (u &&& v) k = u &&& v := by rw [show k = 64 by omega]; exact lowN_end _ (Nat.and_lt_two_pow _ (by omega))
      exact ⟨by rw [h64, ← show wrap64 ((u &&& v : Nat) : Int) = doV 10 a b from HV.out]; rfl, rfl⟩

theorem rdo11 (a b : Int) (w : World) :
    Calls Try.prog 21 #[.int .i64 11, .int .i64 a, .int .i64 b] w fun e w' => e = .returned (.tuple #[.int .i64 (doV 11 a b), .int .i64 (doF 11 b)]) ∧ w = w' := by
  have e1 := u64_val a
  have e2 := u64_val b
  have k1 := u64N_le a
  have k2 := u64N_le b
  have HV := Lib.hid (or_back a b)
  generalize u64N a = u at *
  generalize u64N b = v at *
  go_enter Try.func21, Try.ntmps21
  go_wp2_with fail
  go_loop [10, 13] (fun n i => ∃ k : Nat, k ≤ 64 ∧ i = .int .i64 k ∧ n = .int .u64 (lowN (u ||| v) k : Nat)) (fun _ i => 64 - (intOf i).toNat)
  case atStart => exact ⟨0, by omega, rfl, by rw [lowN_zero]; rfl⟩
  case round =>
    obtain ⟨k, hk, rfl, rfl⟩ := hrel
    by_cases hlt : k < 64
    · have HZ := Lib.hid (bitN_or u v k)
      have HS := Lib.hid (lowN_skip (u ||| v) k)
      have HX := Lib.hid (lowN_take (u ||| v) k hlt)
      have c1 := Lib.hid (fun w => bit_any u k w k1 (by omega))
      have c2 := Lib.hid (fun w => bit_any v k w k2 (by omega))
      have b1 := bitN_le u k
      have b2 := bitN_le v k
      have hu : bitN u k = 0 ∨ bitN u k = 1 := by omega
      have hv : bitN v k = 0 ∨ bitN v k = 1 := by omega
      clear b1 b2
      rcases hu with hu | hu <;> rcases hv with hv | hv <;> rw [hu] at c1 HZ <;> rw [hv] at c2 HZ
      all_goals
        clear hu hv
        go_wp2_with fail
        refine (c1.out _).mono ?_
        rintro e w' ⟨rfl, rfl⟩
        go_wp2_with fail
        refine (c2.out _).mono ?_
        rintro e w' ⟨rfl, rfl⟩
        go_wp2_with fail
        go_round
        case rel => exact ⟨k + 1, by omega, by go_num, by first | rw [HS.out HZ.out] | rw [HX.out HZ.out]⟩
        case measure => simp [intOf]; omega
    · go_wp2_with fail
      go_ret2
      have h64 : lowN (u ||| v) k = u ||| v := by rw [show k = 64 by omega]; exact lowN_end _ (Nat.or_lt_two_pow (by omega) (by omega))
      exact ⟨by rw [h64, ← show wrap64 ((u ||| v : Nat) : Int) = doV 11 a b from HV.out]; rfl, rfl⟩

theorem rdo12 (a b : Int) (w : World) :
    Calls Try.prog 21 #[.int .i64 12, .int .i64 a, .int .i64 b] w fun e w' => e = .returned (.tuple #[.int .i64 (doV 12 a b), .int .i64 (doF 12 b)]) ∧ w = w' := by
  have e1 := u64_val a
  have e2 := u64_val b
  have k1 := u64N_le a
  have k2 := u64N_le b
  have HV := Lib.hid (xor_val a b)
  generalize u64N a = u at *
  generalize u64N b = v at *
  go_enter Try.func21, Try.ntmps21
  go_wp2_with fail
  go_loop [10, 13] (fun n i => ∃ k : Nat, k ≤ 64 ∧ i = .int .i64 k ∧ n = .int .u64 (lowN (u ^^^ v) k : Nat)) (fun _ i => 64 - (intOf i).toNat)
  case atStart => exact ⟨0, by omega, rfl, by rw [lowN_zero]; rfl⟩
  case round =>
    obtain ⟨k, hk, rfl, rfl⟩ := hrel
    by_cases hlt : k < 64
    · have HZ := Lib.hid (bitN_xor u v k)
      have HS := Lib.hid (lowN_skip (u ^^^ v) k)
      have HX := Lib.hid (lowN_take (u ^^^ v) k hlt)
      have c1 := Lib.hid (fun w => bit_any u k w k1 (by omega))
      have c2 := Lib.hid (fun w => bit_any v k w k2 (by omega))
      have b1 := bitN_le u k
      have b2 := bitN_le v k
      have hu : bitN u k = 0 ∨ bitN u k = 1 := by omega
      have hv : bitN v k = 0 ∨ bitN v k = 1 := by omega
      clear b1 b2
      rcases hu with hu | hu <;> rcases hv with hv | hv <;> rw [hu] at c1 HZ <;> rw [hv] at c2 HZ
      all_goals
        clear hu hv
        go_wp2_with fail
        refine (c1.out _).mono ?_
        rintro e w' ⟨rfl, rfl⟩
        go_wp2_with fail
        refine (c2.out _).mono ?_
        rintro e w' ⟨rfl, rfl⟩
        go_wp2_with fail
        go_round
        case rel => exact ⟨k + 1, by omega, by go_num, by first | rw [HS.out HZ.out] | rw [HX.out HZ.out]⟩
        case measure => simp [intOf]; omega
    · go_wp2_with fail
      go_ret2
      have h64 : lowN (u ^^^ v) k = u ^^^ v := by rw [show k = 64 by omega]; exact lowN_end _ (Nat.xor_lt_two_pow (by omega) (by omega))
      exact ⟨by rw [h64, ← show wrap64 ((u ^^^ v : Nat) : Int) = doV 12 a b from HV.out]; rfl, rfl⟩

theorem rdo_none (op a b : Int) (w : World) (h : op < 3 ∨ 12 < op) :
    Calls Try.prog 21 #[.int .i64 op, .int .i64 a, .int .i64 b] w fun e w' => e = .returned (.tuple #[.int .i64 (doV op a b), .int .i64 (doF op b)]) ∧ w = w' := by
  have n3 : (op == 3) = false := by simp; omega
  have n4 : (op == 4) = false := by simp; omega
  have n5 : (op == 5) = false := by simp; omega
  have n6 : (op == 6) = false := by simp; omega
  have n7 : (op == 7) = false := by simp; omega
  have n8 : (op == 8) = false := by simp; omega
  have n9 : (op == 9) = false := by simp; omega
  have n10 : (op == 10) = false := by simp; omega
  have n11 : (op == 11) = false := by simp; omega
  have n12 : (op == 12) = false := by simp; omega
  have HD : Hid (doV op a b = 0) := by apply Lib.hid; simp [doV] at *; simp [n3, n4, n5, n6, n7, n8, n9, n10, n11, n12]
  have HF : Hid (doF op b = 0) := by apply Lib.hid; simp [doF]; omega
  have e1 := u64_val a
  have e2 := u64_val b
  have k1 := u64N_le a
  have k2 := u64N_le b
  generalize u64N a = u at *
  generalize u64N b = v at *
  clear h
  go_enter Try.func21, Try.ntmps21
  go_wp2_with fail
  go_loop [10, 13] (fun n i => ∃ k : Nat, k ≤ 64 ∧ i = .int .i64 k ∧ n = .int .u64 0) (fun _ i => 64 - (intOf i).toNat)
  case atStart => exact ⟨0, by omega, rfl, rfl⟩
  case round =>
    obtain ⟨k, hk, rfl, rfl⟩ := hrel
    by_cases hlt : k < 64
    · have c1 := Lib.hid (fun w => bit_any u k w k1 (by omega))
      have c2 := Lib.hid (fun w => bit_any v k w k2 (by omega))
      have hlt' : (k : Int) < 64 := by omega
      go_wp2_with fail
      refine (c1.out _).mono ?_
      rintro e w' ⟨rfl, rfl⟩
      go_wp2_with fail
      refine (c2.out _).mono ?_
      rintro e w' ⟨rfl, rfl⟩
      go_wp2_with fail
      go_round
      case rel => exact ⟨k + 1, by omega, by go_num, rfl⟩
      case measure => simp [intOf]; omega
    · have hlt' : 64 ≤ (k : Int) := by omega
      go_wp2_with fail
      go_ret2
      exact ⟨by rw [HD.out, HF.out]; rfl, rfl⟩

theorem rdo_any (op a b : Int) (w : World) (ha : -9223372036854775808 ≤ a ∧ a ≤ 9223372036854775807) (hb : -9223372036854775808 ≤ b ∧ b ≤ 9223372036854775807) :
    Calls Try.prog 21 #[.int .i64 op, .int .i64 a, .int .i64 b] w fun e w' => e = .returned (.tuple #[.int .i64 (doV op a b), .int .i64 (doF op b)]) ∧ w = w' := by
  by_cases h : op < 3 ∨ 12 < op
  · exact rdo_none op a b w h
  · have : op = 3 ∨ op = 4 ∨ op = 5 ∨ op = 6 ∨ op = 7 ∨ op = 8 ∨ op = 9 ∨ op = 10 ∨ op = 11 ∨ op = 12 := by omega
    rcases this with rfl | rfl | rfl | rfl | rfl | rfl | rfl | rfl | rfl | rfl
    · exact rdo3 a b w ha hb
    · exact rdo4 a b w ha hb
    · exact rdo5 a b w ha hb
    · by_cases h0 : b = 0
      · subst h0; exact rdo6z a w
      · exact rdo6 a b w ha hb h0
    · by_cases h0 : b = 0
      · subst h0; exact rdo7z a w
      · exact rdo7 a b w ha hb h0
    · exact rdo8 a b w
    · exact rdo9 a b w
    · exact rdo10 a b w
    · exact rdo11 a b w
    · exact rdo12 a b w

end Go.Proofs.Ythmeonabdpbmjaa.Wr
