/- The walks of the reference of package wrap: bit by bit. -/
import Derived.Test.YthmeonabdpbmjaaWrW
import Derived.Test.YthmeonabdpbmjaaWrRM
namespace Go.Proofs.Ythmeonabdpbmjaa.Wr
open Go.RowKit
set_option linter.unusedVariables false
set_option linter.unusedSimpArgs false

theorem ret_u {k : IntKind} {a b : Int} (h : a = b) : Ending.returned (.int k a) = .returned (.int k b) := by rw [h]

theorem bit_any (x i : Nat) (w : World) (hx : (x : Int) ≤ 18446744073709551615) (hi : (i : Int) ≤ 63) :
    Calls Try.prog 31 #[.int .u64 x, .int .i64 i] w fun e w' => e = .returned (.int .u64 (bitN x i : Nat)) ∧ w = w' := by
  go_enter Try.func31, Try.ntmps31
  go_wp2
  go_ret
  exact ⟨ret_int (bit_val x i hx), rfl⟩

theorem add_any (x y : Nat) (w : World) (hx : (x : Int) ≤ 18446744073709551615) (hy : (y : Int) ≤ 18446744073709551615) :
    Calls Try.prog 26 #[.int .u64 x, .int .u64 y] w fun e w' => e = .returned (.int .u64 (addN x y : Nat)) ∧ w = w' := by
  go_enter Try.func26, Try.ntmps26
  go_wp2
  go_loop [5, 6, 7] (fun n c i => ∃ k : Nat, k ≤ 64 ∧ i = .int .i64 k ∧ n = .int .u64 (aN x y k : Nat) ∧ c = .int .u64 (aC x y k : Nat)) (fun _ _ i => 64 - (intOf i).toNat)
  case atStart => exact ⟨0, by omega, rfl, by rw [aN_zero]; rfl, by rw [aC_zero]; rfl⟩
  case round =>
    obtain ⟨k, hk, rfl, rfl, rfl⟩ := hrel
    have b1 : (bitN x k : Int) ≤ 1 := by have := bitN_le x k; omega
    have b2 : (bitN y k : Int) ≤ 1 := by have := bitN_le y k; omega
    have b3 : (aC x y k : Int) ≤ 1 := by have := aC_le x y k; omega
    by_cases hlt : k < 64
    · go_wp2_with (go_at_call 31; refine (bit_any _ _ _ (by omega) (by omega)).mono ?_; rintro e w' ⟨rfl, rfl⟩)
      go_round
      case rel => exact ⟨k + 1, by omega, by go_num, by rw [add_round x y k hlt], by rw [add_carry]⟩
      case measure => simp [intOf]; omega
    · go_wp2
      go_ret
      exact ⟨ret_int (by rw [show k = 64 by omega, add_end x y hx hy]), rfl⟩

theorem addN_le (x y : Nat) : (addN x y : Int) ≤ 18446744073709551615 := by unfold addN; omega
theorem mulN_le (x y k : Nat) : (mulN x y k : Int) ≤ 18446744073709551615 := by unfold mulN; omega

theorem times_any (x y : Nat) (w : World) (hx : (x : Int) ≤ 18446744073709551615) (hy : (y : Int) ≤ 18446744073709551615) :
    Calls Try.prog 27 #[.int .u64 x, .int .u64 y] w fun e w' => e = .returned (.int .u64 (x * y % 18446744073709551616 : Nat)) ∧ w = w' := by
  have HE := Lib.hid (mul_end x y hy)
  rw [← HE.out]
  go_enter Try.func27, Try.ntmps27
  go_wp2
  go_loop [5, 6] (fun n i => ∃ k : Nat, k ≤ 64 ∧ i = .int .i64 k ∧ n = .int .u64 (mulN x y k : Nat)) (fun _ i => 64 - (intOf i).toNat)
  case atStart => exact ⟨0, by omega, rfl, by rw [mul_zero]; rfl⟩
  case round =>
    obtain ⟨k, hk, rfl, rfl⟩ := hrel
    have HS := Lib.hid (shl_val x k)
    by_cases hlt : k < 64
    · by_cases hb : bitN y k = 1
      · have hb' : ((bitN y k : Int) == 1) = true := by simp [hb]
        have hs := HS.out
        have hm := mulN_le x y k
        have hsl : ((x * 2 ^ k % 18446744073709551616 : Nat) : Int) ≤ 18446744073709551615 := by omega
        have HA := Lib.hid (mul_take x y k hb)
        generalize x * 2 ^ k % 18446744073709551616 = sh at *
        go_wp2_with (first | (go_at_call 31; refine (bit_any _ _ _ (by omega) (by omega)).mono ?_; rintro e w' ⟨rfl, rfl⟩) | (go_at_call 26; refine (add_any _ _ _ (by omega) (by omega)).mono ?_; rintro e w' ⟨rfl, rfl⟩))
        go_round
        case rel => exact ⟨k + 1, by omega, by go_num, by rw [HA.out]⟩
        case measure => simp [intOf]; omega
      · have hb' : ((bitN y k : Int) == 1) = false := by simp; omega
        go_wp2_with (first | (go_at_call 31; refine (bit_any _ _ _ (by omega) (by omega)).mono ?_; rintro e w' ⟨rfl, rfl⟩) | (go_at_call 26; refine (add_any _ _ _ (by omega) (by omega)).mono ?_; rintro e w' ⟨rfl, rfl⟩))
        go_round
        case rel => exact ⟨k + 1, by omega, by go_num, by rw [mul_skip x y k (by have := bitN_le y k; omega)]⟩
        case measure => simp [intOf]; omega
    · go_wp2
      go_ret
      exact ⟨ret_int (by rw [show k = 64 by omega]), rfl⟩

theorem sg : IntKind.u64.signed = false := rfl

theorem size_any (a : Int) (w : World) (ha : -9223372036854775808 ≤ a ∧ a ≤ 9223372036854775807) :
    Calls Try.prog 29 #[.int .i64 a] w fun e w' => e = .returned (.int .u64 (a.natAbs : Nat)) ∧ w = w' := by
  have hs := sg
  by_cases h : a < 0
  · have e1 := u64_val a
    have e2 := u64N_le a
    have HA := Lib.hid (abs_neg a ha.1 h)
    generalize u64N a = u at *
    have e3 := not_val u e2
    have e4 := notN_le u
    go_enter Try.func29, Try.ntmps29
    go_wp2_with fail
    refine (add_any (notN u) 1 _ e4 (by decide)).mono ?_
    rintro e w' ⟨rfl, rfl⟩
    go_wp2_with fail
    go_ret
    exact ⟨ret_int (by rw [HA.out]), rfl⟩
  · go_enter Try.func29, Try.ntmps29
    go_wp2_with fail
    go_ret
    exact ⟨ret_int (by omega), rfl⟩

def sgnV (n : Nat) (b : Bool) : Int := wrap64 (if b = true then -(n : Int) else n)
theorem signed_any (n : Nat) (b : Bool) (w : World) (hn : (n : Int) ≤ 18446744073709551615) :
    Calls Try.prog 30 #[.int .u64 n, .bool b] w fun e w' => e = .returned (.int .i64 (sgnV n b)) ∧ w = w' := by
  have hs := sg
  have e3 := not_val n hn
  have e4 := notN_le n
  have HA := Lib.hid (neg_val n hn)
  cases b
  · go_enter Try.func30, Try.ntmps30
    go_wp2_with fail
    all_goals (go_ret; exact ⟨rfl, rfl⟩)
  · go_enter Try.func30, Try.ntmps30
    go_wp2_with fail
    refine (add_any (notN n) 1 _ e4 (by decide)).mono ?_
    rintro e w' ⟨rfl, rfl⟩
    go_wp2_with fail
    go_ret
    exact ⟨ret_int HA.out, rfl⟩

set_option maxRecDepth 100000 in
theorem long_any (x y : Nat) (w : World) (hx : (x : Int) ≤ 18446744073709551615) (hy : (y : Int) ≤ 18446744073709551615) (h0 : 1 ≤ (y : Int)) :
    Calls Try.prog 28 #[.int .u64 x, .int .u64 y] w fun e w' => e = .returned (.tuple #[.int .u64 (x / y : Nat), .int .u64 (x % y : Nat)]) ∧ w = w' := by
  have HE := Lib.hid (qN_end x y)
  have HB := Lib.hid (qN_begin x y hx)
  rw [← HE.out.1, ← HE.out.2]
  go_enter Try.func28, Try.ntmps28
  go_wp2
  go_loop [6, 7, 8] (fun q r i => ∃ k : Nat, k ≤ 64 ∧ i = .int .i64 ((k : Int) - 1) ∧ q = .int .u64 (qN x y k : Nat) ∧ r = .int .u64 (rN x y k : Nat)) (fun _ _ i => (intOf i + 1).toNat)
  case atStart => exact ⟨64, by omega, rfl, by rw [HB.out.1]; rfl, by rw [HB.out.2]; rfl⟩
  case round =>
    obtain ⟨k, hk, rfl, rfl, rfl⟩ := hrel
    rcases k with _ | k
    · go_wp2
      go_ret2
      exact ⟨rfl, rfl⟩
    · rw [show (((k + 1 : Nat) : Int) - 1) = (k : Int) by omega]
      have hr := rN_lt x y (k + 1) (by omega)
      have ht := bitN_le x k
      have HM := Lib.hid (qN_more x y k (by omega))
      have HL := Lib.hid (qN_less x y k (by omega))
      have HS := Lib.hid (q_set x y k (by omega) hx)
      have hkk : (k : Int) ≤ 63 := by omega
      generalize rN x y (k + 1) = r at *
      by_cases hg : 9223372036854775808 ≤ (r : Int)
      · have e1 := r_great r (bitN x k) hg (by omega) ht
        have HW := Lib.hid (r_less r (bitN x k) y hg hr hy ht)
        clear ht
        generalize 2 * r - 18446744073709551616 + bitN x k = R at *
        go_wp2_with (first | (go_at_call 31; refine (bit_any _ _ _ (by omega) (by omega)).mono ?_; rintro e w' ⟨rfl, rfl⟩))
        go_round
        case rel => exact ⟨k, by omega, rfl, by rw [HS.out, (HM.out (by omega)).1], by rw [HW.out, (HM.out (by omega)).2]⟩
        case measure => simp [intOf]
      · have HD : Hid (Unit → (r : Int) < 9223372036854775808) := by apply Lib.hid; intro _; omega
        have e1 := r_small r (bitN x k) (HD.out ()) ht
        clear ht
        clear hg
        obtain ⟨R, hR⟩ : ∃ R, 2 * r + bitN x k = R := ⟨_, rfl⟩
        have hRb : (R : Int) ≤ 18446744073709551615 := by have := HD.out (); have := bitN_le x k; omega
        rw [hR] at e1 HM HL
        clear hR
        by_cases hm : y ≤ R
        · have hm' : (y : Int) ≤ R := by omega
          have E2 := Lib.hid (show IntKind.u64.wrap ((R : Int) - y) = ((R - y : Nat) : Int) by rw [wrap_u64']; omega)
          clear hRb
          go_wp2_with (first | (go_at_call 31; refine (bit_any _ _ _ (by omega) (by omega)).mono ?_; rintro e w' ⟨rfl, rfl⟩))
          · exfalso
            have := HD.out ()
            have : (r : Int) / 9223372036854775808 = 1 := by assumption
            omega
          · go_round
            case rel => exact ⟨k, by omega, rfl, by rw [HS.out, (HM.out hm).1], by first | rw [E2.out, (HM.out hm).2] | (rw [(HM.out hm).2, ← E2.out]; rfl)⟩
            case measure => simp [intOf]
        · have hm' : (R : Int) < y := by omega
          go_wp2_with (first | (go_at_call 31; refine (bit_any _ _ _ (by omega) (by omega)).mono ?_; rintro e w' ⟨rfl, rfl⟩))
          · exfalso
            have := HD.out ()
            have : (r : Int) / 9223372036854775808 = 1 := by assumption
            omega
          · go_round
            case rel => exact ⟨k, by omega, rfl, by rw [(HL.out (by omega)).1], by rw [(HL.out (by omega)).2]⟩
            case measure => simp [intOf]

end Go.Proofs.Ythmeonabdpbmjaa.Wr
