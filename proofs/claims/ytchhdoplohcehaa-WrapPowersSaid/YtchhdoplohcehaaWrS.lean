/- The walks of wrap.Sum, wrap.Power and of the statements' own tests. -/
import Derived.Test.YtchhdoplohcehaaWrW
namespace Go.Proofs.Ytchhdoplohcehaa.Wr
open Go.RowKit
set_option linter.unusedVariables false
set_option linter.unusedSimpArgs false

/-- a slice of ints that reads as zs -/
def RdI (w : World) (A : Option Addr) (zs : List Int) : Prop :=
  0 < zs.length → ∃ b o, A = some ⟨b, o, none⟩ ∧ ∀ j, j < zs.length → w.cell? ⟨b, o + j, none⟩ = some (.int .i64 (zs.getD j 0))

theorem sum_some (b o c : Nat) (zs : List Int) (w : World) (hm : zs.length ≤ 9223372036854775807)
    (hc : ∀ j, j < zs.length → w.cell? ⟨b, o + j, none⟩ = some (.int .i64 (zs.getD j 0))) :
    Calls Try.prog 12 #[.slice (some ⟨b, o, none⟩) zs.length c] w fun e w' => e = .returned (.int .i64 (sumW zs)) ∧ w = w' := by
  go_enter Try.func12, Try.ntmps12
  go_wp2
  go_loop [3, 8] (fun n i => ∃ k : Nat, k ≤ zs.length ∧ i = .int .i64 k ∧ n = .int .i64 (sumW (zs.take k))) (fun _ i => zs.length - (intOf i).toNat)
  case atStart => exact ⟨0, Nat.zero_le _, rfl, rfl⟩
  case round =>
    obtain ⟨k, hk, rfl, rfl⟩ := hrel
    have hcell : k < zs.length → w.cell? ⟨b, o + k, none⟩ = some (.int .i64 (zs.getD k 0)) := hc k
    have HS : Hid (k < zs.length → sumW (zs.take (k + 1)) = wrap64 (sumW (zs.take k) + zs.getD k 0)) := sumW_take zs k
    clear hc
    by_cases hlt : k < zs.length
    · go_wp2
      go_round
      case rel => exact ⟨k + 1, by omega, by go_num, by rw [HS.out hlt]; simp [List.getElem?_eq_getElem hlt]⟩
      case measure => simp [intOf]; omega
    · go_wp2
      go_ret
      exact ⟨ret_int (by rw [List.take_of_length_le (by omega)]), rfl⟩

theorem sum_none (A : Option Addr) (c : Nat) (w : World) :
    Calls Try.prog 12 #[.slice A 0 c] w fun e w' => e = .returned (.int .i64 0) ∧ w = w' := by
  go_enter Try.func12, Try.ntmps12
  go_wp2
  refine wp_loop_rounds 1 ?_
  rw [rounds_succ]
  go_wp2
  go_ret
  exact ⟨rfl, rfl⟩

theorem sum_any (A : Option Addr) (n c : Nat) (zs : List Int) (w : World) (hn : n = zs.length) (hm : zs.length ≤ 9223372036854775807) (h : RdI w A zs) :
    Calls Try.prog 12 #[.slice A n c] w fun e w' => e = .returned (.int .i64 (sumW zs)) ∧ w = w' := by
  subst hn
  by_cases h0 : 0 < zs.length
  · obtain ⟨b, o, rfl, hc⟩ := h h0
    exact sum_some b o c zs w hm hc
  · have hz : zs = [] := List.eq_nil_of_length_eq_zero (by omega)
    subst hz
    exact sum_none A c w

theorem power_go (a n p : Int) (m : Nat) (w : World) (hm1 : m ≤ 1000) (e0 : (if n < 0 then 0 else n) = p) (e1 : (if 1000 < p then 1000 else p) = (m : Int)) :
    Calls Try.prog 13 #[.int .i64 a, .int .i64 n] w fun e w' => e = .returned (.int .i64 (powW a m)) ∧ w = w' := by
  have HP : Hid (∀ k, powW a (k + 1) = wrap64 (powW a k * a)) := fun k => rfl
  go_enter Try.func13, Try.ntmps13
  go_wp2
  clear e0 e1
  go_loop [5, 9] (fun v i => ∃ k : Nat, k ≤ m ∧ i = .int .i64 k ∧ v = .int .i64 (powW a k)) (fun _ i => m - (intOf i).toNat)
  case atStart => exact ⟨0, Nat.zero_le _, rfl, rfl⟩
  case round =>
    obtain ⟨k, hk, rfl, rfl⟩ := hrel
    by_cases hlt : k < m
    · go_wp2
      go_round
      case rel => exact ⟨k + 1, by omega, by go_num, by rw [HP.out]⟩
      case measure => simp [intOf]; omega
    · go_wp2
      go_ret
      exact ⟨ret_int (by rw [show k = m by omega]), rfl⟩

theorem power_any (a n : Int) (w : World) :
    Calls Try.prog 13 #[.int .i64 a, .int .i64 n] w fun e w' => e = .returned (.int .i64 (powW a (powN n))) ∧ w = w' := by
  obtain ⟨m, hm⟩ : ∃ m, powN n = m := ⟨_, rfl⟩
  have hb : (m : Int) = min (max n 0) 1000 := by rw [← hm]; unfold powN; omega
  rw [hm]
  exact power_go a n _ m w (by omega) rfl (by omega)

theorem works_any (w : World) :
    Calls Try.prog 10 #[] w fun e w' => e = .returned (.bool true) ∧ w.alloc (.cells #[.int .i64 1, .int .i64 2, .int .i64 3] 3) = w' := by
  have k1 : doV 5 6 7 = 42 := by decide +kernel
  have k2 : doF 5 7 = 0 := by decide +kernel
  have k3 : doF 6 0 = 1 := by decide +kernel
  have k4 : sumW [1, 2, 3] = 6 := by decide +kernel
  have k5 : decide ((3 : Int) ≤ 3 ∧ (3 : Int) ≤ 12) = true := by decide +kernel
  go_enter Try.func10, Try.ntmps10
  go_wp2_with (first | (go_at_call 8; refine (do_any _ _ _ _).mono ?_; rintro e w' ⟨rfl, rfl⟩) | (go_at_call 11; refine (known_any _ _).mono ?_; rintro e w' ⟨rfl, rfl⟩) | (go_at_call 12; refine (sum_any _ _ _ [1, 2, 3] _ rfl (by decide) ?_).mono ?_; (intro _; refine ⟨_, _, rfl, ?_⟩; intro j hj; match j, hj with | 0, _ => (simp) | 1, _ => (simp) | 2, _ => simp); rintro e w' ⟨rfl, rfl⟩))
  go_ret
  exact ⟨rfl, rfl⟩

end Go.Proofs.Ytchhdoplohcehaa.Wr
