/- The walks of sched.Round and forebayref36.Same. -/
import Derived.Test.YthjncmnemppfhaaSdP
namespace Go.Proofs.Ythjncmnemppfhaa.Sd
open Go.RowKit
set_option linter.unusedVariables false
set_option linter.unusedSimpArgs false

theorem infoPick : (Try.prog.info? 27).map (fun i => (i.zero, i.size, i.bytes)) = some (some (.agg #[.int .i64 0, .int .i64 0]), 2, 16) := by kernel_rfl

set_option maxHeartbeats 800000 in
theorem round_any (wk vic s : Int) (n : Nat) (hn : lenV s = n) (w : World) :
    Calls Try.prog 17 #[.int .i64 wk, .int .i64 vic, .int .i64 s] w fun e w' => ∃ v, e = .returned v ∧ w'.ownsRow w.heap.size 27 2 v n (pk (roundV wk vic n)) ∧ Below w.heap.size w w' := by
  have hl := lenV_in s
  have hn1 : n ≤ 1048576 := by omega
  have ht1 : 1 ≤ teamV wk := (teamV_in wk).1
  have ht2 : teamV wk ≤ 64 := (teamV_in wk).2
  have HL : Hid (∀ w, Calls Try.prog 24 #[.int .i64 s] w fun e w' => e = .returned (.int .i64 (n : Int)) ∧ w = w') := Lib.hid fun w => by rw [← hn]; exact len_any s w
  clear hl hn
  obtain ⟨i0, hi, hz0, hz1, hz2⟩ := info_parts infoPick
  go_enter Try.func17, Try.ntmps17
  go_wp2_with (first | (go_at_call 24; refine (HL.out _).mono ?_; rintro e w' ⟨rfl, rfl⟩))
  go_loopw [7, 11] (fun l i wr => ∃ k : Nat, k ≤ n ∧ i = .int .i64 k ∧ wr.ownsRow w.heap.size 27 2 l k (pk (roundV wk vic k)) ∧ Below w.heap.size w wr) (fun _ i _ => n - (intOf i).toNat)
  case atStart => exact ⟨0, Nat.zero_le _, rfl, World.ownsRow_nil _ _ _ _, Below.refl _ _⟩
  case round =>
    obtain ⟨k, hk, rfl, hown, hbl⟩ := hrel
    have hszb := hbl.size
    by_cases hlt : k < n
    · have hm0 : 0 ≤ (k : Int) % teamV wk := Int.emod_nonneg _ (by omega)
      have hm1 : (k : Int) % teamV wk < 64 := by have := Int.emod_lt_of_pos (k : Int) (show 0 < teamV wk by omega); omega
      have HR : Hid (roundV wk vic (k + 1) = roundV wk vic k ++ [((k : Int) % teamV wk, vic)]) := Lib.hid rfl
      go_wp2_with (first | (go_at_call 20; refine (team_any _ _).mono ?_; rintro e w' ⟨rfl, rfl⟩) | (at_builtin; refine wpList_append_own _ rfl _ _ 24 rfl w.heap.size 27 i0 (.agg #[.int .i64 0, .int .i64 0]) 2 16 Try.underlying24 hi hz0 hz1 hz2 rfl (by decide) _ _ _ rfl (hown.alloc _) ⟨wr.heap.size, 0, none⟩ 1 1 [.int .i64 ((k : Int) % teamV wk), .int .i64 vic] rfl rfl ?c1 ?c2 ?c3 ?c4 ?c5 ?_))
      case c1 =>
        intro j u hj
        match j, hj with
        | 0, hj => simp at hj; subst hj; simp [Addr.add, cell_new]
        | 1, hj => simp at hj; subst hj; simp [Addr.add, cell_new]
      case c2 => intro u hu; simp at hu; rcases hu with rfl | rfl <;> rfl
      case c3 => unfold maxLen; omega
      case c4 => omega
      case c5 => simp; omega
      intro v' w2 hown' hgrow _
      have hown2 : w2.ownsRow w.heap.size 27 2 v' (k + 1) (pk (roundV wk vic (k + 1))) := by rw [HR.out, pk_snoc]; exact hown'
      have hbl2 : Below w.heap.size w w2 := Below.grown (hbl.alloc hszb _) hgrow (by simp; omega) (fun j hj => (hown.lt j hj).1)
      clear hown' hgrow hown
      go_wp2_with fail
      go_roundw
      case rel => exact ⟨k + 1, by omega, by go_num, hown2, hbl2⟩
      case measure => simp [intOf]; omega
    · have e : k = n := by omega
      subst e
      go_wp2_with fail
      go_ret
      exact ⟨_, rfl, hown, hbl⟩

end Go.Proofs.Ythjncmnemppfhaa.Sd
