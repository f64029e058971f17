/- The walks of sched.Turns and forebayref36.Turns. -/
import Derived.Test.YthjncmnemppfhaaSdR
import Derived.Test.YthjncmnemppfhaaSdTP
import Derived.Deep.RegionHeld3
import Derived.Deep.AppendLies
import Derived.Deep.DeepCutAuto
namespace Go.Proofs.Ythjncmnemppfhaa.Sd
open Go.RowKit
set_option linter.unusedVariables false
set_option linter.unusedSimpArgs false

theorem wrapI (n : Int) (h : -9223372036854775808 ≤ n ∧ n ≤ 9223372036854775807) : IntKind.i64.wrap n = n := by rw [IntKind.wrap_i64]; omega

theorem wb (c : UInt8) : wrap64 (c.toNat : Int) = (c.toNat : Int) := by
  have := UInt8.toNat_lt c
  unfold wrap64; omega

theorem turnW_ge (n k c : Nat) (h0 : 0 ≤ (k : Int) % n) (h1 : (k : Int) % n < n) (h : 128 ≤ c) : turnW n (c : Int) (k % n) = ((c : Int) + ((n : Int) - (k : Int) % n)).tmod n := by
  rw [Int.tmod_eq_emod_of_nonneg (by omega)]; unfold turnW; rw [if_pos (by omega)]; simp
theorem turnW_lt (n k c : Nat) (h0 : 0 ≤ (k : Int) % n) (h : ¬ 128 ≤ c) : turnW n (c : Int) (k % n) = ((c : Int) + (k : Int) % n).tmod n := by
  rw [Int.tmod_eq_emod_of_nonneg (by omega)]; unfold turnW; rw [if_neg (by omega)]; simp

theorem str_empty (s : ByteArray) (h : s.size = 0) : s.toList.isEmpty = true := by
  rw [ByteArray.toList_eq, List.isEmpty_iff_length_eq_zero]; exact h
theorem str_full (s : ByteArray) (h : 0 < s.size) : s.toList.isEmpty = false := by
  rw [ByteArray.toList_eq, ← Bool.not_eq_true, List.isEmpty_iff_length_eq_zero]
  have h2 : s.data.toList.length = s.size := rfl
  omega

set_option maxHeartbeats 1600000 in
theorem turns_any (wk st : Int) (s : ByteArray) (n m : Nat) (hn : teamV wk = n) (hm : lenV st = m) (hs : s.size ≤ 1000000) (w : World) :
    Calls Try.prog 18 #[.int .i64 wk, .int .i64 st, .string s] w fun e w' => ∃ v, e = .returned v ∧ w'.ownsRow w.heap.size 27 2 v m (pk (turnsN n s m)) ∧ Below w.heap.size w w' := by
  have hl := lenV_in st
  have hm1 : m ≤ 1048576 := by omega
  have ht := teamV_in wk
  have ht1 : 1 ≤ n := by omega
  have ht2 : n ≤ 64 := by omega
  have HL : Hid (∀ w, Calls Try.prog 24 #[.int .i64 st] w fun e w' => e = .returned (.int .i64 (m : Int)) ∧ w = w') := Lib.hid fun w => by rw [← hm]; exact len_any st w
  have HT : Hid (∀ w, Calls Try.prog 20 #[.int .i64 wk] w fun e w' => e = .returned (.int .i64 (n : Int)) ∧ w = w') := Lib.hid fun w => by rw [← hn]; exact team_any wk w
  clear hl hm ht hn
  obtain ⟨i0, hi, hz0, hz1, hz2⟩ := info_parts infoPick
  go_enter Try.func18, Try.ntmps18
  go_wp2_with (first | (go_at_call 24; refine (HL.out _).mono ?_; rintro e w' ⟨rfl, rfl⟩) | (go_at_call 20; refine (HT.out _).mono ?_; rintro e w' ⟨rfl, rfl⟩))
  go_loopw [8, 16] (fun l i wr => ∃ k : Nat, k ≤ m ∧ i = .int .i64 k ∧ wr.ownsRow w.heap.size 27 2 l k (pk (turnsN n s k)) ∧ Below w.heap.size w wr) (fun _ i _ => m - (intOf i).toNat)
  case atStart => exact ⟨0, Nat.zero_le _, rfl, World.ownsRow_nil _ _ _ _, Below.refl _ _⟩
  case round =>
    obtain ⟨k, hk, rfl, hown, hbl⟩ := hrel
    have hszb := hbl.size
    by_cases hlt : k < m
    · have HR : Hid (turnsN n s (k + 1) = turnsN n s k ++ [(turnW n (ordB s (k / n)) (k % n), ordB s (k / n) % n)]) := Lib.hid rfl
      have hb0 := ordB_in s (k / n)
      have hm0 : 0 ≤ (k : Int) % n := Int.emod_nonneg _ (by omega)
      have hm1 : (k : Int) % n < n := by have := Int.emod_lt_of_pos (k : Int) (show 0 < (n : Int) by omega); omega
      have hbm0 : 0 ≤ ordB s (k / n) % (n : Int) := Int.emod_nonneg _ (by omega)
      have hn1 : k + 1 ≤ maxLen := by unfold maxLen; omega
      have hn2 : (k + 1) * 16 ≤ 140737488355328 := by omega
      have hnz : ((n : Int) == 0) = false := by simp; omega
      have hnz2 : n ≠ 0 := by omega
      by_cases hs0 : s.size = 0
      · have hb1 : turnW n (ordB s (k / n)) (k % n) = ((k : Int) % n).tmod n := by
          rw [ord_none s _ hs0]; unfold turnW; rw [if_neg (by omega), Int.tmod_eq_emod_of_nonneg hm0]; simp
        have hb2 : ordB s (k / n) % n = (0 : Int) := by rw [ord_none s _ hs0]; simp
        have hse : (!s.toList.isEmpty) = false := by rw [str_empty s hs0]; rfl
        clear hs0
        go_upto_region 12 with fail
        generalize (k : Int) % n = d at *
        obtain ⟨x, hx⟩ : ∃ x, d.tmod (n : Int) = x := ⟨_, rfl⟩
        rw [hx] at hb1
        have HX := Lib.hid hb1
        have HY := Lib.hid hb2
        have e1 : IntKind.i64.wrap d = d := wrapI _ (by omega)
        have e2 := hx
        have e3 := hnz2
        clear hb1 hb2
        go_region_held3 (fun w' => True) (trivial)
          ((refine step_append_lies _ (by rfl) _ _ 24 (by rfl) w.heap.size 27 i0 _ 2 16 Try.underlying24 hi hz0 hz1 hz2 rfl (by omega) _ k _ (by rfl) ((hown.alloc _).drew)
                ⟨wr.heap.size, 0, none⟩ 1 1 [.int .i64 x, .int .i64 0] (by rfl) (by rfl) (World.news_of_block (cs := #[.int .i64 x, .int .i64 0]) (t := 27) (fr := (0, 0)) (heap_alloc_new wr _)) (by simp [Value.oneCell'])
                (by omega) hn1 hn2 (by simp; omega) (wr.heap.size + 1) (by simp) ?_; intro gg cap' w2 hown' hgrow hat hlt2))
        have hown2 : w2.ownsRow w.heap.size 27 2 (.slice (some ⟨gg, 0, none⟩) (k + 1) cap') (k + 1) (pk (turnsN n s (k + 1))) := by rw [HR.out, HX.out, HY.out, pk_snoc]; exact hown'
        have hbl2 : Below w.heap.size w w2 := Below.grown ((hbl.alloc hszb _).drew) hgrow (by simp; omega) (fun j hj => (hown.lt j hj).1)
        clear hown' hgrow hown e1 e2 e3
        go_wp2_with fail
        go_roundw
        case rel => exact ⟨k + 1, by omega, by go_num, hown2, hbl2⟩
        case measure => simp [intOf]; omega
      · have hin : k / n % s.size < s.size := Nat.mod_lt _ (by omega)
        have hby := ord_at s (k / n) (by omega) hin
        have h255 : (s[k / n % s.size]'hin).toNat ≤ 255 := by have := UInt8.toNat_lt (s[k / n % s.size]'hin); omega
        have hne : (!s.toList.isEmpty) = true := by rw [str_full s (by omega)]; rfl
        have hsz : 0 < s.size := by omega
        have hkn : 0 ≤ (k : Int) / n := Int.ediv_nonneg (by omega) (by omega)
        have hkb : (k : Int) / n ≤ 1048576 := by have := Int.ediv_le_self (b := (n : Int)) (a := (k : Int)) (by omega); omega
        have hix0 : 0 ≤ (k : Int) / n % s.size := Int.emod_nonneg _ (by omega)
        have hix1 : (k : Int) / n % s.size < s.size := Int.emod_lt_of_pos _ (by omega)
        by_cases h128 : 128 ≤ (s[k / n % s.size]'hin).toNat
        · have h128' : decide (128 ≤ ((s[k / n % s.size]'hin).toNat : Int)) = true := decide_eq_true (Int.ofNat_le.2 h128)
          have hb1 : turnW n (ordB s (k / n)) (k % n) = (((s[k / n % s.size]'hin).toNat : Int) + ((n : Int) - (k : Int) % n)).tmod n := by
            rw [hby]; exact turnW_ge n k _ hm0 hm1 h128
          have hb2 : ordB s (k / n) % n = (((s[k / n % s.size]'hin).toNat : Int)).tmod n := by rw [Int.tmod_eq_emod_of_nonneg (Int.natCast_nonneg _), hby]
          clear hby hb0 hbm0
          go_upto_region 10 with fail
          generalize (s[k / n % s.size]'hin).toNat = c at *
          clear hsz hkn hkb hne hix0 hix1
          go_upto_region 12 with fail
          clear h128 h128'
          generalize (k : Int) % n = d at *
          obtain ⟨x, hx⟩ : ∃ x, ((c : Int) + ((n : Int) - d)).tmod (n : Int) = x := ⟨_, rfl⟩
          obtain ⟨y, hy⟩ : ∃ y, (c : Int).tmod (n : Int) = y := ⟨_, rfl⟩
          rw [hx] at hb1
          rw [hy] at hb2
          have HX := Lib.hid hb1
          have HY := Lib.hid hb2
          have e1 : IntKind.i64.wrap ((c : Int) + ((n : Int) - d)) = (c : Int) + ((n : Int) - d) := wrapI _ (by omega)
          have e2 := hx
          have e3 := hy
          clear hb1 hb2
          go_region_held3 (fun w' => True) (trivial)
            ((refine step_append_lies _ (by rfl) _ _ 24 (by rfl) w.heap.size 27 i0 _ 2 16 Try.underlying24 hi hz0 hz1 hz2 rfl (by omega) _ k _ (by rfl) ((hown.alloc _).drew)
                  ⟨wr.heap.size, 0, none⟩ 1 1 [.int .i64 x, .int .i64 y] (by rfl) (by rfl) (World.news_of_block (cs := #[.int .i64 x, .int .i64 y]) (t := 27) (fr := (0, 0)) (heap_alloc_new wr _)) (by simp [Value.oneCell'])
                  (by omega) hn1 hn2 (by simp; omega) (wr.heap.size + 1) (by simp) ?_; intro gg cap' w2 hown' hgrow hat hlt2))
          have hown2 : w2.ownsRow w.heap.size 27 2 (.slice (some ⟨gg, 0, none⟩) (k + 1) cap') (k + 1) (pk (turnsN n s (k + 1))) := by rw [HR.out, HX.out, HY.out, pk_snoc]; exact hown'
          have hbl2 : Below w.heap.size w w2 := Below.grown ((hbl.alloc hszb _).drew) hgrow (by simp; omega) (fun j hj => (hown.lt j hj).1)
          clear hown' hgrow hown e1 e2 e3
          go_wp2_with fail
          go_roundw
          case rel => exact ⟨k + 1, by omega, by go_num, hown2, hbl2⟩
          case measure => simp [intOf]; omega
        · have h128' : decide (128 ≤ ((s[k / n % s.size]'hin).toNat : Int)) = false := decide_eq_false (fun h => h128 (Int.ofNat_le.1 h))
          have hb1 : turnW n (ordB s (k / n)) (k % n) = (((s[k / n % s.size]'hin).toNat : Int) + ((k : Int) % n)).tmod n := by
            rw [hby]; exact turnW_lt n k _ hm0 h128
          have hb2 : ordB s (k / n) % n = (((s[k / n % s.size]'hin).toNat : Int)).tmod n := by rw [Int.tmod_eq_emod_of_nonneg (Int.natCast_nonneg _), hby]
          clear hby hb0 hbm0
          go_upto_region 10 with fail
          generalize (s[k / n % s.size]'hin).toNat = c at *
          clear hsz hkn hkb hne hix0 hix1
          go_upto_region 12 with fail
          clear h128 h128'
          generalize (k : Int) % n = d at *
          obtain ⟨x, hx⟩ : ∃ x, ((c : Int) + (d)).tmod (n : Int) = x := ⟨_, rfl⟩
          obtain ⟨y, hy⟩ : ∃ y, (c : Int).tmod (n : Int) = y := ⟨_, rfl⟩
          rw [hx] at hb1
          rw [hy] at hb2
          have HX := Lib.hid hb1
          have HY := Lib.hid hb2
          have e1 : IntKind.i64.wrap ((c : Int) + (d)) = (c : Int) + (d) := wrapI _ (by omega)
          have e2 := hx
          have e3 := hy
          clear hb1 hb2
          go_region_held3 (fun w' => True) (trivial)
            ((refine step_append_lies _ (by rfl) _ _ 24 (by rfl) w.heap.size 27 i0 _ 2 16 Try.underlying24 hi hz0 hz1 hz2 rfl (by omega) _ k _ (by rfl) ((hown.alloc _).drew)
                  ⟨wr.heap.size, 0, none⟩ 1 1 [.int .i64 x, .int .i64 y] (by rfl) (by rfl) (World.news_of_block (cs := #[.int .i64 x, .int .i64 y]) (t := 27) (fr := (0, 0)) (heap_alloc_new wr _)) (by simp [Value.oneCell'])
                  (by omega) hn1 hn2 (by simp; omega) (wr.heap.size + 1) (by simp) ?_; intro gg cap' w2 hown' hgrow hat hlt2))
          have hown2 : w2.ownsRow w.heap.size 27 2 (.slice (some ⟨gg, 0, none⟩) (k + 1) cap') (k + 1) (pk (turnsN n s (k + 1))) := by rw [HR.out, HX.out, HY.out, pk_snoc]; exact hown'
          have hbl2 : Below w.heap.size w w2 := Below.grown ((hbl.alloc hszb _).drew) hgrow (by simp; omega) (fun j hj => (hown.lt j hj).1)
          clear hown' hgrow hown e1 e2 e3
          go_wp2_with fail
          go_roundw
          case rel => exact ⟨k + 1, by omega, by go_num, hown2, hbl2⟩
          case measure => simp [intOf]; omega
    · have e : k = m := by omega
      subst e
      go_wp2_with fail
      go_ret
      exact ⟨_, rfl, hown, hbl⟩

end Go.Proofs.Ythjncmnemppfhaa.Sd
