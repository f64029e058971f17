/- The walk of forebayref36.Turns. -/
import Derived.Test.YthjncmnemppfhaaSdT
namespace Go.Proofs.Ythjncmnemppfhaa.Sd
open Go.RowKit
set_option linter.unusedVariables false
set_option linter.unusedSimpArgs false

theorem news2 (w : World) (x y : Int) (t : TypeId) : ∀ j u, ([.int .i64 x, .int .i64 y] : List Value)[j]? = some u → (w.alloc (.cells #[.int .i64 x, .int .i64 y] t)).cell? ((⟨w.heap.size, 0, none⟩ : Addr).add j) = some u := by
  intro j u hj
  match j, hj with
  | 0, hj => simp at hj; subst hj; simp [Addr.add, cell_new]
  | 1, hj => simp at hj; subst hj; simp [Addr.add, cell_new]
theorem slice_of {w : World} {base : Nat} {e : TypeId} {size : Nat} {v : Value} {n : Nat} {xs : List Value} (h : w.ownsRow base e size v n xs) : ∃ A cap, v = .slice A n cap := by
  rcases h.2 with ⟨rfl, h0⟩ | ⟨g, cap, cur, hv, _⟩
  · exact ⟨none, 0, by rw [h0]⟩
  · exact ⟨_, _, hv⟩

theorem rteam_any (s : Int) (w : World) :
    Calls Try.prog 23 #[.int .i64 s] w fun e w' => e = .returned (.int .i64 (teamV s)) ∧ w = w' := by
  have H : Hid (teamV s = if 64 < (if s < 1 then 1 else s) then 64 else (if s < 1 then 1 else s)) := by apply Lib.hid; unfold teamV; repeat (first | omega | split)
  go_enter Try.func23, Try.ntmps23
  go_wp2_with fail
  all_goals
    go_ret
    refine ⟨ret_int ?_, rfl⟩
    rw [H.out]
    repeat (first | omega | split)

set_option maxRecDepth 100000 in
set_option maxHeartbeats 1600000 in
theorem rturns_any (wk st : Int) (s : ByteArray) (n m : Nat) (hn : teamV wk = n) (h0 : 0 ≤ st) (hm : st = m) (hm1 : m ≤ 1048576) (hs : s.size ≤ 1000000) (w : World) :
    Calls Try.prog 19 #[.int .i64 wk, .int .i64 st, .string s] w fun e w' => ∃ v, e = .returned v ∧ w'.ownsRow w.heap.size 27 2 v m (pk (turnsN n s m)) ∧ Below w.heap.size w w' := by
  subst hm
  have ht := teamV_in wk
  have ht1 : 1 ≤ n := by omega
  have ht2 : n ≤ 64 := by omega
  have HT : Hid (∀ w, Calls Try.prog 23 #[.int .i64 wk] w fun e w' => e = .returned (.int .i64 (n : Int)) ∧ w = w') := Lib.hid fun w => by rw [← hn]; exact rteam_any wk w
  have hmm : (m : Int) ≤ 1048576 := by omega
  clear ht hn
  obtain ⟨i0, hi, hz0, hz1, hz2⟩ := info_parts infoPick
  go_enter Try.func19, Try.ntmps19
  go_wp2_with (first | (go_at_call 23; refine (HT.out _).mono ?_; rintro e w' ⟨rfl, rfl⟩))
  go_loopw [9, 10, 11, 12, 13] (fun l k _ _ _ wr => ∃ kk q : Nat, ∃ A cap, k = .int .i64 kk ∧ kk ≤ m ∧ q ≤ m ∧ Hid (q = kk * n ∨ q = m) ∧ l = .slice A q cap ∧ wr.ownsRow w.heap.size 27 2 (.slice A q cap) q (pk (turnsN n s q)) ∧ Below w.heap.size w wr) (fun _ k _ _ _ _ => m - (intOf k).toNat)
  case atStart => exact ⟨0, 0, none, 0, rfl, Nat.zero_le _, Nat.zero_le _, Lib.hid (Or.inl (by omega)), rfl, World.ownsRow_nil _ _ _ _, Below.refl _ _⟩
  case round =>
    obtain ⟨kk, q, A, cap, rfl, hkm, hqm, HQ, rfl, hown, hbl⟩ := hrel
    by_cases hlt : q < m
    · have hq : Hid (q = kk * n) := Lib.hid (by rcases HQ.out with h | h <;> omega)
      have hkl : kk < m := by have h1 := hq.out; have h2 : kk * 1 ≤ kk * n := Nat.mul_le_mul_left _ ht1; omega
      have hkl' : (kk : Int) < 1048576 := by omega
      clear HQ
      have hb0 := ordB_in s kk
      by_cases hs0 : s.size = 0
      · have HB0 := Lib.hid (ord_none s kk hs0)
        have hse : s = ⟨#[]⟩ := by
          apply ByteArray.ext
          exact Array.eq_empty_of_size_eq_zero hs0
        subst hse
        clear hs0 hb0 hs
        have HB : Hid (ordB ⟨#[]⟩ kk = 0) := HB0
        have hmn0 : 0 ≤ (0 : Int) % (n : Int) := Int.emod_nonneg _ (by omega)
        have hmn1 : (0 : Int) % (n : Int) < n := Int.emod_lt_of_pos _ (by omega)
        go_wp2_with fail
        go_loopw [9, 12, 13] (fun l x i wr => ∃ i0 r : Nat, ∃ A cap, i = .int .i64 i0 ∧ i0 ≤ n ∧ r ≤ m ∧ Hid (r = kk * n + i0) ∧ x = .int .i64 (turnW n 0 i0) ∧ l = .slice A r cap ∧ wr.ownsRow w.heap.size 27 2 (.slice A r cap) r (pk (turnsN n ⟨#[]⟩ r)) ∧ Below w.heap.size w wr) (fun _ _ i _ => n - (intOf i).toNat)
        case atStart => exact ⟨0, q, A, cap, rfl, Nat.zero_le _, hqm, Lib.hid (by have := hq.out; omega), by rw [turnW_zero]; try rfl, rfl, hown, hbl⟩
        case round =>
          clear hown hbl
          obtain ⟨i, r, A, cap, rfl, hin', hrm, HI, rfl, rfl, hown, hbl⟩ := hrel
          have hszb := hbl.size
          have hrm' : (r : Int) ≤ 1048576 := by omega
          by_cases hi1 : i < n
          · by_cases hr1 : r < m
            · have htw := turnW_in n (by omega) (0) i
              have HR : Hid (turnsN n ⟨#[]⟩ (r + 1) = turnsN n ⟨#[]⟩ r ++ [(turnW n (0) i, (0 : Int) % n)]) := Lib.hid (by
                have h1 := HI.out
                have h2 : r / n = kk := by rw [h1, Nat.mul_comm, Nat.mul_add_div (by omega), Nat.div_eq_of_lt hi1, Nat.add_zero]
                have h3 : r % n = i := by rw [h1, Nat.mul_comm, Nat.mul_add_mod, Nat.mod_eq_of_lt hi1]
                simp only [turnsN]
                rw [h2, h3, HB.out])
              have HU := Lib.hid (turnW_up n (0) i (by omega))
              generalize turnW n (0) i = x at *
              have hx0 := htw.1
              have hx1 := htw.2
              clear htw
              have hyy : Hid ((0 : Int) % (n : Int) = 0) := Lib.hid (by simp)
              rw [hyy.out] at HR
              go_wp2_with (at_builtin; refine wpList_append_own _ rfl _ _ 24 rfl w.heap.size 27 i0 (.agg #[.int .i64 0, .int .i64 0]) 2 16 Try.underlying24 hi hz0 hz1 hz2 rfl (by decide) _ _ _ rfl (hown.alloc _) ⟨wr.heap.size, 0, none⟩ 1 1 [.int .i64 x, .int .i64 0] rfl rfl (news2 _ _ _ _) (by simp [Value.oneCell']) (by unfold maxLen; omega) (by omega) (by simp; omega) ?_)
              intro v' w2 hown' hgrow hnil
              obtain ⟨A2, cap2, rfl⟩ := slice_of hown'
              have hown2 : w2.ownsRow w.heap.size 27 2 (.slice A2 (r + 1) cap2) (r + 1) (pk (turnsN n ⟨#[]⟩ (r + 1))) := by rw [HR.out, pk_snoc]; exact hown'
              have hbl2 : Below w.heap.size w w2 := Below.grown (hbl.alloc hszb _) hgrow (by simp; omega) (fun j hj => (hown.lt j hj).1)
              clear hown' hgrow hown hnil
              go_wp2_with fail
              go_roundw
              case rel => exact ⟨i + 1, r + 1, A2, cap2, by go_num, by omega, by omega, Lib.hid (by have := HI.out; omega), by rw [HU.out], rfl, hown2, hbl2⟩
              case measure => simp [intOf]; omega
            · have hrm2 : r = m := by omega
              subst hrm2
              go_wp2_with fail
              go_roundw
              case rel => exact ⟨kk + 1, r, A, cap, by go_num, by omega, by omega, Lib.hid (Or.inr rfl), rfl, hown, hbl⟩
              case measure => simp [intOf]; omega
          · have hi2 : i = n := by omega
            subst hi2
            have HF : Hid (r = (kk + 1) * i ∨ r = m) := Lib.hid (Or.inl (by have := HI.out; rw [Nat.add_mul]; omega))
            go_wp2_with fail
            go_roundw
            case rel => exact ⟨kk + 1, r, A, cap, by go_num, by omega, by omega, HF, rfl, hown, hbl⟩
            case measure => simp [intOf]; omega
      · have hin : kk % s.size < s.size := Nat.mod_lt _ (by omega)
        have HB0 := Lib.hid (ord_at s kk (by omega) hin)
        have h255 : (s[kk % s.size]'hin).toNat ≤ 255 := by have := UInt8.toNat_lt (s[kk % s.size]'hin); omega
        have hsz : 0 < s.size := by omega
        have hsz2 : decide (0 < (s.size : Int)) = true := by simp; omega
        have hix0 : 0 ≤ (kk : Int) % s.size := Int.emod_nonneg _ (by omega)
        have hix1 : (kk : Int) % s.size < s.size := Int.emod_lt_of_pos _ (by omega)
        clear hb0
        go_upto_region 10 with fail
        generalize (s[kk % s.size]'hin).toNat = c at *
        clear hsz hsz2 hix0 hix1 hs0
        have HB : Hid (ordB s kk = (c : Int)) := HB0
        have hmn0 : 0 ≤ (c : Int) % (n : Int) := Int.emod_nonneg _ (by omega)
        have hmn1 : (c : Int) % (n : Int) < n := Int.emod_lt_of_pos _ (by omega)
        go_wp2_with fail
        go_loopw [9, 12, 13] (fun l x i wr => ∃ i0 r : Nat, ∃ A cap, i = .int .i64 i0 ∧ i0 ≤ n ∧ r ≤ m ∧ Hid (r = kk * n + i0) ∧ x = .int .i64 (turnW n (c : Int) i0) ∧ l = .slice A r cap ∧ wr.ownsRow w.heap.size 27 2 (.slice A r cap) r (pk (turnsN n s r)) ∧ Below w.heap.size w wr) (fun _ _ i _ => n - (intOf i).toNat)
        case atStart => exact ⟨0, q, A, cap, rfl, Nat.zero_le _, hqm, Lib.hid (by have := hq.out; omega), by rw [turnW_zero]; try rfl, rfl, hown, hbl⟩
        case round =>
          clear hown hbl
          obtain ⟨i, r, A, cap, rfl, hin', hrm, HI, rfl, rfl, hown, hbl⟩ := hrel
          have hszb := hbl.size
          have hrm' : (r : Int) ≤ 1048576 := by omega
          by_cases hi1 : i < n
          · by_cases hr1 : r < m
            · have htw := turnW_in n (by omega) ((c : Int)) i
              have HR : Hid (turnsN n s (r + 1) = turnsN n s r ++ [(turnW n ((c : Int)) i, (c : Int) % n)]) := Lib.hid (by
                have h1 := HI.out
                have h2 : r / n = kk := by rw [h1, Nat.mul_comm, Nat.mul_add_div (by omega), Nat.div_eq_of_lt hi1, Nat.add_zero]
                have h3 : r % n = i := by rw [h1, Nat.mul_comm, Nat.mul_add_mod, Nat.mod_eq_of_lt hi1]
                simp only [turnsN]
                rw [h2, h3, HB.out])
              by_cases h128 : ((c : Int)) < 128
              · have hd : decide (((c : Int)) < 128) = true := decide_eq_true h128
                have HU := Lib.hid (turnW_up n ((c : Int)) i (by omega))
                generalize turnW n ((c : Int)) i = x at *
                have hx0 := htw.1
                have hx1 := htw.2
                clear htw
                go_wp2_with (at_builtin; refine wpList_append_own _ rfl _ _ 24 rfl w.heap.size 27 i0 (.agg #[.int .i64 0, .int .i64 0]) 2 16 Try.underlying24 hi hz0 hz1 hz2 rfl (by decide) _ _ _ rfl (hown.alloc _) ⟨wr.heap.size, 0, none⟩ 1 1 [.int .i64 x, .int .i64 ((c : Int) % n)] rfl rfl (news2 _ _ _ _) (by simp [Value.oneCell']) (by unfold maxLen; omega) (by omega) (by simp; omega) ?_)
                intro v' w2 hown' hgrow hnil
                obtain ⟨A2, cap2, rfl⟩ := slice_of hown'
                have hown2 : w2.ownsRow w.heap.size 27 2 (.slice A2 (r + 1) cap2) (r + 1) (pk (turnsN n s (r + 1))) := by rw [HR.out, pk_snoc]; exact hown'
                have hbl2 : Below w.heap.size w w2 := Below.grown (hbl.alloc hszb _) hgrow (by simp; omega) (fun j hj => (hown.lt j hj).1)
                clear hown' hgrow hown hnil
                go_wp2_with fail
                go_roundw
                case rel => exact ⟨i + 1, r + 1, A2, cap2, by go_num, by omega, by omega, Lib.hid (by have := HI.out; omega), by rw [HU.out], rfl, hown2, hbl2⟩
                case measure => simp [intOf]; omega
              · have hd : decide (((c : Int)) < 128) = false := decide_eq_false h128
                have h128' : 128 ≤ ((c : Int)) := by omega
                have HU := Lib.hid (turnW_down n ((c : Int)) i (by omega))
                generalize turnW n ((c : Int)) i = x at *
                have hx0 := htw.1
                have hx1 := htw.2
                clear htw
                go_wp2_with (at_builtin; refine wpList_append_own _ rfl _ _ 24 rfl w.heap.size 27 i0 (.agg #[.int .i64 0, .int .i64 0]) 2 16 Try.underlying24 hi hz0 hz1 hz2 rfl (by decide) _ _ _ rfl (hown.alloc _) ⟨wr.heap.size, 0, none⟩ 1 1 [.int .i64 x, .int .i64 ((c : Int) % n)] rfl rfl (news2 _ _ _ _) (by simp [Value.oneCell']) (by unfold maxLen; omega) (by omega) (by simp; omega) ?_)
                intro v' w2 hown' hgrow hnil
                obtain ⟨A2, cap2, rfl⟩ := slice_of hown'
                have hown2 : w2.ownsRow w.heap.size 27 2 (.slice A2 (r + 1) cap2) (r + 1) (pk (turnsN n s (r + 1))) := by rw [HR.out, pk_snoc]; exact hown'
                have hbl2 : Below w.heap.size w w2 := Below.grown (hbl.alloc hszb _) hgrow (by simp; omega) (fun j hj => (hown.lt j hj).1)
                clear hown' hgrow hown hnil
                go_wp2_with fail
                go_roundw
                case rel => exact ⟨i + 1, r + 1, A2, cap2, by go_num, by omega, by omega, Lib.hid (by have := HI.out; omega), by rw [HU.out], rfl, hown2, hbl2⟩
                case measure => simp [intOf]; omega
            · have hrm2 : r = m := by omega
              subst hrm2
              go_wp2_with fail
              go_roundw
              case rel => exact ⟨kk + 1, r, A, cap, by go_num, by omega, by omega, Lib.hid (Or.inr rfl), rfl, hown, hbl⟩
              case measure => simp [intOf]; omega
          · have hi2 : i = n := by omega
            subst hi2
            have HF : Hid (r = (kk + 1) * i ∨ r = m) := Lib.hid (Or.inl (by have := HI.out; rw [Nat.add_mul]; omega))
            go_wp2_with fail
            go_roundw
            case rel => exact ⟨kk + 1, r, A, cap, by go_num, by omega, by omega, HF, rfl, hown, hbl⟩
            case measure => simp [intOf]; omega
    · have e : q = m := by omega
      subst e
      go_wp2_with fail
      go_ret
      exact ⟨_, rfl, hown, hbl⟩

end Go.Proofs.Ythjncmnemppfhaa.Sd
