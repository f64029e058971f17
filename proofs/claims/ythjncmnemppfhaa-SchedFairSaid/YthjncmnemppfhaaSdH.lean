/- The walks of Fair, forebayref36.Holds, Window, and forebaylaw05.Ints. -/
import Derived.Test.YthjncmnemppfhaaSdF
namespace Go.Proofs.Ythjncmnemppfhaa.Sd
open Go.RowKit
set_option linter.unusedVariables false
set_option linter.unusedSimpArgs false

def okAt (l : List Pk) (m : Nat) (W : Int) (i v : Nat) : Prop := ∃ k : Nat, i ≤ k ∧ (k : Int) < i + W ∧ wh l m k = v
def HoldsPost (l : List Pk) (m : Nat) (W : Int) (w : World) (e : Ending) (w' : World) : Prop := ∃ bb : Bool, e = .returned (.bool bb) ∧ (bb = true ↔ holdsP l m W) ∧ w = w'
theorem holds_yes {l : List Pk} {m : Nat} {W : Int} {i : Nat} (h : ∀ j, j < i → ∀ v, v < m → okAt l m W j v) (hi : ¬ (i : Int) + W ≤ l.length) : holdsP l m W := by
  intro j hj v hv
  exact h j (by omega) v (by simpa using hv)
theorem holds_no {l : List Pk} {m : Nat} {W : Int} {i v : Nat} (hi : (i : Int) + W ≤ l.length) (hv : v < m) (h : ¬ okAt l m W i v) : ¬ holdsP l m W := fun c => h (c i hi v (by simpa using hv))

set_option maxHeartbeats 1600000 in
theorem holds_any (A : Option Addr) (c n : Nat) (wk W : Int) (l : List Pk) (w : World) (hn : n = l.length) (hA : RdP w w.heap.size A l) (hl : n ≤ 4194304) (m : Nat) (ht : teamV wk = m) (hW1 : 1 ≤ W) (hW2 : W ≤ 5000000) :
    Calls Try.prog 22 #[.slice A n c, .int .i64 wk, .int .i64 W] w (HoldsPost l m W w) := by
  have HA := Lib.hid hA
  have Hn := Lib.hid hn
  clear hA hn
  have ht1 : 1 ≤ m := by have := (teamV_in wk).1; omega
  have ht2 : m ≤ 64 := by have := (teamV_in wk).2; omega
  have HT : Hid (∀ w, Calls Try.prog 23 #[.int .i64 wk] w fun e w' => e = .returned (.int .i64 (m : Int)) ∧ w = w') := Lib.hid fun w => by rw [← ht]; exact rteam_any wk w
  clear ht
  go_enter Try.func22, Try.ntmps22
  go_wp2_with (first | (go_at_call 23; refine (HT.out _).mono ?_; rintro e w' ⟨rfl, rfl⟩))
  go_loop [8, 9, 10, 11] (fun i _ _ _ => ∃ i0 : Nat, i = .int .i64 i0 ∧ i0 ≤ n ∧ Hid (∀ j, j < i0 → ∀ v, v < m → okAt l m W j v)) (fun i _ _ _ => n + 1 - (intOf i).toNat)
  case atStart => exact ⟨0, rfl, Nat.zero_le _, Lib.hid (fun j h => absurd h (Nat.not_lt_zero _))⟩
  case round =>
    obtain ⟨i, rfl, hin, HI⟩ := hrel
    by_cases hi : (i : Int) + W ≤ n
    · have hin' : i < n := by omega
      go_wp2_with fail
      go_loop [9, 10, 11] (fun v _ _ => ∃ v0 : Nat, v = .int .i64 v0 ∧ v0 ≤ m ∧ Hid (∀ q, q < v0 → okAt l m W i q)) (fun v _ _ => m - (intOf v).toNat)
      case atStart => exact ⟨0, rfl, Nat.zero_le _, Lib.hid (fun j h => absurd h (Nat.not_lt_zero _))⟩
      case round =>
        obtain ⟨v, rfl, hvm, HV⟩ := hrel
        by_cases hv : v < m
        · go_wp2_with fail
          go_loop [10, 11] (fun f k => ∃ f0 : Bool, ∃ k0 : Nat, f = .bool f0 ∧ k = .int .i64 k0 ∧ i ≤ k0 ∧ (k0 : Int) ≤ i + W ∧ Hid (f0 = true ↔ ∃ q : Nat, i ≤ q ∧ q < k0 ∧ wh l m q = v)) (fun _ k => ((i : Int) + W - intOf k).toNat)
          case atStart => exact ⟨false, i, rfl, rfl, Nat.le_refl _, by omega, Lib.hid ⟨fun h => by simp at h, fun ⟨q, a, b, _⟩ => by omega⟩⟩
          case round =>
            obtain ⟨f, k, rfl, rfl, hik, hkW, HF⟩ := hrel
            by_cases hk : (k : Int) < i + W
            · have hkn : k < n := by omega
              cases f with
              | true =>
                have HF2 : Hid (true = true ↔ ∃ q : Nat, i ≤ q ∧ q < k + 1 ∧ wh l m q = v) := Lib.hid ⟨fun _ => by obtain ⟨q, a, b, c⟩ := HF.out.1 rfl; exact ⟨q, a, by omega, c⟩, fun _ => rfl⟩
                go_wp2_with fail
                go_round
                case rel => exact ⟨true, k + 1, rfl, by go_num, by omega, by omega, HF2⟩
                case measure => simp [intOf]; omega
              | false =>
                obtain ⟨b, o, rfl, hb, hc⟩ := HA.out (by rw [← Hn.out]; omega)
                have c1 := (hc k (by rw [← Hn.out]; exact hkn)).1
                have hwh := wh_lt l m (by omega) k
                obtain ⟨x, hx⟩ : ∃ x, (if (l.getD k (0, 0)).1 < 0 then 0 else (l.getD k (0, 0)).1) = x := ⟨_, rfl⟩
                have HX := Lib.hid (show (wh l m k : Int) = x % m by rw [hwh.1, ← hx]; rfl)
                have hx0 : 0 ≤ x := by rw [← hx]; split <;> omega
                have HF2 : Hid (decide (x % (m : Int) = v) = true ↔ ∃ q : Nat, i ≤ q ∧ q < k + 1 ∧ wh l m q = v) := Lib.hid (by
                  rw [decide_eq_true_iff]
                  constructor
                  · intro h; exact ⟨k, hik, by omega, by have := HX.out; omega⟩
                  · intro ⟨q, a, b, c⟩
                    by_cases e : q = k
                    · subst e; have := HX.out; omega
                    · have := HF.out.2 ⟨q, a, by omega, c⟩; simp at this)
                clear hc HA hwh
                generalize l.getD k (0, 0) = p at *
                obtain ⟨p1, p2⟩ := p
                simp only at c1 hx
                have hxm0 : 0 ≤ x % (m : Int) := Int.emod_nonneg _ (by omega)
                have hxm1 : x % (m : Int) < m := Int.emod_lt_of_pos _ (by omega)
                by_cases hhit : x % (m : Int) = v
                · have hd : decide (x % (m : Int) = v) = true := decide_eq_true hhit
                  have HF3 : Hid (true = true ↔ ∃ q : Nat, i ≤ q ∧ q < k + 1 ∧ wh l m q = v) := Lib.hid (by have := HF2.out; rwa [hd] at this)
                  have hd2 : (x % (m : Int) == (v : Int)) = true := by rw [hhit]; simp
                  clear hhit
                  go_wp2_with fail
                  go_round
                  case rel => exact ⟨true, k + 1, rfl, by go_num, by omega, by omega, HF3⟩
                  case measure => simp [intOf]; omega
                · have hd : decide (x % (m : Int) = v) = false := decide_eq_false hhit
                  have HF3 : Hid (false = true ↔ ∃ q : Nat, i ≤ q ∧ q < k + 1 ∧ wh l m q = v) := Lib.hid (by have := HF2.out; rwa [hd] at this)
                  have hd2 : (x % (m : Int) == (v : Int)) = false := by simp [hhit]
                  go_wp2_with fail
                  go_round
                  case rel => exact ⟨false, k + 1, rfl, by go_num, by omega, by omega, HF3⟩
                  case measure => simp [intOf]; omega
            · have hkk : Hid ((k : Int) = i + W) := Lib.hid (by omega)
              cases f with
              | true =>
                have HV2 : Hid (∀ q, q < v + 1 → okAt l m W i q) := Lib.hid (fun q hq => by
                  by_cases e : q = v
                  · subst e
                    obtain ⟨q', a, b, c⟩ := HF.out.1 rfl
                    exact ⟨q', a, by have := hkk.out; omega, c⟩
                  · exact HV.out q (by omega))
                go_wp2_with fail
                go_round
                case rel => exact ⟨v + 1, by go_num, by omega, HV2⟩
                case measure => simp [intOf]; omega
              | false =>
                have HNO : Hid (¬ holdsP l m W) := Lib.hid (holds_no (i := i) (v := v) (by rw [← Hn.out]; exact hi) hv (show ¬ okAt l m W i v from fun ⟨q, a, b, c⟩ => by
                  have := HF.out.2 ⟨q, a, by have := hkk.out; omega, c⟩; simp at this))
                go_wp2_with fail
                go_ret
                exact ⟨false, rfl, ⟨fun h => by simp at h, fun h => absurd h HNO.out⟩, rfl⟩
        · have e : v = m := by omega
          subst e
          have HI2 : Hid (∀ j, j < i + 1 → ∀ q, q < v → okAt l v W j q) := Lib.hid (fun j hj q hq => by
            by_cases e : j = i
            · subst e; exact HV.out q hq
            · exact HI.out j (by omega) q hq)
          go_wp2_with fail
          go_round
          case rel => exact ⟨i + 1, by go_num, by omega, HI2⟩
          case measure => simp [intOf]; omega
    · have HY : Hid (holdsP l m W) := Lib.hid (holds_yes HI.out (by rw [← Hn.out]; exact hi))
      go_wp2_with fail
      go_ret
      exact ⟨true, rfl, ⟨fun _ => HY.out, fun _ => rfl⟩, rfl⟩

theorem fair_no (A : Option Addr) (c n : Nat) (wk W : Int) (l : List Pk) (w : World) (hn : n = l.length) (hA : RdP w w.heap.size A l) (hl : n ≤ 4194304) (m : Nat) (ht : teamV wk = m) (hz : ∃ j, j < m ∧ lastV l m j n = 0) :
    Calls Try.prog 13 #[.slice A n c, .int .i64 wk, .int .i64 W] w fun e w' => e = .returned (.bool false) ∧ Below w.heap.size w w' := by
  have HW := Lib.hid (window_any A c n wk l w hn hA hl m ht)
  have HZ := Lib.hid hz
  clear hn hA ht hz
  go_enter Try.func13, Try.ntmps13
  go_wp2_with fail
  refine HW.out.mono ?_
  rintro e w1 ⟨⟨_, rfl⟩ | ⟨h, rfl⟩, hb1⟩
  · go_wp2_with fail
    go_ret
    exact ⟨rfl, hb1⟩
  · obtain ⟨j, h1, h2⟩ := HZ.out
    exact absurd h2 (h j (by simpa using h1))

theorem fair_yes (A : Option Addr) (c n : Nat) (wk W : Int) (l : List Pk) (w : World) (hn : n = l.length) (hA : RdP w w.heap.size A l) (hl : n ≤ 4194304) (m : Nat) (ht : teamV wk = m) (hz : ∀ j, j < m → lastV l m j n ≠ 0) :
    Calls Try.prog 13 #[.slice A n c, .int .i64 wk, .int .i64 W] w fun e w' => e = .returned (.bool (decide (wide2 l m m ≤ W))) ∧ Below w.heap.size w w' := by
  have HW := Lib.hid (window_any A c n wk l w hn hA hl m ht)
  have HZ := Lib.hid hz
  clear hn hA ht hz
  go_enter Try.func13, Try.ntmps13
  go_wp2_with fail
  refine HW.out.mono ?_
  rintro e w1 ⟨⟨⟨j, h1, h2⟩, rfl⟩ | ⟨_, rfl⟩, hb1⟩
  · exact absurd h2 (HZ.out j (by simpa using h1))
  · rw [show Int.toNat (m : Int) = m from by simp]
    go_wp2_with fail
    go_ret
    exact ⟨rfl, hb1⟩

/-- the window of the reference: none -/
theorem rwindow_no (A : Option Addr) (c n : Nat) (wk : Int) (l : List Pk) (w : World) (hn : n = l.length) (hA : RdP w w.heap.size A l) (hl : n ≤ 4194304) (m : Nat) (ht : teamV wk = m) (hz : ∃ j, j < m ∧ cntV l m j n = 0) :
    Calls Try.prog 12 #[.slice A n c, .int .i64 wk] w fun e w' => e = .returned (.tuple #[.int .i64 0, .bool false]) ∧ Below w.heap.size w w' := by
  have HC := Lib.hid (rcount_any A c n wk l w hn hA hl m ht)
  have HZ := Lib.hid hz
  have ht1 : 1 ≤ m := by have := (teamV_in wk).1; omega
  have ht2 : m ≤ 64 := by have := (teamV_in wk).2; omega
  clear hn hA ht hz
  go_enter Try.func12, Try.ntmps12
  go_wp2_with fail
  refine HC.out.mono ?_
  rintro e w1 ⟨B, rfl, hrz, hb1⟩
  have HRZ := Lib.hid hrz
  clear hrz HC
  go_wp2_with fail
  go_loop [7] (fun i => ∃ k : Nat, i = .int .i64 k ∧ k ≤ m ∧ Hid (∀ j, j < k → cntV l m j n ≠ 0)) (fun i => m - (intOf i).toNat)
  case atStart => exact ⟨0, rfl, Nat.zero_le _, Lib.hid (fun j h => absurd h (Nat.not_lt_zero _))⟩
  case round =>
    obtain ⟨k, rfl, hkm, HK⟩ := hrel
    by_cases hlt : k < m
    · obtain ⟨b, o, rfl, hb, hc⟩ := HRZ.out (by rw [cntL_len]; omega)
      have c1 := hc k (by rw [cntL_len]; exact hlt)
      rw [cntL_get _ _ _ _ hlt] at c1
      have HK2 : Hid (cntV l m k n ≠ 0 → ∀ j, j < k + 1 → cntV l m j n ≠ 0) := Lib.hid (fun h j hj => if e : j = k then e ▸ h else HK.out j (by omega))
      clear hc HRZ
      generalize cntV l m k n = x at *
      by_cases h0 : x = 0
      · subst h0
        go_wp2_with fail
        go_ret2
        exact ⟨rfl, hb1⟩
      · have hd : (x == 0) = false := by simp [h0]
        have HK3 := Lib.hid (HK2.out h0)
        clear h0 HK2
        go_wp2_with fail
        go_round
        case rel => exact ⟨k + 1, by go_num, by omega, HK3⟩
        case measure => simp [intOf]; omega
    · obtain ⟨j, h1, h2⟩ := HZ.out
      exact absurd h2 (HK.out j (by omega))

/-- .. one -/
theorem rwindow_yes (A : Option Addr) (c n : Nat) (wk : Int) (l : List Pk) (w : World) (hn : n = l.length) (hA : RdP w w.heap.size A l) (hl : n ≤ 4194304) (m : Nat) (ht : teamV wk = m) (hz : ∀ j, j < m → cntV l m j n ≠ 0) :
    Calls Try.prog 12 #[.slice A n c, .int .i64 wk] w fun e w' => e = .returned (.tuple #[.int .i64 (wide2 l m m), .bool true]) ∧ Below w.heap.size w w' := by
  have ht1 : 1 ≤ m := by have := (teamV_in wk).1; omega
  have ht2 : m ≤ 64 := by have := (teamV_in wk).2; omega
  have HC := Lib.hid (rcount_any A c n wk l w hn hA hl m ht)
  have HZ := Lib.hid hz
  have hiff := holds_iff l m (by omega)
  have hwp := wide_pos l m (by omega)
  have hwi := (wide2_in l m m).2
  rw [← hn] at hwi
  rw [show Int.toNat (m : Int) = m from by simp] at hiff hwp
  have HI := Lib.hid hiff
  have HH := Lib.hid (fun W (w' : World) (h : RdP w' w'.heap.size A l) (h1 : 1 ≤ W) (h2 : W ≤ 5000000) => holds_any A c n wk W l w' hn h hl m ht h1 h2)
  have HA := Lib.hid hA
  obtain ⟨D, hD⟩ : ∃ D, wide2 l m m = D := ⟨_, rfl⟩
  rw [hD] at HI hwp hwi ⊢
  clear hn hA ht hz hiff hD
  go_enter Try.func12, Try.ntmps12
  go_wp2_with fail
  refine HC.out.mono ?_
  rintro e w1 ⟨B, rfl, hrz, hb1⟩
  have HRZ := Lib.hid hrz
  have HA1 := Lib.hid ((HA.out.kept hb1).up hb1.size)
  clear hrz HC HA
  go_wp2_with fail
  go_loop [7] (fun i => ∃ k : Nat, i = .int .i64 k ∧ k ≤ m) (fun i => m - (intOf i).toNat)
  case atStart => exact ⟨0, rfl, Nat.zero_le _⟩
  case round =>
    obtain ⟨k, rfl, hkm⟩ := hrel
    by_cases hlt : k < m
    · obtain ⟨b, o, rfl, hb, hc⟩ := HRZ.out (by rw [cntL_len]; omega)
      have c1 := hc k (by rw [cntL_len]; exact hlt)
      rw [cntL_get _ _ _ _ hlt] at c1
      have h0 := HZ.out k hlt
      clear hc HRZ
      generalize cntV l m k n = x at *
      have hd : (x == 0) = false := by simp [h0]
      clear h0
      go_wp2_with fail
      go_round
      case rel => exact ⟨k + 1, by go_num, by omega⟩
      case measure => simp [intOf]; omega
    · have e : k = m := by omega
      subst e
      go_wp2_with fail
      go_loop [8] (fun v => ∃ x : Int, v = .int .i64 x ∧ 1 ≤ x ∧ x ≤ D) (fun v => (D - intOf v).toNat)
      case atStart => exact ⟨1, rfl, Int.le_refl _, hwp⟩
      case round =>
        obtain ⟨x, rfl, hx1, hxD⟩ := hrel
        have HX := Lib.hid (HH.out x w1 HA1.out hx1 (by omega))
        have HXI := Lib.hid (HI.out x hx1)
        go_wp2_with fail
        refine HX.out.mono ?_
        rintro e w2 ⟨bb, rfl, hbb, rfl⟩
        cases bb with
        | true =>
          have hge : D ≤ x := HXI.out.1 (hbb.1 rfl)
          obtain rfl : x = D := by omega
          clear hbb hge
          go_wp2_with fail
          go_ret2
          exact ⟨rfl, hb1⟩
        | false =>
          have hlt2 : x < D := by
            refine Classical.byContradiction fun h => ?_
            have := hbb.2 (HXI.out.2 (by omega))
            simp at this
          clear hbb
          go_wp2_with fail
          go_round
          case rel => exact ⟨x + 1, rfl, by omega, by omega⟩
          case measure => simp [intOf]; omega

set_option maxHeartbeats 800000 in
theorem ints_any (A B : Option Addr) (ca cb na nb : Nat) (a b : List Int) (w : World) (hna : na = a.length) (hnb : nb = b.length) (hA : RdZ w w.heap.size A a) (hB : RdZ w w.heap.size B b) (hl : na ≤ 4194304) (hl2 : nb ≤ 4194304) (hab : a = b) :
    Calls Try.prog 14 #[.slice A na ca, .slice B nb cb] w fun e w' => e = .returned (.bool true) ∧ Below w.heap.size w w' := by
  subst hab
  obtain rfl : na = nb := by omega
  have HA := Lib.hid hA
  have HB := Lib.hid hB
  have Hna := Lib.hid hna
  clear hA hB hl2 hna hnb
  go_enter Try.func14, Try.ntmps14
  go_wp2_with fail
  go_loopw [5] (fun i wr => ∃ k : Nat, k ≤ na ∧ i = .int .i64 k ∧ Below w.heap.size w wr) (fun i _ => na - (intOf i).toNat)
  case atStart => exact ⟨0, Nat.zero_le _, rfl, Below.refl _ _⟩
  case round =>
    obtain ⟨k, hk, rfl, hbl⟩ := hrel
    by_cases hlt : k < na
    · obtain ⟨ba, oa, rfl, hba, hca⟩ := HA.out (by rw [← Hna.out]; omega)
      obtain ⟨bb, ob, rfl, hbb, hcb⟩ := HB.out (by rw [← Hna.out]; omega)
      have c1 := (hbl.cell (p := ⟨ba, oa + k, none⟩) hba).trans (hca k (by rw [← Hna.out]; exact hlt))
      have c2 := (hbl.cell (p := ⟨bb, ob + k, none⟩) hbb).trans (hcb k (by rw [← Hna.out]; exact hlt))
      clear hca hcb HA HB
      generalize a.getD k 0 = p at *
      go_wp2_with fail
      go_quiet (fail)
      go_wp2_with fail
      go_roundw
      case rel => exact ⟨k + 1, by omega, by go_num, below_drewN hbl _⟩
      case measure => simp [intOf]; omega
    · have e : k = na := by omega
      subst e
      go_wp2_with fail
      go_ret
      exact ⟨rfl, hbl⟩

end Go.Proofs.Ythjncmnemppfhaa.Sd
