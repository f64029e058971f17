/- The walk of sched.Window. -/
import Derived.Test.YthjncmnemppfhaaSdR
namespace Go.Proofs.Ythjncmnemppfhaa.Sd
open Go.RowKit
set_option linter.unusedVariables false
set_option linter.unusedSimpArgs false

def wh (l : List Pk) (t : Int) (k : Nat) : Nat := (whoV (l.getD k (0, 0)).1 t).toNat
def lastN (l : List Pk) (t : Int) : Nat → List Int
  | 0 => List.replicate t.toNat 0
  | k + 1 => (lastN l t k).set (wh l t k) ((k : Int) + 1)
def wideN (l : List Pk) (t : Int) : Nat → Int
  | 0 => 0
  | k + 1 => max (wideN l t k) ((k : Int) - (lastN l t k).getD (wh l t k) 0 + 1)
def wide2 (l : List Pk) (t : Int) : Nat → Int
  | 0 => wideN l t l.length
  | j + 1 => max (wide2 l t j) ((l.length : Int) - (lastN l t l.length).getD j 0 + 1)

theorem lastN_len (l : List Pk) (t : Int) (k : Nat) : (lastN l t k).length = t.toNat := by
  induction k with
  | zero => simp [lastN]
  | succ k ih => simp [lastN, ih]
theorem wh_lt (l : List Pk) (t : Int) (ht : 0 < t) (k : Nat) : (wh l t k : Int) = whoV (l.getD k (0, 0)).1 t ∧ wh l t k < t.toNat := by
  have h1 : 0 ≤ whoV (l.getD k (0, 0)).1 t := by unfold whoV; exact Int.emod_nonneg _ (by omega)
  have h2 : whoV (l.getD k (0, 0)).1 t < t := by unfold whoV; exact Int.emod_lt_of_pos _ ht
  unfold wh
  omega
theorem getD_set (L : List Int) (i j : Nat) (x : Int) : (L.set i x).getD j 0 = if i = j ∧ i < L.length then x else L.getD j 0 := by
  simp only [List.getD, List.getElem?_set]
  by_cases h : i = j
  · subst h
    by_cases h2 : i < L.length
    · simp [h2]
    · simp [h2]
  · simp [h]
theorem lastN_in (l : List Pk) (t : Int) (k : Nat) : ∀ j, 0 ≤ (lastN l t k).getD j 0 ∧ (lastN l t k).getD j 0 ≤ k := by
  induction k with
  | zero =>
    intro j
    simp only [lastN, List.getD, List.getElem?_replicate]
    split <;> simp
  | succ k ih =>
    intro j
    have := ih j
    simp only [lastN]
    rw [getD_set]
    split <;> omega
theorem wideN_in (l : List Pk) (t : Int) (k : Nat) : 0 ≤ wideN l t k ∧ wideN l t k ≤ k + 1 := by
  induction k with
  | zero => simp [wideN]
  | succ k ih =>
    have := lastN_in l t k (wh l t k)
    simp only [wideN]
    omega
theorem wide2_in (l : List Pk) (t : Int) (k : Nat) : 0 ≤ wide2 l t k ∧ wide2 l t k ≤ l.length + 1 := by
  induction k with
  | zero => exact wideN_in l t l.length
  | succ k ih =>
    have := lastN_in l t l.length k
    simp only [wide2]
    omega

theorem infoInt : (Try.prog.info? 3).map (fun i => (i.zero, i.size, i.bytes)) = some (some (.int .i64 0), 1, 8) := by kernel_rfl

set_option maxHeartbeats 1600000 in
theorem window_any (A : Option Addr) (c n : Nat) (wk : Int) (l : List Pk) (w : World) (hn : n = l.length) (hA : RdP w w.heap.size A l) (hl : n ≤ 4194304) (t : Int) (ht : teamV wk = t) :
    Calls Try.prog 11 #[.slice A n c, .int .i64 wk] w fun e w' =>
      ((∃ j, j < t.toNat ∧ (lastN l t n).getD j 0 = 0) ∧ e = .returned (.tuple #[.int .i64 0, .bool false]) ∨ (∀ j, j < t.toNat → (lastN l t n).getD j 0 ≠ 0) ∧ e = .returned (.tuple #[.int .i64 (wide2 l t t.toNat), .bool true])) ∧ Below w.heap.size w w' := by
  have HA := Lib.hid hA
  have Hn := Lib.hid hn
  clear hA hn
  have ht1 : 1 ≤ t := by rw [← ht]; exact (teamV_in wk).1
  have ht2 : t ≤ 64 := by rw [← ht]; exact (teamV_in wk).2
  have HT : Hid (∀ w, Calls Try.prog 20 #[.int .i64 wk] w fun e w' => e = .returned (.int .i64 (t.toNat : Int)) ∧ w = w') := Lib.hid fun w => by rw [show (t.toNat : Int) = t by omega, ← ht]; exact team_any wk w
  obtain ⟨m, hm⟩ : ∃ m, t.toNat = m := ⟨_, rfl⟩
  have hmt : t = (m : Int) := by omega
  subst hmt
  clear ht
  obtain ⟨i0, hi, hz0, hz1, hz2⟩ := info_parts infoInt
  rw [hm] at HT ⊢
  have hm1 : m ≤ 64 := by omega
  go_enter Try.func11, Try.ntmps11
  go_wp2_with (first | (go_at_call 20; refine (HT.out _).mono ?_; rintro e w' ⟨rfl, rfl⟩) | (at_make; refine wpList_make_full _ rfl _ _ 36 rfl w.heap.size 3 i0 (.int .i64 0) 1 Try.underlying36 hi hz0 hz1 _ _ _ _ m rfl rfl rfl rfl (by rw [hz2]; omega) (by unfold maxLen; omega) (Nat.le_refl _) ?_))
  intro w1 hown0 hgrow0
  have hown1 : w1.ownsRow w.heap.size 3 1 (.slice (some ⟨w.heap.size, 0, none⟩) m m) m ((lastN l m 0).map (Value.int .i64)) := by
    have e : (madeCells #[Value.int .i64 0] m).toList = (lastN l m 0).map (Value.int .i64) := by
      simp [lastN, Value.cells, toList_madeCells_one]
    rw [← e]; exact hown0
  have hb1 : Below w.heap.size w w1 := Below.grown (Below.refl _ _) hgrow0 (Nat.le_refl _) (fun j hj => by cases hj)
  clear hown0 hgrow0
  go_wp2_with fail
  go_loopw [8, 20] (fun v i wr => ∃ k : Nat, k ≤ n ∧ i = .int .i64 k ∧ v = .int .i64 (wideN l m k) ∧ wr.ownsRow w.heap.size 3 1 (.slice (some ⟨w.heap.size, 0, none⟩) m m) m ((lastN l m k).map (Value.int .i64)) ∧ Below w.heap.size w wr) (fun _ i _ => n - (intOf i).toNat)
  case atStart => exact ⟨0, Nat.zero_le _, rfl, rfl, hown1, hb1⟩
  case round =>
    clear hown1 hb1
    obtain ⟨k, hk, rfl, rfl, hown, hbl⟩ := hrel
    by_cases hlt : k < n
    · obtain ⟨b, o, rfl, hb, hc⟩ := HA.out (by rw [← Hn.out]; omega)
      have c1 := (hbl.cell (p := ⟨b, o + k * 2, none⟩) hb).trans (hc k (by rw [← Hn.out]; exact hlt)).1
      have c2 := (hbl.cell (p := ⟨b, o + k * 2 + 1, none⟩) hb).trans (hc k (by rw [← Hn.out]; exact hlt)).2
      have hwh := wh_lt l m (by omega) k
      have hwn := wideN_in l m k
      have hln := lastN_in l m k (wh l m k)
      have HWS : Hid (wideN l m (k + 1) = max (wideN l m k) ((k : Int) - (lastN l m k).getD (wh l m k) 0 + 1)) := Lib.hid rfl
      have HLS : Hid (lastN l m (k + 1) = (lastN l m k).set (wh l m k) ((k : Int) + 1)) := Lib.hid rfl
      have HW : Hid (∀ w, Calls Try.prog 21 #[.agg #[.int .i64 (l.getD k (0, 0)).1, .int .i64 (l.getD k (0, 0)).2], .int .i64 (m : Int)] w fun e w' => e = .returned (.int .i64 (wh l m k : Int)) ∧ w.alloc (.cells #[.int .i64 (l.getD k (0, 0)).1, .int .i64 (l.getD k (0, 0)).2] 27) = w') := Lib.hid fun w => by rw [hwh.1]; exact who_any _ _ m w (by omega) (by omega)
      have hjm : wh l m k < m := by omega
      have hcell : wr.cell? ⟨w.heap.size, wh l m k, none⟩ = some (.int .i64 ((lastN l m k).getD (wh l m k) 0)) := by
        rw [hown.cellAt _ (by omega)]
        simp [List.getD, lastN_len, hm, hjm]
      have hfr := hown.frozenAt (wh l m k)
      have s0 : w.heap.size < wr.heap.size := (hown.lt w.heap.size rfl).2
      have HO := Lib.hid hown
      clear hown hc HA hwh
      generalize (lastN l m k).getD (wh l m k) 0 = old at *
      generalize l.getD k (0, 0) = p at *
      obtain ⟨p1, p2⟩ := p
      generalize wh l m k = j at *
      simp only at c1 c2
      have s1 : w.heap.size < wr.heap.size + 1 := by omega
      have hjm' : (j : Int) < (m : Int) := by omega
      have hold0 := hln.1
      have hold1 := hln.2
      have hw0 := hwn.1
      have hw1 := hwn.2
      generalize wideN l m k = wd at *
      by_cases hmx : wd < (k : Int) - old + 1
      · have HX : Hid (wideN l m (k + 1) = (k : Int) - old + 1) := Lib.hid (by rw [HWS.out]; omega)
        clear hln hwn
        go_wp2_with (first | (go_at_call 21; refine (HW.out _).mono ?_; rintro e w' ⟨rfl, rfl⟩))
        go_roundw
        case rel =>
          refine ⟨k + 1, by omega, by go_num, by rw [HX.out], ?_, ?_⟩
          · rw [HLS.out, List.map_set]
            exact ((HO.out.stored j _).1.alloc _).alloc _
          · exact ((hbl.setCell (p := ⟨w.heap.size, j, none⟩) (Nat.le_refl _) _).alloc (by simp; omega) _).alloc (by simp; omega) _
        case measure => simp [intOf]; omega
      · have HX : Hid (wideN l m (k + 1) = wd) := Lib.hid (by rw [HWS.out]; omega)
        clear hln hwn
        go_wp2_with (first | (go_at_call 21; refine (HW.out _).mono ?_; rintro e w' ⟨rfl, rfl⟩))
        go_roundw
        case rel =>
          refine ⟨k + 1, by omega, by go_num, by rw [HX.out], ?_, ?_⟩
          · rw [HLS.out, List.map_set]
            exact ((HO.out.stored j _).1.alloc _).alloc _
          · exact ((hbl.setCell (p := ⟨w.heap.size, j, none⟩) (Nat.le_refl _) _).alloc (by simp; omega) _).alloc (by simp; omega) _
        case measure => simp [intOf]; omega
    · have e : k = n := by omega
      subst e
      go_wp2_with fail
      go_loopw [8, 45] (fun v i wr => ∃ q : Nat, q ≤ m ∧ i = .int .i64 q ∧ v = .int .i64 (wide2 l m q) ∧ (∀ j, j < q → (lastN l m k).getD j 0 ≠ 0) ∧ wr.ownsRow w.heap.size 3 1 (.slice (some ⟨w.heap.size, 0, none⟩) m m) m ((lastN l m k).map (Value.int .i64)) ∧ Below w.heap.size w wr) (fun _ i _ => m - (intOf i).toNat)
      case atStart =>
        refine ⟨0, Nat.zero_le _, rfl, ?_, fun j h => absurd h (Nat.not_lt_zero _), hown, hbl⟩
        have := Hn.out
        simp only [wide2]
        rw [← this]
      case round =>
        clear hown hbl
        obtain ⟨q, hq, rfl, rfl, hall, hown, hbl⟩ := hrel
        by_cases hlt : q < m
        · have hcell : wr.cell? ⟨w.heap.size, q, none⟩ = some (.int .i64 ((lastN l m k).getD q 0)) := by
            rw [hown.cellAt _ (by omega)]
            simp [List.getD, lastN_len, hm, hlt]
          have hln := lastN_in l m k q
          have hwn := wide2_in l m q
          have hlk := Hn.out
          have HWS : Hid (wide2 l m (q + 1) = max (wide2 l m q) ((k : Int) - (lastN l m k).getD q 0 + 1)) := Lib.hid (by simp only [wide2]; rw [← hlk])
          rw [← hlk] at hwn
          have HALL : Hid ((lastN l m k).getD q 0 ≠ 0 → ∀ j, j < q + 1 → (lastN l m k).getD j 0 ≠ 0) := Lib.hid (fun h j hj => if e : j = q then e ▸ h else hall j (by omega))
          have HZ : Hid ((lastN l m k).getD q 0 = 0 → ∃ j, j < m ∧ (lastN l m k).getD j 0 = 0) := Lib.hid (fun h => ⟨q, hlt, h⟩)
          have HO := Lib.hid hown
          clear hown hall hlk
          generalize (lastN l m k).getD q 0 = old at *
          generalize wide2 l m q = wd at *
          have hold0 := hln.1
          have hold1 := hln.2
          have hw0 := hwn.1
          have hw1 := hwn.2
          clear hln hwn
          by_cases hz : old = 0
          · subst hz
            have HZ2 := Lib.hid (HZ.out rfl)
            clear HZ HALL
            go_wp2_with fail
            go_ret2
            exact ⟨Or.inl ⟨HZ2.out, rfl⟩, hbl⟩
          · have HALL := Lib.hid (HALL.out hz)
            clear HZ
            have hz' : 0 < old := by omega
            clear hz
            by_cases hmx : wd < (k : Int) - old + 1
            · have HX : Hid (wide2 l m (q + 1) = (k : Int) - old + 1) := Lib.hid (by rw [HWS.out]; omega)
              go_wp2_with fail
              go_roundw
              case rel => exact ⟨q + 1, by omega, by go_num, by rw [HX.out], fun j hj => HALL.out j hj, HO.out, hbl⟩
              case measure => simp [intOf]; omega
            · have HX : Hid (wide2 l m (q + 1) = wd) := Lib.hid (by rw [HWS.out]; omega)
              go_wp2_with fail
              go_roundw
              case rel => exact ⟨q + 1, by omega, by go_num, by rw [HX.out], fun j hj => HALL.out j hj, HO.out, hbl⟩
              case measure => simp [intOf]; omega
        · have e : q = m := by omega
          subst e
          have HALL := Lib.hid hall
          clear hall
          go_wp2_with fail
          go_ret2
          exact ⟨Or.inr ⟨HALL.out, rfl⟩, hbl⟩

end Go.Proofs.Ythjncmnemppfhaa.Sd
