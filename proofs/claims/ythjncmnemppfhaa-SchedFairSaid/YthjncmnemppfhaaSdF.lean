/- The walks of Count and Fair, and of forebayref36.Count, Holds, Window, and forebaylaw05.Ints. -/
import Derived.Test.YthjncmnemppfhaaSdFP
import Derived.Test.YthjncmnemppfhaaSdRT
namespace Go.Proofs.Ythjncmnemppfhaa.Sd
open Go.RowKit
set_option linter.unusedVariables false
set_option linter.unusedSimpArgs false

/-- a slice that reads as ints -/
def RdZ (w : World) (B0 : Nat) (A : Option Addr) (l : List Int) : Prop :=
  0 < l.length → ∃ b o, A = some ⟨b, o, none⟩ ∧ b < B0 ∧ ∀ j, j < l.length → w.cell? ⟨b, o + j, none⟩ = some (.int .i64 (l.getD j 0))
theorem RdZ.kept {w w' : World} {B0 : Nat} {A : Option Addr} {l : List Int} (h : RdZ w B0 A l) (hb : Below B0 w w') : RdZ w' B0 A l := by
  intro h0
  obtain ⟨b, o, h1, h2, h3⟩ := h h0
  exact ⟨b, o, h1, h2, fun j hj => (hb.cell (p := ⟨b, o + j, none⟩) h2).trans (h3 j hj)⟩
theorem RdZ.up {w : World} {B0 B1 : Nat} {A : Option Addr} {l : List Int} (h : RdZ w B0 A l) (hb : B0 ≤ B1) : RdZ w B1 A l := by
  intro h0
  obtain ⟨b, o, h1, h2, h3⟩ := h h0
  exact ⟨b, o, h1, Nat.lt_of_lt_of_le h2 hb, h3⟩
theorem rz_owned {w : World} {base : Nat} {e : TypeId} {A : Option Addr} {cap : Nat} {l : List Int} {n : Nat} (hown : w.ownsRow base e 1 (.slice A n cap) n (l.map (Value.int .i64))) (hn : n = l.length) : RdZ w w.heap.size A l := by
  subst hn
  intro h0
  rcases hown.2 with ⟨hv, h1⟩ | ⟨g, cap', cur, hv, hb, hgg, rest⟩
  · omega
  · simp only [Value.slice.injEq] at hv
    obtain ⟨rfl, _, rfl⟩ := hv
    refine ⟨g, 0, rfl, (Array.getElem?_eq_some_iff.1 hgg).1, fun j hj => ?_⟩
    have hc := hown.cells (g := g) rfl j (.int .i64 (l.getD j 0)) (by simp [List.getD, hj])
    rw [Addr.add_lit] at hc
    exact hc

set_option maxHeartbeats 1600000 in
theorem count_any (A : Option Addr) (c n : Nat) (wk : Int) (l : List Pk) (w : World) (hn : n = l.length) (hA : RdP w w.heap.size A l) (hl : n ≤ 4194304) (m : Nat) (ht : teamV wk = m) :
    Calls Try.prog 15 #[.slice A n c, .int .i64 wk] w fun e w' => ∃ B, e = .returned (.slice B m m) ∧ RdZ w' w'.heap.size B (cntL l m n) ∧ Below w.heap.size w w' := by
  have HA := Lib.hid hA
  have Hn := Lib.hid hn
  clear hA hn
  have ht1 : 1 ≤ m := by have := (teamV_in wk).1; omega
  have ht2 : m ≤ 64 := by have := (teamV_in wk).2; omega
  have HT : Hid (∀ w, Calls Try.prog 20 #[.int .i64 wk] w fun e w' => e = .returned (.int .i64 (m : Int)) ∧ w = w') := Lib.hid fun w => by rw [← ht]; exact team_any wk w
  clear ht
  obtain ⟨i0, hi, hz0, hz1, hz2⟩ := info_parts infoInt
  go_enter Try.func15, Try.ntmps15
  go_wp2_with (first | (go_at_call 20; refine (HT.out _).mono ?_; rintro e w' ⟨rfl, rfl⟩) | (at_make; refine wpList_make_full _ rfl _ _ 36 rfl w.heap.size 3 i0 (.int .i64 0) 1 Try.underlying36 hi hz0 hz1 _ _ _ _ m rfl rfl rfl rfl (by rw [hz2]; omega) (by unfold maxLen; omega) (Nat.le_refl _) ?_))
  intro w1 hown0 hgrow0
  have hown1 : w1.ownsRow w.heap.size 3 1 (.slice (some ⟨w.heap.size, 0, none⟩) m m) m ((cntL l m 0).map (Value.int .i64)) := by
    have e : (madeCells #[Value.int .i64 0] m).toList = (cntL l m 0).map (Value.int .i64) := by
      simp [cntL_zero, Value.cells, toList_madeCells_one]
    rw [← e]; exact hown0
  have hb1 : Below w.heap.size w w1 := Below.grown (Below.refl _ _) hgrow0 (Nat.le_refl _) (fun j hj => by cases hj)
  clear hown0 hgrow0
  go_wp2_with fail
  go_loopw [15] (fun i wr => ∃ k : Nat, k ≤ n ∧ i = .int .i64 k ∧ wr.ownsRow w.heap.size 3 1 (.slice (some ⟨w.heap.size, 0, none⟩) m m) m ((cntL l m k).map (Value.int .i64)) ∧ Below w.heap.size w wr) (fun i _ => n - (intOf i).toNat)
  case atStart => exact ⟨0, Nat.zero_le _, rfl, hown1, hb1⟩
  case round =>
    clear hown1 hb1
    obtain ⟨k, hk, rfl, hown, hbl⟩ := hrel
    by_cases hlt : k < n
    · obtain ⟨b, o, rfl, hb, hc⟩ := HA.out (by rw [← Hn.out]; omega)
      have c1 := (hbl.cell (p := ⟨b, o + k * 2, none⟩) hb).trans (hc k (by rw [← Hn.out]; exact hlt)).1
      have c2 := (hbl.cell (p := ⟨b, o + k * 2 + 1, none⟩) hb).trans (hc k (by rw [← Hn.out]; exact hlt)).2
      have hwh := wh_lt l m (by omega) k
      have hjm : wh l m k < m := by omega
      have HW : Hid (∀ w, Calls Try.prog 21 #[.agg #[.int .i64 (l.getD k (0, 0)).1, .int .i64 (l.getD k (0, 0)).2], .int .i64 (m : Int)] w fun e w' => e = .returned (.int .i64 (wh l m k : Int)) ∧ w.alloc (.cells #[.int .i64 (l.getD k (0, 0)).1, .int .i64 (l.getD k (0, 0)).2] 27) = w') := Lib.hid fun w => by rw [hwh.1]; exact who_any _ _ m w (by omega) (by omega)
      have HLS := Lib.hid (cntL_succ l m k hjm)
      have hcell : wr.cell? ⟨w.heap.size, wh l m k, none⟩ = some (.int .i64 ((cntL l m k).getD (wh l m k) 0)) := by
        rw [hown.cellAt _ (by omega)]
        simp [List.getD, cntL_len, hjm]
      have hin := cntV_in l m (wh l m k) k
      rw [← cntL_get l m k _ hjm] at hin
      have hfr := hown.frozenAt (wh l m k)
      have s0 : w.heap.size < wr.heap.size := (hown.lt w.heap.size rfl).2
      have HO := Lib.hid hown
      clear hown hc HA hwh
      generalize (cntL l m k).getD (wh l m k) 0 = old at *
      generalize l.getD k (0, 0) = p at *
      obtain ⟨p1, p2⟩ := p
      generalize wh l m k = j at *
      simp only at c1 c2
      have s1 : w.heap.size < wr.heap.size + 1 := by omega
      have hjm' : (j : Int) < (m : Int) := by omega
      have hold0 := hin.1
      have hold1 := hin.2
      clear hin
      go_wp2_with (first | (go_at_call 21; refine (HW.out _).mono ?_; rintro e w' ⟨rfl, rfl⟩))
      go_roundw
      case rel =>
        refine ⟨k + 1, by omega, by go_num, ?_, ?_⟩
        · rw [HLS.out, List.map_set]
          exact ((HO.out.stored j _).1.alloc _).alloc _
        · exact ((hbl.setCell (p := ⟨w.heap.size, j, none⟩) (Nat.le_refl _) _).alloc (by simp; omega) _).alloc (by simp; omega) _
      case measure => simp [intOf]; omega
    · have e : k = n := by omega
      subst e
      go_wp2_with fail
      go_ret
      exact ⟨_, rfl, rz_owned hown (cntL_len l m k).symm, hbl⟩

set_option maxHeartbeats 1600000 in
theorem rcount_any (A : Option Addr) (c n : Nat) (wk : Int) (l : List Pk) (w : World) (hn : n = l.length) (hA : RdP w w.heap.size A l) (hl : n ≤ 4194304) (m : Nat) (ht : teamV wk = m) :
    Calls Try.prog 16 #[.slice A n c, .int .i64 wk] w fun e w' => ∃ B, e = .returned (.slice B m m) ∧ RdZ w' w'.heap.size B (cntL l m n) ∧ Below w.heap.size w w' := by
  have HA := Lib.hid hA
  have Hn := Lib.hid hn
  clear hA hn
  have ht1 : 1 ≤ m := by have := (teamV_in wk).1; omega
  have ht2 : m ≤ 64 := by have := (teamV_in wk).2; omega
  have HT : Hid (∀ w, Calls Try.prog 23 #[.int .i64 wk] w fun e w' => e = .returned (.int .i64 (m : Int)) ∧ w = w') := Lib.hid fun w => by rw [← ht]; exact rteam_any wk w
  clear ht
  obtain ⟨i0, hi, hz0, hz1, hz2⟩ := info_parts infoInt
  go_enter Try.func16, Try.ntmps16
  go_wp2_with (first | (go_at_call 23; refine (HT.out _).mono ?_; rintro e w' ⟨rfl, rfl⟩) | (at_make; refine wpList_make_full _ rfl _ _ 36 rfl w.heap.size 3 i0 (.int .i64 0) 1 Try.underlying36 hi hz0 hz1 _ _ _ _ m rfl rfl rfl rfl (by rw [hz2]; omega) (by unfold maxLen; omega) (Nat.le_refl _) ?_))
  intro w1 hown0 hgrow0
  have hown1 : w1.ownsRow w.heap.size 3 1 (.slice (some ⟨w.heap.size, 0, none⟩) m m) m ((cntR l m n 0 0).map (Value.int .i64)) := by
    have e : (madeCells #[Value.int .i64 0] m).toList = (cntR l m n 0 0).map (Value.int .i64) := by
      simp [cntR_zero, Value.cells, toList_madeCells_one]
    rw [← e]; exact hown0
  have hb1 : Below w.heap.size w w1 := Below.grown (Below.refl _ _) hgrow0 (Nat.le_refl _) (fun j hj => by cases hj)
  clear hown0 hgrow0
  go_wp2_with fail
  go_loopw [7, 8] (fun v _ wr => ∃ q : Nat, q ≤ m ∧ v = .int .i64 q ∧ wr.ownsRow w.heap.size 3 1 (.slice (some ⟨w.heap.size, 0, none⟩) m m) m ((cntR l m n q 0).map (Value.int .i64)) ∧ Below w.heap.size w wr) (fun v _ _ => m - (intOf v).toNat)
  case atStart => exact ⟨0, Nat.zero_le _, rfl, hown1, hb1⟩
  case round =>
    clear hown1 hb1
    obtain ⟨q, hq, rfl, hown, hbl⟩ := hrel
    by_cases hqm : q < m
    · go_wp2_with fail
      go_loopw [8] (fun i wr => ∃ k : Nat, k ≤ n ∧ i = .int .i64 k ∧ wr.ownsRow w.heap.size 3 1 (.slice (some ⟨w.heap.size, 0, none⟩) m m) m ((cntR l m n q k).map (Value.int .i64)) ∧ Below w.heap.size w wr) (fun i _ => n - (intOf i).toNat)
      case atStart => exact ⟨0, Nat.zero_le _, rfl, hown, hbl⟩
      case round =>
        clear hown hbl
        obtain ⟨k, hk, rfl, hown, hbl⟩ := hrel
        by_cases hlt : k < n
        · obtain ⟨b, o, rfl, hb, hc⟩ := HA.out (by rw [← Hn.out]; omega)
          have c1 := (hbl.cell (p := ⟨b, o + k * 2, none⟩) hb).trans (hc k (by rw [← Hn.out]; exact hlt)).1
          have hwh := wh_lt l m (by omega) k
          have hcell : wr.cell? ⟨w.heap.size, q, none⟩ = some (.int .i64 ((cntR l m n q k).getD q 0)) := by
            rw [hown.cellAt _ (by omega)]
            simp [List.getD, cntR_len, hqm]
          have hin := cntV_in l m q k
          rw [← cntR_get l m n q k hqm] at hin
          have hfr := hown.frozenAt q
          have HH := Lib.hid (cntR_hit l m n q k hqm)
          have HM := Lib.hid (cntR_miss l m n q k)
          have HO := Lib.hid hown
          obtain ⟨x, hx⟩ : ∃ x, (if (l.getD k (0, 0)).1 < 0 then 0 else (l.getD k (0, 0)).1) = x := ⟨_, rfl⟩
          have hxv : (wh l m k : Int) = x % m := by rw [hwh.1, ← hx]; rfl
          have hx0 : 0 ≤ x := by rw [← hx]; split <;> omega
          have HX := Lib.hid hxv
          clear hown hc HA hwh hxv
          generalize (cntR l m n q k).getD q 0 = old at *
          generalize l.getD k (0, 0) = p at *
          obtain ⟨p1, p2⟩ := p
          simp only at c1 hx
          have hold0 := hin.1
          have hold1 := hin.2
          clear hin
          have hxm0 : 0 ≤ x % (m : Int) := Int.emod_nonneg _ (by omega)
          have hxm1 : x % (m : Int) < m := Int.emod_lt_of_pos _ (by omega)
          by_cases hhit : x % (m : Int) = q
          · have hd : decide (x % (m : Int) = q) = true := decide_eq_true hhit
            have HH2 := Lib.hid (HH.out (by have := HX.out; omega))
            have HHIT := Lib.hid hhit
            have hd2 : (x % (m : Int) == (q : Int)) = true := by rw [hhit]; simp
            clear hhit
            go_wp2_with fail
            go_roundw
            case rel =>
              refine ⟨k + 1, by omega, by go_num, ?_, hbl.setCell (p := ⟨w.heap.size, q, none⟩) (Nat.le_refl _) _⟩
              rw [HH2.out, List.map_set]
              exact (HO.out.stored q _).1
            case measure => simp [intOf]; omega
          · have hd : decide (x % (m : Int) = q) = false := decide_eq_false hhit
            have HM2 := Lib.hid (HM.out (by have := HX.out; omega))
            have hd2 : (x % (m : Int) == (q : Int)) = false := by simp [hhit]
            go_wp2_with fail
            go_roundw
            case rel => exact ⟨k + 1, by omega, by go_num, by rw [HM2.out]; exact HO.out, hbl⟩
            case measure => simp [intOf]; omega
        · have e : k = n := by omega
          subst e
          have HN := Lib.hid (cntR_next l m k q)
          go_wp2_with fail
          go_roundw
          case rel => exact ⟨q + 1, by omega, by go_num, by rw [← HN.out]; exact hown, hbl⟩
          case measure => simp [intOf]; omega
    · have e : q = m := by omega
      subst e
      have HN := Lib.hid (cntR_all l q n)
      have HR := Lib.hid (rz_owned (l := cntR l q n q 0) hown (cntR_len _ _ _ _ _).symm)
      clear hown
      go_wp2_with fail
      go_ret
      exact ⟨_, rfl, by rw [← HN.out]; exact HR.out, hbl⟩

end Go.Proofs.Ythjncmnemppfhaa.Sd
