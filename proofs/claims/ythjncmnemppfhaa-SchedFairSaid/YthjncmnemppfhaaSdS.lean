/- The walk of forebayref36.Same. -/
import Derived.Test.YthjncmnemppfhaaSdP
namespace Go.Proofs.Ythjncmnemppfhaa.Sd
open Go.RowKit
set_option linter.unusedVariables false
set_option linter.unusedSimpArgs false

set_option maxHeartbeats 800000 in
theorem same_any (A B : Option Addr) (ca cb na nb : Nat) (a b : List Pk) (w : World) (hna : na = a.length) (hnb : nb = b.length) (hA : RdP w w.heap.size A a) (hB : RdP w w.heap.size B b) (hl : na ≤ 4194304) (hl2 : nb ≤ 4194304) :
    Calls Try.prog 8 #[.slice A na ca, .slice B nb cb] w fun e w' => e = .returned (.bool (decide (a = b))) ∧ Below w.heap.size w w' := by
  by_cases hlen : na = nb
  · have HE := Lib.hid (fun h => @eq_of_getD a b (by omega) h)
    have HN := Lib.hid (fun k h => @ne_of_getD a b k h)
    have HA := Lib.hid hA
    have HB := Lib.hid hB
    have Hna := Lib.hid hna
    have Hnb := Lib.hid (hlen.trans hnb)
    subst hlen
    clear hA hB hl2 hna hnb
    go_enter Try.func8, Try.ntmps8
    go_wp2_with fail
    go_loopw [5] (fun i wr => ∃ k : Nat, k ≤ na ∧ i = .int .i64 k ∧ (∀ j, j < k → a.getD j (0, 0) = b.getD j (0, 0)) ∧ Below w.heap.size w wr) (fun i _ => na - (intOf i).toNat)
    case atStart => exact ⟨0, Nat.zero_le _, rfl, fun j h => absurd h (Nat.not_lt_zero _), Below.refl _ _⟩
    case round =>
      obtain ⟨k, hk, rfl, hall, hbl⟩ := hrel
      have HALL := Lib.hid hall
      clear hall
      by_cases hlt : k < na
      · obtain ⟨ba, oa, rfl, hba, hca⟩ := HA.out (by rw [← Hna.out]; omega)
        obtain ⟨bb, ob, rfl, hbb, hcb⟩ := HB.out (by rw [← Hnb.out]; omega)
        have c1 := (hbl.cell (p := ⟨ba, oa + k * 2, none⟩) hba).trans (hca k (by rw [← Hna.out]; exact hlt)).1
        have c2 := (hbl.cell (p := ⟨ba, oa + k * 2 + 1, none⟩) hba).trans (hca k (by rw [← Hna.out]; exact hlt)).2
        have c3 := (hbl.cell (p := ⟨bb, ob + k * 2, none⟩) hbb).trans (hcb k (by rw [← Hnb.out]; exact hlt)).1
        have c4 := (hbl.cell (p := ⟨bb, ob + k * 2 + 1, none⟩) hbb).trans (hcb k (by rw [← Hnb.out]; exact hlt)).2
        have HS := Lib.hid (fun h => @take_succ_pk a b k HALL.out h)
        have HNk := Lib.hid (HN.out k)
        clear hca hcb HA HB
        generalize a.getD k (0, 0) = p at *
        generalize b.getD k (0, 0) = q at *
        obtain ⟨p1, p2⟩ := p
        obtain ⟨q1, q2⟩ := q
        simp only at c1 c2 c3 c4
        by_cases h1 : p1 = q1
        · subst h1
          by_cases h2 : p2 = q2
          · subst h2
            go_wp2_with fail
            go_quiet (fail)
            go_wp2_with fail
            go_roundw
            case rel => exact ⟨k + 1, by omega, by go_num, HS.out (by simp), below_drewN hbl _⟩
            case measure => simp [intOf]; omega
          · have hd : decide (p2 = q2) = false := by simp [h2]
            go_wp2_with fail
            go_quiet (fail)
            go_wp2_with fail
            go_ret
            have e : decide (a = b) = false := decide_eq_false (HNk.out (by simp [h2]))
            exact ⟨ret_bool e.symm, below_drewN hbl _⟩
        · have hd : decide (p1 = q1) = false := by simp [h1]
          go_wp2_with fail
          go_quiet (fail)
          go_wp2_with fail
          go_ret
          have e : decide (a = b) = false := decide_eq_false (HNk.out (by simp [h1]))
          exact ⟨ret_bool e.symm, below_drewN hbl _⟩
      · have e : k = na := by omega
        subst e
        go_wp2_with fail
        go_ret
        have e : decide (a = b) = true := decide_eq_true (HE.out (by rw [← Hna.out]; exact HALL.out))
        exact ⟨ret_bool e.symm, hbl⟩
  · have hne : decide (a = b) = false := decide_eq_false (fun e => hlen (by rw [hna, hnb, e]))
    have H := Lib.hid hne
    have hd : decide ((na : Int) = (nb : Int)) = false := by simp; omega
    clear hA hB hna hnb hne
    go_enter Try.func8, Try.ntmps8
    go_wp2_with fail
    go_ret
    exact ⟨ret_bool H.out.symm, Below.refl _ _⟩

end Go.Proofs.Ythjncmnemppfhaa.Sd
