/- The walk of the document's Check: what holds of an instruction that may be. Written by gen8.py. -/
import Derived.Test.YthmeonabdpbmjaaBase
import Derived.Test.YthmeonabdpbmjaaSpM
import Derived.ChangeMaps5
import Derived.Deep.DeepCutAuto
namespace Go.Proofs.Ythmeonabdpbmjaa.Sp
open Go.RowKit
set_option linter.unusedVariables false
set_option linter.unusedSimpArgs false

def fms : List ByteArray := [⟨#[]⟩, ⟨#[114, 110]⟩, ⟨#[114, 114]⟩, ⟨#[114, 114, 114]⟩, ⟨#[114, 114, 114]⟩, ⟨#[114, 114, 114]⟩, ⟨#[114, 114, 114]⟩, ⟨#[114, 114, 114]⟩, ⟨#[114, 114, 114]⟩, ⟨#[114, 114, 114]⟩, ⟨#[114, 114, 114]⟩, ⟨#[114, 114, 114]⟩, ⟨#[114, 114, 114]⟩, ⟨#[114, 114]⟩, ⟨#[114, 114]⟩, ⟨#[114, 114, 114]⟩, ⟨#[114, 114, 114]⟩, ⟨#[114]⟩, ⟨#[116]⟩, ⟨#[114, 116]⟩, ⟨#[102]⟩, ⟨#[]⟩, ⟨#[102]⟩, ⟨#[114]⟩, ⟨#[114]⟩, ⟨#[]⟩]
def fm (n : Nat) : ByteArray := fms.getD n ⟨#[]⟩
theorem fms_val (n : Nat) (h : n < 26) : (#[.string ⟨#[]⟩, .string ⟨#[114, 110]⟩, .string ⟨#[114, 114]⟩, .string ⟨#[114, 114, 114]⟩, .string ⟨#[114, 114, 114]⟩, .string ⟨#[114, 114, 114]⟩, .string ⟨#[114, 114, 114]⟩, .string ⟨#[114, 114, 114]⟩, .string ⟨#[114, 114, 114]⟩, .string ⟨#[114, 114, 114]⟩, .string ⟨#[114, 114, 114]⟩, .string ⟨#[114, 114, 114]⟩, .string ⟨#[114, 114, 114]⟩, .string ⟨#[114, 114]⟩, .string ⟨#[114, 114]⟩, .string ⟨#[114, 114, 114]⟩, .string ⟨#[114, 114, 114]⟩, .string ⟨#[114]⟩, .string ⟨#[116]⟩, .string ⟨#[114, 116]⟩, .string ⟨#[102]⟩, .string ⟨#[]⟩, .string ⟨#[102]⟩, .string ⟨#[114]⟩, .string ⟨#[114]⟩, .string ⟨#[]⟩] : Array Value)[n]? = some (.string (fm n)) := by
  have e : n = 0 ∨ n = 1 ∨ n = 2 ∨ n = 3 ∨ n = 4 ∨ n = 5 ∨ n = 6 ∨ n = 7 ∨ n = 8 ∨ n = 9 ∨ n = 10 ∨ n = 11 ∨ n = 12 ∨ n = 13 ∨ n = 14 ∨ n = 15 ∨ n = 16 ∨ n = 17 ∨ n = 18 ∨ n = 19 ∨ n = 20 ∨ n = 21 ∨ n = 22 ∨ n = 23 ∨ n = 24 ∨ n = 25 := by omega
  rcases e with rfl | rfl | rfl | rfl | rfl | rfl | rfl | rfl | rfl | rfl | rfl | rfl | rfl | rfl | rfl | rfl | rfl | rfl | rfl | rfl | rfl | rfl | rfl | rfl | rfl | rfl <;> rfl
theorem fm_len (n : Nat) : (fm n).size ≤ 3 := by
  by_cases h : n < 26
  · have e : n = 0 ∨ n = 1 ∨ n = 2 ∨ n = 3 ∨ n = 4 ∨ n = 5 ∨ n = 6 ∨ n = 7 ∨ n = 8 ∨ n = 9 ∨ n = 10 ∨ n = 11 ∨ n = 12 ∨ n = 13 ∨ n = 14 ∨ n = 15 ∨ n = 16 ∨ n = 17 ∨ n = 18 ∨ n = 19 ∨ n = 20 ∨ n = 21 ∨ n = 22 ∨ n = 23 ∨ n = 24 ∨ n = 25 := by omega
    rcases e with rfl | rfl | rfl | rfl | rfl | rfl | rfl | rfl | rfl | rfl | rfl | rfl | rfl | rfl | rfl | rfl | rfl | rfl | rfl | rfl | rfl | rfl | rfl | rfl | rfl | rfl <;> decide
  · have : fm n = ⟨#[]⟩ := by unfold fm List.getD; rw [List.getElem?_eq_none (by show fms.length ≤ n; simp [fms]; omega)]; rfl
    rw [this]; decide
/-- where a form begins with a register -/
def regs (op : Int) : Prop := 1 ≤ op ∧ op ≤ 17 ∨ op = 19 ∨ op = 23 ∨ op = 24
theorem fm_regs (n : Nat) (h : regs n) : 0 < (fm n).size ∧ ((fm n).extract 0 1).toList = [114] := by
  unfold regs at h
  have e : n = 1 ∨ n = 2 ∨ n = 3 ∨ n = 4 ∨ n = 5 ∨ n = 6 ∨ n = 7 ∨ n = 8 ∨ n = 9 ∨ n = 10 ∨ n = 11 ∨ n = 12 ∨ n = 13 ∨ n = 14 ∨ n = 15 ∨ n = 16 ∨ n = 17 ∨ n = 19 ∨ n = 23 ∨ n = 24 := by omega
  rcases e with rfl | rfl | rfl | rfl | rfl | rfl | rfl | rfl | rfl | rfl | rfl | rfl | rfl | rfl | rfl | rfl | rfl | rfl | rfl | rfl <;> exact ⟨by decide, by rw [ByteArray.toList_eq]; decide⟩

theorem forms_any (w : World) : Calls Try.prog 32 #[] w fun e w' => e = .returned (.slice (some ⟨w.heap.size, 0, none⟩) 26 26) ∧ (∀ n, n < 26 → w'.cell? ⟨w.heap.size, n, none⟩ = some (.string (fm n))) ∧ Below w.heap.size w w' := by
  go_enter Try.func32, Try.ntmps32
  go_wp2
  go_ret
  exact ⟨rfl, fun n hn => (cell_new _ _ _ _ _ rfl).trans (fms_val n hn), (Below.refl _ _).alloc (Nat.le_refl _) _⟩

theorem form_any (n : Nat) (hn : n < 26) (w : World) : Calls Try.prog 22 #[.int .i64 n] w fun e w' => e = .returned (.string (fm n)) ∧ Below w.heap.size w w' := by
  have d0 : decide ((n : Int) < 0) = false := by simp
  have d1 : decide (25 < (n : Int)) = false := by simp; omega
  have hn' : (n : Int) < 26 := by omega
  have c1 := Lib.hid (fun w => forms_any w)
  go_enter Try.func22, Try.ntmps22
  go_wp2_with fail
  refine (c1.out _).mono ?_
  rintro e w1 ⟨rfl, hc, hb⟩
  have h1 := hc n hn
  clear hc
  go_wp2_with fail
  go_ret
  exact ⟨rfl, hb⟩

theorem rends_any (t : ByteArray) (w : World) : Calls Try.prog 23 #[.string t] w fun e w' => ∃ lo hi : Int, e = .returned (.tuple #[.int .i64 lo, .int .i64 hi]) ∧ (t.toList = [114] → lo = 0 ∧ hi = 7) ∧ w = w' := by
  go_enter Try.func23, Try.ntmps23
  go_wp2_with fail
  all_goals go_ret2
  all_goals exact ⟨_, _, rfl, fun h => by first | exact ⟨rfl, rfl⟩ | contradiction | (exfalso; simp_all), rfl⟩

set_option maxHeartbeats 4000000 in
theorem check_in (n : Nat) (hn : n < 26) (A B C : Int) (w : World) :
    Calls Try.prog 10 #[.agg #[.int .i64 n, .int .i64 A, .int .i64 B, .int .i64 C]] w fun e w' =>
      ∃ v : Int, e = .returned (.int .i64 v) ∧ (v = 0 → 0 < (fm n).size → ((fm n).extract 0 1).toList = [114] → 0 ≤ A ∧ A ≤ 7) ∧ Below w.heap.size w w' := by
  have d0 : decide ((n : Int) < 0) = false := by simp
  have d1 : decide (25 < (n : Int)) = false := by simp; omega
  have c1 := Lib.hid (fun w => form_any n hn w)
  have c2 := Lib.hid rends_any
  have hl := fm_len n
  generalize fm n = f at *
  have hl' : (f.size : Int) ≤ 3 := by omega
  go_enter Try.func10, Try.ntmps10
  go_wp2_with fail
  refine (c1.out _).mono ?_
  rintro e w1 ⟨rfl, hb1⟩
  have x0 : w1.cell? ⟨w.heap.size, 1, none⟩ = some (.int .i64 A) := kb hb1 (by simp) (cell_new _ _ _ _ _ rfl)
  have x1 : w1.cell? ⟨w.heap.size, 2, none⟩ = some (.int .i64 B) := kb hb1 (by simp) (cell_new _ _ _ _ _ rfl)
  have x2 : w1.cell? ⟨w.heap.size, 3, none⟩ = some (.int .i64 C) := kb hb1 (by simp) (cell_new _ _ _ _ _ rfl)
  have BW : Below w.heap.size w w1 := ((Below.refl _ _).alloc (Nat.le_refl _) _).trans (hb1.mono (by simp))
  clear hb1
  go_upto_region 5 with fail
  generalize hW : w1.alloc (.cells #[.int .i64 A, .int .i64 B, .int .i64 C] 3) = W
  generalize hg : w1.heap.size = g
  have y0 : W.cell? ⟨g, 0, none⟩ = some (.int .i64 A) := by rw [← hW]; exact cell_new _ _ _ _ _ hg.symm
  have y1 : W.cell? ⟨g, 1, none⟩ = some (.int .i64 B) := by rw [← hW]; exact cell_new _ _ _ _ _ hg.symm
  have y2 : W.cell? ⟨g, 2, none⟩ = some (.int .i64 C) := by rw [← hW]; exact cell_new _ _ _ _ _ hg.symm
  have BE : Below w.heap.size w W := by rw [← hW]; exact BW.alloc BW.size _
  clear hW hg BW c1 d0 d1 x0 x1 x2
  go_wp2_with fail
  go_loopw [5] (fun s5 wr => ∃ j : Nat, j ≤ f.size ∧ s5 = .int .i64 j ∧ (0 < j → (f.extract 0 1).toList = [114] → 0 ≤ A ∧ A ≤ 7) ∧ W = wr) (fun i _ => f.size - (intOf i).toNat)
  case atStart => exact ⟨0, Nat.zero_le _, rfl, fun h => absurd h (by omega), rfl⟩
  case round =>
    obtain ⟨j, hj, rfl, hok, rfl⟩ := hrel
    by_cases hlt : j < f.size
    · obtain ⟨v, hv⟩ : ∃ v, W.cell? ⟨g, j, none⟩ = some (.int .i64 v) ∧ (j = 0 → v = A) := by
        have e : j = 0 ∨ j = 1 ∨ j = 2 := by omega
        rcases e with rfl | rfl | rfl
        · exact ⟨A, y0, fun _ => rfl⟩
        · exact ⟨B, y1, fun h => absurd h (by omega)⟩
        · exact ⟨C, y2, fun h => absurd h (by omega)⟩
      obtain ⟨hv, hvA⟩ := hv
      have HV := Lib.hid hvA
      have HO := Lib.hid hok
      have hj3 : (j : Int) < 3 := by omega
      have hlt' : (j : Int) < (f.size : Int) := by omega
      have hlt2 : (j : Int) + 1 ≤ (f.size : Int) := by omega
      clear y0 y1 y2 hok hvA
      go_wp2_with fail
      refine (c2.out _ _).mono ?_
      rintro e w2 ⟨lo, hi, rfl, hlh, rfl⟩
      have HLH := Lib.hid hlh
      clear hlh
      by_cases h1 : v < lo
      · have d1 : decide (v < lo) = true := by simp [h1]
        go_wp2_with fail
        go_ret
        exact ⟨3, rfl, fun h => absurd h (by decide), BE⟩
      · have d1 : decide (v < lo) = false := by simp; omega
        by_cases h2 : hi < v
        · have d2 : decide (hi < v) = true := by simp [h2]
          go_wp2_with fail
          go_ret
          exact ⟨3, rfl, fun h => absurd h (by decide), BE⟩
        · have d2 : decide (hi < v) = false := by simp; omega
          have HB := Lib.hid (show ¬ v < lo ∧ ¬ hi < v from ⟨h1, h2⟩)
          clear h1 h2
          go_wp2_with fail
          go_roundw
          case rel =>
            refine ⟨j + 1, by omega, by simp, fun _ hr => ?_, trivial⟩
            by_cases h0 : j = 0
            · subst h0
              have q1 := HLH.out hr
              have q2 := HV.out rfl
              have q3 := HB.out
              omega
            · exact HO.out (by omega) hr
          case measure => simp [intOf]; omega
    · obtain rfl : j = f.size := by omega
      have HO := Lib.hid hok
      clear hok hlt hj
      go_wp2_with fail
      go_loopw [8] (fun s8 wr => ∃ j2 : Nat, j2 ≤ 3 ∧ s8 = .int .i64 j2 ∧ W = wr) (fun i _ => 3 - (intOf i).toNat)
      case atStart => exact ⟨f.size, hl, rfl, rfl⟩
      case round =>
        obtain ⟨j2, hj2, rfl, rfl⟩ := hrel
        by_cases hlt : j2 < 3
        · obtain ⟨v, hv⟩ : ∃ v, W.cell? ⟨g, j2, none⟩ = some (.int .i64 v) := by
            have e : j2 = 0 ∨ j2 = 1 ∨ j2 = 2 := by omega
            rcases e with rfl | rfl | rfl
            · exact ⟨A, y0⟩
            · exact ⟨B, y1⟩
            · exact ⟨C, y2⟩
          have hj3 : (j2 : Int) < 3 := by omega
          clear y0 y1 y2
          by_cases hz : v = 0
          · subst hz
            go_wp2_with fail
            go_roundw
            case rel => exact ⟨j2 + 1, by omega, by simp, trivial⟩
            case measure => simp [intOf]; omega
          · have nz : (v == 0) = false := by simp [hz]
            go_wp2_with fail
            go_ret
            exact ⟨4, rfl, fun h => absurd h (by decide), BE⟩
        · obtain rfl : j2 = 3 := by omega
          go_wp2_with fail
          go_ret
          exact ⟨0, rfl, fun _ h0 hr => HO.out h0 hr, BE⟩

theorem check_any (op A B C : Int) (w : World) :
    Calls Try.prog 10 #[.agg #[.int .i64 op, .int .i64 A, .int .i64 B, .int .i64 C]] w fun e w' =>
      ∃ v : Int, e = .returned (.int .i64 v) ∧ (v = 0 → (0 ≤ op ∧ op ≤ 25) ∧ (regs op → 0 ≤ A ∧ A ≤ 7)) ∧ Below w.heap.size w w' := by
  by_cases h : 0 ≤ op ∧ op ≤ 25
  · obtain ⟨n, rfl⟩ : ∃ n : Nat, op = n := ⟨op.toNat, by omega⟩
    refine (check_in n (by omega) A B C w).mono ?_
    rintro e w' ⟨v, rfl, hv, hb⟩
    exact ⟨v, rfl, fun h0 => ⟨h, fun hr => hv h0 (fm_regs n hr).1 (fm_regs n hr).2⟩, hb⟩
  · by_cases h0 : op < 0
    · have d0 : decide (op < 0) = true := by simp [h0]
      go_enter Try.func10, Try.ntmps10
      go_wp2_with fail
      go_ret
      exact ⟨5, rfl, fun h => absurd h (by decide), (Below.refl _ _).alloc (Nat.le_refl _) _⟩
    · have d0 : decide (op < 0) = false := by simp; omega
      have d1 : decide (25 < op) = true := by simp; omega
      go_enter Try.func10, Try.ntmps10
      go_wp2_with fail
      go_ret
      exact ⟨5, rfl, fun h => absurd h (by decide), (Below.refl _ _).alloc (Nat.le_refl _) _⟩

end Go.Proofs.Ythmeonabdpbmjaa.Sp
