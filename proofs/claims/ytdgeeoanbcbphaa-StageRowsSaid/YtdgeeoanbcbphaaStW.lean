/- The walks of package stage: what each function computes. -/
import Derived.Test.YtdgeeoanbcbphaaBase
namespace Go.Proofs.Ytdgeeoanbcbphaa.St
open Go.RowKit
set_option linter.unusedVariables false
set_option linter.unusedSimpArgs false

def goV (s t : Int) : Int := if t ≤ s ∨ 1048575 < t then 3 else 0
def mx (a b : Int) : Int := if a < b then b else a
def rowV (l : List Int) (c : Int) : Nat := (l.takeWhile (fun s => decide (s < c))).length

theorem rowV_le (l : List Int) (c : Int) : rowV l c ≤ l.length := (List.takeWhile_prefix _).length_le
theorem rowV_hit (l : List Int) (c : Int) : ∀ k, k ≤ rowV l c → k < l.length → c ≤ l.getD k 0 → rowV l c = k := by
  induction l with
  | nil => intro k _ h _; simp at h
  | cons x l ih =>
    intro k hk hl hc
    by_cases hx : x < c
    · have e : rowV (x :: l) c = rowV l c + 1 := by simp [rowV, List.takeWhile_cons, hx]
      rw [e] at hk ⊢
      rcases k with _ | k
      · simp at hc; omega
      · rw [ih k (by omega) (by simpa using hl) (by simpa using hc)]
    · have e : rowV (x :: l) c = 0 := by simp [rowV, List.takeWhile_cons, hx]
      omega
theorem rowV_miss (l : List Int) (c : Int) : ∀ k, k ≤ rowV l c → k < l.length → l.getD k 0 < c → k + 1 ≤ rowV l c := by
  induction l with
  | nil => intro k _ h _; simp at h
  | cons x l ih =>
    intro k hk hl hc
    by_cases hx : x < c
    · have e : rowV (x :: l) c = rowV l c + 1 := by simp [rowV, List.takeWhile_cons, hx]
      rw [e] at hk ⊢
      rcases k with _ | k
      · omega
      · have := ih k (by omega) (by simpa using hl) (by simpa using hc)
        omega
    · have e : rowV (x :: l) c = 0 := by simp [rowV, List.takeWhile_cons, hx]
      rw [e] at hk
      have : k = 0 := by omega
      subst this
      simp at hc; omega

theorem go_any (s t : Int) (w : World) :
    Calls Try.prog 7 #[.int .i64 s, .int .i64 t] w fun e w' => e = .returned (.int .i64 (goV s t)) ∧ w = w' := by
  by_cases h1 : t ≤ s
  · have h : Hid (goV s t = 3) := by apply Lib.hid; simp [goV, h1]
    go_enter Try.func7, Try.ntmps7
    go_wp2_with fail
    go_ret
    exact ⟨ret_int h.out.symm, rfl⟩
  · by_cases h2 : 1048575 < t
    · have h : Hid (goV s t = 3) := by apply Lib.hid; simp [goV, h2]
      have h1' : s < t := by omega
      clear h1
      go_enter Try.func7, Try.ntmps7
      go_wp2_with fail
      go_ret
      exact ⟨ret_int h.out.symm, rfl⟩
    · have h : Hid (goV s t = 0) := by apply Lib.hid; simp [goV, h1, h2]
      have h1' : s < t := by omega
      have h2' : t ≤ 1048575 := by omega
      clear h1 h2
      go_enter Try.func7, Try.ntmps7
      go_wp2_with fail
      go_ret
      exact ⟨ret_int h.out.symm, rfl⟩

theorem past_any (c s : Int) (w : World) :
    Calls Try.prog 8 #[.int .i64 c, .int .i64 s] w fun e w' => e = .returned (.bool (decide (s < c))) ∧ w = w' := by
  go_enter Try.func8, Try.ntmps8
  go_wp2_with fail
  go_ret
  exact ⟨rfl, rfl⟩

theorem saw_any (s c : Int) (w : World) :
    Calls Try.prog 11 #[.agg #[.int .i64 s], .int .i64 c] w fun e w' => e = .returned (.agg #[.int .i64 (mx s c)]) ∧ (w.alloc (.cells #[.int .i64 s] 28)).alloc (.cells #[.int .i64 (mx s c)] 28) = w' := by
  have e1 : (if s < c then c else s) = mx s c := rfl
  go_enter Try.func11, Try.ntmps11
  go_wp2_with fail
  exact bodyPost_ret (v := .agg #[.int .i64 (mx s c)]) (by simp [results, Try.results11, go_sem]) rfl ⟨rfl, rfl⟩

theorem knows_any (s t : Int) (w : World) :
    Calls Try.prog 9 #[.agg #[.int .i64 s], .int .i64 t] w fun e w' => e = .returned (.bool (decide (t < s))) ∧ w.alloc (.cells #[.int .i64 s] 28) = w' := by
  go_enter Try.func9, Try.ntmps9
  go_wp2_with (go_at_call 8; refine (past_any _ _ _).mono ?_; rintro e w' ⟨rfl, rfl⟩)
  go_ret
  exact ⟨rfl, rfl⟩

theorem known_any (s : Int) (w : World) :
    Calls Try.prog 10 #[.agg #[.int .i64 s]] w fun e w' => e = .returned (.int .i64 s) ∧ w.alloc (.cells #[.int .i64 s] 28) = w' := by
  go_enter Try.func10, Try.ntmps10
  go_wp2_with fail
  go_ret
  exact ⟨rfl, rfl⟩

theorem row1_any (s c : Int) (b : Value) (p : Addr) (w : World) (hp : w.cell? p = some (.int .i64 c)) (hlt : p.block < w.heap.size) :
    Calls Try.prog 14 #[.agg #[.int .i64 s, b], .pointer (some p)] w fun e w' => e = .returned (.bool (decide (c ≤ s))) ∧ w.alloc (.cells #[.int .i64 s, b] 36) = w' := by
  have hp' : ∀ o, (w.alloc o).cell? p = some (.int .i64 c) := fun o => by rw [World.cell?_alloc_lt w o p hlt]; exact hp
  clear hp
  go_enter Try.func14, Try.ntmps14
  go_wp2_with fail
  go_ret
  exact ⟨rfl, rfl⟩

theorem index_some (b o cap : Nat) (l : List Int) (B : Nat → Value) (c : Int) (p : Addr) (w : World) (hm : l.length ≤ 9223372036854775807) (hb : b < w.heap.size)
    (hc : ∀ j, j < l.length → w.cell? ⟨b, o + j * 2, none⟩ = some (.int .i64 (l.getD j 0)) ∧ w.cell? ⟨b, o + j * 2 + 1, none⟩ = some (B j))
    (hp : w.cell? p = some (.int .i64 c)) (hlt : p.block < w.heap.size) (r : Int) (hr : r = if rowV l c < l.length then (rowV l c : Int) else -1) :
    Calls Try.prog 13 #[.slice (some ⟨b, o, none⟩) l.length cap, .func (.func 14) #[] #[.pointer (some p)]] w
      fun e w' => e = .returned (.int .i64 r) ∧ Below w.heap.size w w' := by
  go_enter Try.func13, Try.ntmps13
  go_wp2_with fail
  go_loopw [8] (fun i wr => ∃ k : Nat, k ≤ l.length ∧ i = .int .i64 k ∧ k ≤ rowV l c ∧ Below w.heap.size w wr) (fun i _ => l.length - (intOf i).toNat)
  case atStart => exact ⟨0, Nat.zero_le _, rfl, Nat.zero_le _, Below.refl _ _⟩
  case round =>
    obtain ⟨k, hk, rfl, hkr, hbl⟩ := hrel
    by_cases hlt2 : k < l.length
    · have h1 : wr.cell? ⟨b, o + k * 2, none⟩ = some (.int .i64 (l.getD k 0)) := (hbl.cell (p := ⟨b, o + k * 2, none⟩) hb).trans (hc k hlt2).1
      have h2 : wr.cell? ⟨b, o + k * 2 + 1, none⟩ = some (B k) := (hbl.cell (p := ⟨b, o + k * 2 + 1, none⟩) hb).trans (hc k hlt2).2
      have hp2 : wr.cell? p = some (.int .i64 c) := (hbl.cell hlt).trans hp
      have hlt3 : p.block < wr.heap.size := Nat.lt_of_lt_of_le hlt hbl.size
      clear hc
      obtain ⟨s, hs⟩ : ∃ s, l.getD k 0 = s := ⟨_, rfl⟩
      rw [hs] at h1
      have HS := Lib.hid hs
      clear hs
      have HH := Lib.hid (rowV_hit l c k hkr hlt2)
      have HM := Lib.hid (rowV_miss l c k hkr hlt2)
      by_cases hcs : c ≤ s
      · have hd : decide (c ≤ s) = true := by simp [hcs]
        go_wp2_with (go_at_call 14; refine (row1_any _ _ _ _ _ hp2 hlt3).mono ?_; rintro e w' ⟨rfl, rfl⟩)
        go_ret
        have e := HH.out (by rw [HS.out]; exact hcs)
        exact ⟨ret_int (by rw [hr, e, if_pos hlt2]), hbl.alloc hbl.size _⟩
      · have hd : decide (c ≤ s) = false := by simp; omega
        go_wp2_with (go_at_call 14; refine (row1_any _ _ _ _ _ hp2 hlt3).mono ?_; rintro e w' ⟨rfl, rfl⟩)
        go_roundw
        case rel => exact ⟨k + 1, by omega, by go_num, HM.out (by rw [HS.out]; omega), hbl.alloc hbl.size _⟩
        case measure => simp [intOf]; omega
    · have hlt3 : (l.length : Int) ≤ k := by omega
      go_wp2_with fail
      go_ret
      have := rowV_le l c
      exact ⟨ret_int (by rw [hr, if_neg (by omega)]), hbl⟩

theorem index_none (A : Option Addr) (cap : Nat) (f : Value) (w : World) :
    Calls Try.prog 13 #[.slice A 0 cap, f] w fun e w' => e = .returned (.int .i64 (-1)) ∧ w = w' := by
  go_enter Try.func13, Try.ntmps13
  go_wp2_with fail
  refine wp_loop_rounds 1 ?_
  rw [rounds_succ]
  go_wp2_with fail
  go_ret
  exact ⟨rfl, rfl⟩

/-- a slice of cells that reads as the stages l, below block B0 -/
def RdC (w : World) (B0 : Nat) (A : Option Addr) (l : List Int) : Prop :=
  0 < l.length → ∃ b o, A = some ⟨b, o, none⟩ ∧ b < B0 ∧ ∃ B : Nat → Value, ∀ j, j < l.length → w.cell? ⟨b, o + j * 2, none⟩ = some (.int .i64 (l.getD j 0)) ∧ w.cell? ⟨b, o + j * 2 + 1, none⟩ = some (B j)

theorem row_any (A : Option Addr) (n cap : Nat) (l : List Int) (c : Int) (w : World) (hn : n = l.length) (hm : l.length ≤ 9223372036854775807) (h : RdC w w.heap.size A l) :
    Calls Try.prog 12 #[.slice A n cap, .int .i64 c] w fun e w' => e = .returned (.int .i64 (rowV l c)) ∧ Below w.heap.size w w' := by
  subst hn
  have hle := rowV_le l c
  by_cases h0 : 0 < l.length
  · obtain ⟨b, o, rfl, hb, B, hc⟩ := h h0
    have H := Lib.hid (fun (wx : World) (hwx : wx = w.alloc (.cells #[.int .i64 c] 3)) (p : Addr) (hp : p = ⟨w.heap.size, 0, none⟩) (r : Int) (hr : r = if rowV l c < l.length then (rowV l c : Int) else -1) =>
      index_some b o cap l B c p wx hm (by rw [hwx]; simp; omega)
        (fun j hj => by rw [hwx, World.cell?_alloc_lt _ _ _ (by exact hb), World.cell?_alloc_lt _ _ _ (by exact hb)]; exact hc j hj)
        (by rw [hwx, hp]; simp) (by rw [hwx, hp]; simp) r hr)
    clear h hc
    by_cases hr : rowV l c < l.length
    · rw [if_pos hr] at H
      have hv : (0 : Int) ≤ (rowV l c : Int) := by omega
      generalize rowV l c = v at *
      go_enter Try.func12, Try.ntmps12
      go_wp2_with fail
      refine (H.out _ rfl _ rfl _ rfl).mono ?_
      rintro e w1 ⟨rfl, hb1⟩
      go_wp2_with fail
      go_ret
      exact ⟨rfl, ((Below.refl _ _).alloc (Nat.le_refl _) _).trans (hb1.mono (by simp))⟩
    · rw [if_neg hr] at H
      have hv : rowV l c = l.length := by omega
      rw [hv]
      clear hr hle hv
      go_enter Try.func12, Try.ntmps12
      go_wp2_with fail
      refine (H.out _ rfl _ rfl _ rfl).mono ?_
      rintro e w1 ⟨rfl, hb1⟩
      go_wp2_with fail
      go_ret
      exact ⟨rfl, ((Below.refl _ _).alloc (Nat.le_refl _) _).trans (hb1.mono (by simp))⟩
  · have hl : l = [] := List.eq_nil_of_length_eq_zero (by omega)
    subst hl
    clear h hle hm h0
    go_enter Try.func12, Try.ntmps12
    go_wp2_with (first | (go_at_call 13; refine (index_none _ _ _ _).mono ?_; rintro e w' ⟨rfl, rfl⟩))
    go_ret
    exact ⟨rfl, (Below.refl _ _).alloc (Nat.le_refl _) _⟩

theorem works_any (w : World) :
    Calls Try.prog 6 #[] w fun e w' => e = .returned (.bool true) ∧ Below w.heap.size w w' := by
  have k1 : goV 3 3 = 3 := by decide
  have k2 : goV 3 4 = 0 := by decide
  have k3 : mx 0 4 = 4 := by decide
  have k4 : rowV [0, 5] 5 = 1 := by decide
  go_enter Try.func6, Try.ntmps6
  go_wp2_with (first | (go_at_call 7; refine (go_any _ _ _).mono ?_; rintro e w' ⟨rfl, rfl⟩) | (go_at_call 8; refine (past_any _ _ _).mono ?_; rintro e w' ⟨rfl, rfl⟩) | (go_at_call 11; refine (saw_any _ _ _).mono ?_; rintro e w' ⟨rfl, rfl⟩) | (go_at_call 9; refine (knows_any _ _ _).mono ?_; rintro e w' ⟨rfl, rfl⟩) | (go_at_call 10; refine (known_any _ _).mono ?_; rintro e w' ⟨rfl, rfl⟩))
  refine (row_any _ _ _ [0, 5] _ _ rfl (by decide) ?_).mono ?_
  · intro _
    refine ⟨_, _, rfl, by simp, fun _ => .bool false, ?_⟩
    intro j hj
    match j, hj with
    | 0, _ => exact ⟨by rw [cell_new _ _ _ _ _ (by simp)]; simp, by rw [cell_new _ _ _ _ _ (by simp)]; simp⟩
    | 1, _ => exact ⟨by rw [cell_new _ _ _ _ _ (by simp)]; simp, by rw [cell_new _ _ _ _ _ (by simp)]; simp⟩
  · rintro e w1 ⟨rfl, hb1⟩
    go_wp2_with fail
    go_ret
    exact ⟨rfl, Below.trans (by repeat (first | exact Below.refl _ _ | refine Below.alloc ?_ (by simp; try omega) _ | refine Below.setCell ?_ (by simp; try omega) _)) (hb1.mono (by simp; try omega))⟩

end Go.Proofs.Ytdgeeoanbcbphaa.St
