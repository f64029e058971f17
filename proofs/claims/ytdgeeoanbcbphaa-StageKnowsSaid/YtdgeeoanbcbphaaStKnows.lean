/- For every input StageKnows returns true, and its arguments read as they did. No conditions. -/
import Derived.Test.YtdgeeoanbcbphaaStW
import Derived.Test.YtdgeeoanbcbphaaOpen
import Derived.StillTailTactics
namespace Go.Proofs.Ytdgeeoanbcbphaa.StKnows
open Go.RowKit Go.Proofs.Ytdgeeoanbcbphaa.St
set_option linter.unusedVariables false
set_option linter.unusedSimpArgs false

/-- the greatest of the first k, and 0 -/
def mostK (zs : List Int) (k : Nat) : Int := (zs.take k).foldl mx 0
def knowsK (zs : List Int) (t : Int) (k : Nat) : Bool := decide (t < mostK zs k)
theorem take_snoc (zs : List Int) (k : Nat) (h : k < zs.length) : zs.take (k + 1) = zs.take k ++ [zs.getD k 0] := by
  rw [List.take_succ_eq_append_getElem h]; simp [List.getD, List.getElem?_eq_getElem h]
theorem most_succ (zs : List Int) (k : Nat) (h : k < zs.length) : mostK zs (k + 1) = mx (mostK zs k) (zs.getD k 0) := by
  unfold mostK; rw [take_snoc zs k h]; simp
theorem knows_mx (t a b : Int) : decide (t < mx a b) = (decide (t < a) || decide (t < b)) := by
  unfold mx; rw [Bool.eq_iff_iff]; simp; split <;> omega

set_option maxHeartbeats 800000 in
theorem walk_some (b o cap : Nat) (zs : List Int) (t : Int) (w : World) (hm : zs.length ≤ 300) (hb : b < w.heap.size)
    (hc : ∀ j, j < zs.length → w.cell? ⟨b, o + j, none⟩ = some (.int .i64 (zs.getD j 0))) :
    Calls Try.prog 4 #[.slice (some ⟨b, o, none⟩) zs.length cap, .int .i64 t] w fun e w' => e = .returned (.bool true) ∧ Below w.heap.size w w' := by
  obtain ⟨d0, hd0⟩ : ∃ d, decide (t < 0) = d := ⟨_, rfl⟩
  have hm' : (zs.length : Int) ≤ 300 := by omega
  have HC := Lib.hid hc
  clear hc
  have HD := Lib.hid hd0
  go_enter Try.func4, Try.ntmps4
  go_wp2_with (first | (go_at_call 6; refine (works_any _).mono ?_; rintro e w1 ⟨rfl, hb1⟩) | (go_at_call 9; refine (knows_any _ _ _).mono ?_; rintro e w' ⟨rfl, rfl⟩) | (go_at_call 10; refine (known_any _ _).mono ?_; rintro e w' ⟨rfl, rfl⟩))
  go_loopw [6, 7, 8] (fun m q i wr => ∃ k : Nat, k ≤ zs.length ∧ i = .int .i64 k ∧ m = .int .i64 (mostK zs k) ∧ q = .bool (knowsK zs t k) ∧ wr.cell? ⟨w1.heap.size, 0, none⟩ = some (.int .i64 (mostK zs k)) ∧
      wr.frozen? ⟨w1.heap.size, 0, none⟩ = false ∧ Below w1.heap.size w1 wr ∧ w1.heap.size < wr.heap.size) (fun _ _ i _ => zs.length - (intOf i).toNat)
  case atStart =>
    refine ⟨0, Nat.zero_le _, rfl, rfl, by rw [← HD.out]; rfl, ?_, ?_, ((Below.refl _ _).alloc (Nat.le_refl _) _ |>.alloc (by simp) _ |>.alloc (by simp; omega) _), by simp; omega⟩
    · rw [World.cell?_alloc_lt _ _ _ (by simp; omega), World.cell?_alloc_lt _ _ _ (by simp), cell_new _ _ _ _ _ rfl]; rfl
    · rw [World.frozen?_alloc_past _ _ _ (by simp; omega), World.frozen?_alloc_past _ _ _ (by simp), World.frozen?_alloc_at _ _ _ _ rfl]
  case round =>
    obtain ⟨k, hk, rfl, rfl, rfl, hcm, hfm, hbl, hsz⟩ := hrel
    clear hd0 HD
    by_cases hlt : k < zs.length
    · have hz : wr.cell? ⟨b, o + k, none⟩ = some (.int .i64 (zs.getD k 0)) := (hbl.cell (p := ⟨b, o + k, none⟩) (Nat.lt_of_lt_of_le hb hb1.size)).trans ((hb1.cell (p := ⟨b, o + k, none⟩) hb).trans (HC.out k hlt))
      have HS := Lib.hid (most_succ zs k hlt)
      have HK := Lib.hid (knows_mx t (mostK zs k) (zs.getD k 0))
      have HN : Hid (knowsK zs t (k + 1) = (knowsK zs t k || decide (t < zs.getD k 0))) := by apply Lib.hid; unfold knowsK; rw [HS.out, HK.out]
      have hb2 : b < wr.heap.size := Nat.lt_of_lt_of_le (Nat.lt_of_lt_of_le hb hb1.size) hbl.size
      have hbg : b < w1.heap.size := Nat.lt_of_lt_of_le hb hb1.size
      have hne : b ≠ w1.heap.size := Nat.ne_of_lt hbg
      generalize zs.getD k 0 = z at *
      have e1 : (if mostK zs k < z then z else mostK zs k) = mx (mostK zs k) z := rfl
      have HKN : Hid (decide (t < mx (mostK zs k) z) = knowsK zs t (k + 1)) := by apply Lib.hid; unfold knowsK; rw [HS.out]
      have s1 : w1.heap.size < wr.heap.size + 1 := by omega
      have s2 : w1.heap.size < wr.heap.size + 1 + 1 := by omega
      have s3 : w1.heap.size < wr.heap.size + 1 + 1 + 1 := by omega
      clear HK
      obtain ⟨c, hcz⟩ : ∃ c, decide (t < z) = c := ⟨_, rfl⟩
      rw [hcz] at HN
      cases hq : knowsK zs t k <;> cases c
      all_goals
        have hn := HN.out
        rw [hq] at hn
        simp only [Bool.or_false, Bool.or_true, Bool.false_or, Bool.true_or] at hn
        have hkn := HKN.out
        rw [hn] at hkn
        have HN2 := Lib.hid hn
        clear hn hq HN HKN
        go_wp2_with fail
        go_still_tail 5, (by kernel_rfl)
        go_wp2_with (first | (go_at_call 11; refine (saw_any _ _ _).mono ?_; rintro e w' ⟨rfl, rfl⟩) | (go_at_call 8; refine (past_any _ _ _).mono ?_; rintro e w' ⟨rfl, rfl⟩) | (go_at_call 9; refine (knows_any _ _ _).mono ?_; rintro e w' ⟨rfl, rfl⟩) | (go_at_call 10; refine (known_any _ _).mono ?_; rintro e w' ⟨rfl, rfl⟩))
        go_roundw
        case rel =>
          refine ⟨k + 1, by omega, by go_num, by rw [HS.out], by rw [HN2.out], ?_, ?_, ?_, by simp; omega⟩
          · rw [HS.out]
            simp [go_sem, hcm, hsz, s1, s2, s3]
          · simp [go_sem, hfm, hsz, s1, s2, s3]
          · exact (((((hbl.setCell (p := ⟨w1.heap.size, 0, none⟩) (Nat.le_refl _) _).alloc (by simp; omega) _).alloc (by simp; omega) _).alloc (by simp; omega) _).alloc (by simp; omega) _).drew
        case measure => simp [intOf]; omega
    · go_wp2_with fail
      go_ret
      exact ⟨rfl, hb1.trans (hbl.mono hb1.size)⟩

theorem walk_long (A : Option Addr) (n cap : Nat) (t : Int) (w : World) (hn : 300 < (n : Int)) :
    Calls Try.prog 4 #[.slice A n cap, .int .i64 t] w fun e w' => e = .returned (.bool true) ∧ Below w.heap.size w w' := by
  go_enter Try.func4, Try.ntmps4
  go_wp2_with (first | (go_at_call 6; refine (works_any _).mono ?_; rintro e w1 ⟨rfl, hb1⟩) | (go_at_call 9; refine (knows_any _ _ _).mono ?_; rintro e w' ⟨rfl, rfl⟩) | (go_at_call 10; refine (known_any _ _).mono ?_; rintro e w' ⟨rfl, rfl⟩))
  go_ret
  exact ⟨rfl, hb1⟩

theorem walk_none (A : Option Addr) (cap : Nat) (t : Int) (w : World) :
    Calls Try.prog 4 #[.slice A 0 cap, .int .i64 t] w fun e w' => e = .returned (.bool true) ∧ Below w.heap.size w w' := by
  obtain ⟨d0, hd0⟩ : ∃ d, decide (t < 0) = d := ⟨_, rfl⟩
  go_enter Try.func4, Try.ntmps4
  go_wp2_with (first | (go_at_call 6; refine (works_any _).mono ?_; rintro e w1 ⟨rfl, hb1⟩) | (go_at_call 9; refine (knows_any _ _ _).mono ?_; rintro e w' ⟨rfl, rfl⟩) | (go_at_call 10; refine (known_any _ _).mono ?_; rintro e w' ⟨rfl, rfl⟩))
  refine wp_loop_rounds 1 ?_
  rw [rounds_succ]
  go_wp2_with fail
  go_ret
  exact ⟨rfl, hb1.trans ((((Below.refl _ _).alloc hb1.size _).alloc (by have := hb1.size; simp; omega) _).alloc (by have := hb1.size; simp; omega) _)⟩

theorem walk (A : Option Addr) (cap : Nat) (zs : List Int) (t : Int) (w : World) (h : 0 < zs.length → ∃ b o, A = some ⟨b, o, none⟩ ∧ b < w.heap.size ∧ ∀ j, j < zs.length → w.cell? ⟨b, o + j, none⟩ = some (.int .i64 (zs.getD j 0))) :
    Calls Try.prog 4 #[.slice A zs.length cap, .int .i64 t] w fun e w' => e = .returned (.bool true) ∧ Below w.heap.size w w' := by
  by_cases h3 : 300 < (zs.length : Int)
  · exact walk_long A _ cap t w h3
  · by_cases h0 : 0 < zs.length
    · obtain ⟨b, o, rfl, hb, hc⟩ := h h0
      exact walk_some b o cap zs t w (by omega) hb hc
    · rw [show zs.length = 0 by omega]
      exact walk_none A cap t w

open Go.ChangeShapes Go.WideShapes Go.ChangeAt

set_option maxRecDepth 100000 in
theorem lifted (os : Os) (started : os.Started) (H : Type) (enc : TypeId × Value → H) :
    ReturnsInHanded {} Try.checked os 4 .any (Rows.stageKnowsSpec.pre6 enc Try.prog Try.f4 Rows.stageKnowsRow.domain false) (Rows.stageKnowsSpec.post enc Try.prog Try.f4 false true false false) := by
  refine Frame.law_lift (C := Try.checked) Frame.own started (by kernel_rfl) Try.func4 Frame.laidOut
    (ChangeSpec.witness6 (enc := enc) (C := Try.checked) false ⟨#[], #[.slice none 0 0, .int .i64 0], []⟩ 8 (by kernel_rfl) (by kernel_rfl) (by kernel_rfl) (by kernel_rfl))
    rfl rfl Try.underlying4 (by kernel_rfl) (fun ds h => by match ds, h with | [_, _], _ => exact ⟨rfl, rfl, rfl⟩) ?_
  intro W base args ds p hval0 hA hlt hsz
  have hval : ∀ (j : Nat) t v, Try.f4.params[j]? = some t → args[j]? = some v → Value.okWide Try.prog W .any base t v := hval0
  clear hval0
  replace hA : DataW.TrodAll enc Try.prog W 0 (fun _ => true) true Try.f4.params.toList args.toList ds p := hA
  replace hsz : (DataW.weightsEach Try.prog Try.f4.params.toList ds).all (· ≤ reachBytes) = true := hsz
  rw [Try.params4] at hA hval hsz
  obtain ⟨v0, v1, d0, d1, p0, p1, rfl, rfl, rfl, h0, h1⟩ := trodAll_two hA
  obtain ⟨A0, cap, zs, rfl, _, _, hc⟩ := Opn.open_slice_ints Try.underlying26 Try.underlying3 (by kernel_rfl) (hval 0 26 v0 rfl rfl) h0 (fun x hx => hlt x (List.mem_append_left _ hx))
  obtain ⟨a1, rfl, rfl, rfl, w1⟩ := open_int Try.underlying3 (hval 1 3 v1 rfl rfl) h1
  exact walk A0 cap zs a1 W hc

theorem proved : Rows.StageKnowsSaid :=
  OpenClaim.holds_of_wide 4 Try.f4 rfl rfl rfl rfl rfl rfl rfl ⟨rfl, rfl, rfl, rfl, rfl⟩ rfl rfl rfl rfl rfl (by kernel_rfl) Try.func4 (by kernel_rfl)
    (of_decide_eq_true (by kernel_rfl)) (by unfold Func.isWrapper; first | (rw [if_pos (by decide +kernel)]; kernel_rfl) | (rw [if_neg (by decide +kernel)]; exact ⟨rfl, rfl⟩))
    (fun os started H enc _ => lifted os started H enc)
#print axioms proved

end Go.Proofs.Ytdgeeoanbcbphaa.StKnows
