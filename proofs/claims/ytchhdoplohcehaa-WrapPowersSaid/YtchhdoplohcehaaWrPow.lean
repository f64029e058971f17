/- For every input WrapPowers returns true, and its arguments read as they did. No conditions. -/
import Derived.Test.YtchhdoplohcehaaWrPowP
import Derived.Test.YtchhdoplohcehaaOpen
import Derived.Deep.RegionHeld3
import Derived.Deep.DeepCutAuto
import Derived.Deep.AppendLies
namespace Go.Proofs.Ytchhdoplohcehaa.WrPow
open Go.RowKit Go.Proofs.Ytchhdoplohcehaa.Wr
set_option linter.unusedVariables false
set_option linter.unusedSimpArgs false

theorem ne_nil (a : Addr) (n c : Nat) : (.slice (some a) n c : Value) ≠ .slice none 0 0 := by simp
theorem infoInt : (Try.prog.info? 3).map (fun i => (i.zero, i.size, i.bytes)) = some (some (.int .i64 0), 1, 8) := by kernel_rfl

set_option maxRecDepth 100000 in
set_option maxHeartbeats 1600000 in
theorem walk_full (b o cap : Nat) (zs : List Int) (cut a : Int) (mm nn : Nat) (w : World) (hm : zs.length ≤ 1000) (h0 : 0 < zs.length) (hcap : zs.length ≤ cap) (hb : b < w.heap.size)
    (hc : ∀ j, j < zs.length → w.cell? ⟨b, o + j, none⟩ = some (.int .i64 (zs.getD j 0))) (hmm : mm ≤ 255) (hnn : nn ≤ 255) (ha : -9223372036854775808 ≤ a ∧ a ≤ 9223372036854775807) :
    Calls Try.prog 7 #[.slice (some ⟨b, o, none⟩) zs.length cap, .int .i64 cut, .int .i64 a, .int .u8 (mm : Int), .int .u8 (nn : Int)] w fun e w' => e = .returned (.bool true) ∧ Below w.heap.size w w' := by
  have HC := Lib.hid hc
  have HA := Lib.hid ha
  have hd : decide (1000 < (zs.length : Int)) = false := by simp; omega
  have hd2 : decide (0 < (zs.length : Int)) = true := by simp; omega
  have hpa := powW_add a mm nn
  obtain ⟨p1, hp1⟩ : ∃ S, powW a mm = S := ⟨_, rfl⟩
  obtain ⟨p2, hp2⟩ : ∃ S, powW a nn = S := ⟨_, rfl⟩
  obtain ⟨p12, hp12⟩ : ∃ S, powW a (mm + nn) = S := ⟨_, rfl⟩
  obtain ⟨pq, hpq⟩ : ∃ S, powW a 1000 = S := ⟨_, rfl⟩
  rw [hp1, hp2, hp12] at hpa
  have P1 := Lib.hid (fun w => by have h := power_any a (mm : Int) w; rw [powN_nat mm (by omega), hp1] at h; exact h)
  have P2 := Lib.hid (fun w => by have h := power_any a (nn : Int) w; rw [powN_nat nn (by omega), hp2] at h; exact h)
  have P3 := Lib.hid (fun w => by have h := power_any a ((mm : Int) + (nn : Int)) w; rw [show (mm : Int) + (nn : Int) = ((mm + nn : Nat) : Int) by omega, powN_nat (mm + nn) (by omega), hp12] at h; exact h)
  have P4 := Lib.hid (fun w => by have h := power_any a 1 w; rw [show powN 1 = 1 from rfl, powW_one a HA.out.1 HA.out.2] at h; exact h)
  have P5 := Lib.hid (fun w => by have h := power_any a (-1) w; rw [show powN (-1) = 0 from rfl, show powW a 0 = 1 from rfl] at h; exact h)
  have P6 := Lib.hid (fun w => by have h := power_any a 2000 w; rw [show powN 2000 = 1000 by decide +kernel, hpq] at h; exact h)
  have P7 := Lib.hid (fun w => by have h := power_any a 1000 w; rw [show powN 1000 = 1000 by decide +kernel, hpq] at h; exact h)
  have D2 := Lib.hid (fun w => by
    have h := do_any 5 p1 p2 w
    rw [show doV 5 p1 p2 = wrap64 (p1 * p2) from rfl, show doF 5 p2 = 0 from rfl, hpa] at h; exact h)
  clear hc ha hpa hp1 hp2 hp12 hpq
  go_enter Try.func7, Try.ntmps7
  go_upto_region 8 with (first | (go_at_call 10; refine (works_any _).mono ?_; rintro e w' ⟨rfl, rfl⟩))
  obtain ⟨k, hk, hkv⟩ := cut_k cut zs.length h0 hm
  rw [hkv]
  have HKV := Lib.hid hkv
  clear hkv
  have hb1 : Below w.heap.size w (w.alloc (.cells #[.int .i64 1, .int .i64 2, .int .i64 3] 3)) := (Below.refl _ _).alloc (Nat.le_refl _) _
  generalize w.alloc (.cells #[.int .i64 1, .int .i64 2, .int .i64 3] 3) = w1 at *
  have hbw : b < w1.heap.size := Nat.lt_of_lt_of_le hb hb1.size
  have HC1 := Lib.hid (CellsAt.kept (show CellsAt w b o zs from HC.out) hb1 hb)
  have HC1a := Lib.hid (HC1.out.kept ((Below.refl w1.heap.size w1).alloc (Nat.le_refl _) (.cells #[] 3)) hbw)
  obtain ⟨i0, hi, hz0, hz1, hz2⟩ := info_parts infoInt
  have hl1 : zs.length ≤ 1000 := hm
  go_wp2_with (at_builtin; refine wpList_append_both _ rfl _ _ 29 rfl w1.heap.size 3 i0 (.int .i64 0) 1 8 Try.underlying29 hi hz0 hz1 hz2 rfl (by decide) (.slice (some ⟨w1.heap.size, 0, none⟩) 0 0) 0 _ rfl (owns_empty w1 _ _ _ (Nat.le_refl _)) (ne_nil _ _ _) (some ⟨b, o, none⟩) zs.length cap (zs.map (Value.int .i64)) rfl (by simp) (by simp) HC1a.out.news (ints_one zs) (by unfold maxLen; omega) (by omega) (by simp) ?_)
  intro g capm w2 hown2 hgrow2 hcapm
  have hownm : w2.ownsRow w1.heap.size 3 1 (.slice (some ⟨g, 0, none⟩) zs.length capm) zs.length (zs.map (Value.int .i64)) := by simpa using hown2
  have hb2x : Below w1.heap.size w1 w2 := Below.grown ((Below.refl _ _).alloc (Nat.le_refl _) _) hgrow2 (by simp) (fun j hj => by simp [Value.ownBlock] at hj; omega)
  have HG2 := Lib.hid (CellsAt.owned hownm)
  have hg2 : g < w2.heap.size := (hownm.lt g rfl).2
  have HC2 := Lib.hid (HC1.out.kept hb2x hbw)
  have hbw2 : b < w2.heap.size := Nat.lt_of_lt_of_le hbw hb2x.size
  have hb2 : Below w.heap.size w w2 := hb1.trans (hb2x.mono hb1.size)
  have hcapm' : zs.length ≤ capm := by omega
  have HE2 := Lib.hid (owns_empty w2 w2.heap.size 3 1 (Nat.le_refl _))
  have HC2a := Lib.hid ((HC2.out.kept ((Below.refl w2.heap.size w2).alloc (Nat.le_refl _) (.cells #[] 3)).drew hbw2).drop k)
  clear hown2 hownm hgrow2 HC1 HC1a hb2x hb1 hcapm
  have hk0 : (0 : Int) ≤ (k : Int) := Int.natCast_nonneg _
  have hk1 : (k : Int) ≤ (zs.length : Int) := by omega
  have hk2 : (k : Int) ≤ (cap : Int) := by omega
  have hk3 : (zs.length : Int) ≤ (cap : Int) := by omega
  have hk4 : (k : Int) ≤ (capm : Int) := by omega
  have hk5 : (zs.length : Int) ≤ (capm : Int) := by omega
  have hkc : ¬ cap = k := by omega
  have hkcm : ¬ capm = k := by omega
  go_wp2_with fail
  go_region_held3 (fun w' => True) (trivial)
    (first
      | (refine step_append_both _ (by rfl) (.tmp 36) (.tmp 39) 29 (by rfl) w2.heap.size 3 i0 (.int .i64 0) 1 8 Try.underlying29 hi hz0 hz1 hz2 rfl (by decide) (.slice (some ⟨w2.heap.size, 0, none⟩) 0 0) 0 [] (by rfl) (HE2.out.drew) (ne_nil _ _ _) (some ⟨b, o + k, none⟩) (zs.length - k) (cap - k) ((zs.drop k).map (Value.int .i64)) (by rfl) (by simp) (by simp) HC2a.out.news (ints_one _) (by unfold maxLen; omega) (by omega) (by simp) ?_; intro g3 cap3 w3 hown3 hgrow3 hle3; have HO3 := Lib.hid hown3)
      | (refine step_append_both _ (by rfl) (.tmp 40) (.tmp 43) 29 (by rfl) w2.heap.size 3 i0 (.int .i64 0) 1 8 Try.underlying29 hi hz0 hz1 hz2 rfl (by decide) (.slice (some ⟨g3, 0, none⟩) (0 + (zs.length - k)) cap3) (0 + (zs.length - k)) _ (by rfl) HO3.out (ne_nil _ _ _) (some ⟨b, o, none⟩) k cap ((zs.take k).map (Value.int .i64)) (by rfl) (by simp) (by simp; omega) ((CellsAt.kept HC2.out (Below.grown ((Below.refl w2.heap.size w2).alloc (Nat.le_refl _) (.cells #[] 3)).drew hgrow3 (by simp) (fun j hj => by simp [Value.ownBlock] at hj; omega)) hbw2).take k).news (ints_one _) (by unfold maxLen; omega) (by omega) (by have := hgrow3.size; simp at this; omega) ?_; intro g4 cap4 w4 hown4 hgrow4 hle4))
  have hb3 : Below w2.heap.size w2 w3 := Below.grown ((Below.refl w2.heap.size w2).alloc (Nat.le_refl _) (.cells #[] 3)).drew hgrow3 (by simp) (fun j hj => by simp [Value.ownBlock] at hj; omega)
  have hb4 : Below w2.heap.size w2 w4 := by first | exact Below.grown hb3 hgrow4 hb3.size (fun j hj => (HO3.out.lt j hj).1) | exact Below.grown hb3.drew hgrow4 hb3.size (fun j hj => (HO3.out.lt j hj).1)
  have hownt : w4.ownsRow w2.heap.size 3 1 (.slice (some ⟨g4, 0, none⟩) (0 + (zs.length - k) + k) cap4) (0 + (zs.length - k) + k) ((zs.drop k ++ zs.take k).map (Value.int .i64)) := by
    rw [List.map_append]; simpa using hown4
  have hlen4 : 0 + (zs.length - k) + k = (zs.drop k ++ zs.take k).length := by simp; omega
  have HT4 := Lib.hid (CellsAt.owned hownt)
  have HM4 := Lib.hid (HG2.out.kept hb4 hg2)
  have hbe : Below w.heap.size w w4 := hb2.trans (hb4.mono hb2.size)
  have hS := sumW_cut zs k
  obtain ⟨S, hSS⟩ : ∃ S, sumW zs = S := ⟨_, rfl⟩
  obtain ⟨s1, hs1⟩ : ∃ S, sumW (zs.take k) = S := ⟨_, rfl⟩
  obtain ⟨s2, hs2⟩ : ∃ S, sumW (zs.drop k) = S := ⟨_, rfl⟩
  rw [hSS, hs1, hs2] at hS
  have C1 := Lib.hid (fun q => by
    have h := sum_any (some ⟨g, 0, none⟩) k capm (zs.take k) (w4.drewN q) (by rw [List.length_take]; omega) (by rw [List.length_take]; omega) (HM4.out.take k).rd
    rw [hs1] at h; exact h)
  have C2 := Lib.hid (fun q => by
    have h := sum_any (some ⟨g, k, none⟩) (zs.length - k) (capm - k) (zs.drop k) (w4.drewN q) (by rw [List.length_drop]) (by rw [List.length_drop]; omega) (by have h := (HM4.out.drop k).rd; rw [Nat.zero_add] at h; exact h)
    rw [hs2] at h; exact h)
  have C3 := Lib.hid (fun w => by
    have h := do_any 3 s1 s2 w
    rw [show doV 3 s1 s2 = wrap64 (s1 + s2) from rfl, show doF 3 s2 = 0 from rfl, hS] at h; exact h)
  have C4 := Lib.hid (fun q => by
    have h := sum_any (some ⟨g, 0, none⟩) zs.length capm zs (w4.drewN q) rfl (by omega) HM4.out.rd
    rw [hSS] at h; exact h)
  have C5 := Lib.hid (fun q => by
    have h := sum_any (some ⟨g4, 0, none⟩) (zs.length - k + k) cap4 (zs.drop k ++ zs.take k) (w4.drewN q) (by rw [← hlen4]; omega) (by rw [← hlen4]; omega) HT4.out.rd
    rw [sumW_turn, hSS] at h; exact h)
  clear hS hSS hs1 hs2 hownt hown4 hgrow4 hown3 hgrow3 hle3 hle4 hlen4 HE2 HC2a HC2 HG2
  go_wp2_with fail
  go_quiet ((first | (go_at_call_of 12 (Value.slice (some ⟨g, 0, none⟩) k capm); exact quiet_same (C1.out _)) | (go_at_call_of 12 (Value.slice (some ⟨g, k, none⟩) (zs.length - k) (capm - k)); exact quiet_same (C2.out _)) | (go_at_call 8; exact quiet_same (C3.out _))))
  clear C1 C2 C3 HM4 HT4 HO3 hb3 hb4 hb2
  go_wp2_with fail
  refine (P1.out _).mono ?_
  rintro e w' ⟨rfl, rfl⟩
  go_wp2_with fail
  refine (P2.out _).mono ?_
  rintro e w' ⟨rfl, rfl⟩
  go_wp2_with fail
  refine (D2.out _).mono ?_
  rintro e w' ⟨rfl, rfl⟩
  go_wp2_with fail
  refine (C4.out _).mono ?_
  rintro e w' ⟨rfl, rfl⟩
  go_wp2_with fail
  refine (C5.out _).mono ?_
  rintro e w' ⟨rfl, rfl⟩
  go_wp2_with fail
  refine (P3.out _).mono ?_
  rintro e w' ⟨rfl, rfl⟩
  go_wp2_with fail
  refine (P4.out _).mono ?_
  rintro e w' ⟨rfl, rfl⟩
  go_wp2_with fail
  refine (P5.out _).mono ?_
  rintro e w' ⟨rfl, rfl⟩
  go_wp2_with fail
  refine (P6.out _).mono ?_
  rintro e w' ⟨rfl, rfl⟩
  go_wp2_with fail
  refine (P7.out _).mono ?_
  rintro e w' ⟨rfl, rfl⟩
  go_wp2_with fail
  go_ret
  exact ⟨rfl, by repeat (first | exact hbe | exact below_drewN hbe _)⟩

/-! ### an empty list -/
set_option maxRecDepth 100000 in
set_option maxHeartbeats 1600000 in
theorem walk_nil (cut a : Int) (mm nn : Nat) (w : World) (hmm : mm ≤ 255) (hnn : nn ≤ 255) (ha : -9223372036854775808 ≤ a ∧ a ≤ 9223372036854775807) :
    Calls Try.prog 7 #[.slice none 0 0, .int .i64 cut, .int .i64 a, .int .u8 (mm : Int), .int .u8 (nn : Int)] w fun e w' => e = .returned (.bool true) ∧ Below w.heap.size w w' := by
  have HA := Lib.hid ha
  have hpa := powW_add a mm nn
  obtain ⟨p1, hp1⟩ : ∃ S, powW a mm = S := ⟨_, rfl⟩
  obtain ⟨p2, hp2⟩ : ∃ S, powW a nn = S := ⟨_, rfl⟩
  obtain ⟨p12, hp12⟩ : ∃ S, powW a (mm + nn) = S := ⟨_, rfl⟩
  obtain ⟨pq, hpq⟩ : ∃ S, powW a 1000 = S := ⟨_, rfl⟩
  rw [hp1, hp2, hp12] at hpa
  have P1 := Lib.hid (fun w => by have h := power_any a (mm : Int) w; rw [powN_nat mm (by omega), hp1] at h; exact h)
  have P2 := Lib.hid (fun w => by have h := power_any a (nn : Int) w; rw [powN_nat nn (by omega), hp2] at h; exact h)
  have P3 := Lib.hid (fun w => by have h := power_any a ((mm : Int) + (nn : Int)) w; rw [show (mm : Int) + (nn : Int) = ((mm + nn : Nat) : Int) by omega, powN_nat (mm + nn) (by omega), hp12] at h; exact h)
  have P4 := Lib.hid (fun w => by have h := power_any a 1 w; rw [show powN 1 = 1 from rfl, powW_one a HA.out.1 HA.out.2] at h; exact h)
  have P5 := Lib.hid (fun w => by have h := power_any a (-1) w; rw [show powN (-1) = 0 from rfl, show powW a 0 = 1 from rfl] at h; exact h)
  have P6 := Lib.hid (fun w => by have h := power_any a 2000 w; rw [show powN 2000 = 1000 by decide +kernel, hpq] at h; exact h)
  have P7 := Lib.hid (fun w => by have h := power_any a 1000 w; rw [show powN 1000 = 1000 by decide +kernel, hpq] at h; exact h)
  have D2 := Lib.hid (fun w => by
    have h := do_any 5 p1 p2 w
    rw [show doV 5 p1 p2 = wrap64 (p1 * p2) from rfl, show doF 5 p2 = 0 from rfl, hpa] at h; exact h)
  clear ha hpa hp1 hp2 hp12 hpq
  obtain ⟨i0, hi, hz0, hz1, hz2⟩ := info_parts infoInt
  go_enter Try.func7, Try.ntmps7
  go_upto_region 8 with (first | (go_at_call 10; refine (works_any _).mono ?_; rintro e w' ⟨rfl, rfl⟩))
  have hb1 : Below w.heap.size w (w.alloc (.cells #[.int .i64 1, .int .i64 2, .int .i64 3] 3)) := (Below.refl _ _).alloc (Nat.le_refl _) _
  generalize w.alloc (.cells #[.int .i64 1, .int .i64 2, .int .i64 3] 3) = w1 at *
  go_wp2_with (at_builtin; refine wpList_append_both _ rfl _ _ 29 rfl w1.heap.size 3 i0 (.int .i64 0) 1 8 Try.underlying29 hi hz0 hz1 hz2 rfl (by decide) (.slice (some ⟨w1.heap.size, 0, none⟩) 0 0) 0 _ rfl (owns_empty w1 _ _ _ (Nat.le_refl _)) (ne_nil _ _ _) none 0 0 [] rfl (by simp) rfl (by simp) (by simp) (by unfold maxLen; omega) (by omega) (by simp) ?_)
  intro g capm w2 hown2 hgrow2
  have hb2x : Below w1.heap.size w1 w2 := Below.grown ((Below.refl _ _).alloc (Nat.le_refl _) _) hgrow2 (by simp) (fun j hj => by simp [Value.ownBlock] at hj; omega)
  have hb2 : Below w.heap.size w w2 := hb1.trans (hb2x.mono hb1.size)
  have HE2 := Lib.hid (owns_empty w2 w2.heap.size 3 1 (Nat.le_refl _))
  have hcc : (0 : Int) ≤ (capm : Int) := by omega
  have hcc2 : (0 : Int) ≤ ((0 : Nat) : Int) := by omega
  clear hown2 hgrow2 hb2x hb1
  go_wp2_with fail
  go_region_held3 (fun w' => True) (trivial)
    (first
      | (refine step_append_both _ (by rfl) (.tmp 36) (.tmp 39) 29 (by rfl) w2.heap.size 3 i0 (.int .i64 0) 1 8 Try.underlying29 hi hz0 hz1 hz2 rfl (by decide) (.slice (some ⟨w2.heap.size, 0, none⟩) 0 0) 0 [] (by rfl) (HE2.out.drew) (ne_nil _ _ _) none 0 0 [] (by rfl) (by simp) (by rfl) (by simp) (by simp) (by unfold maxLen; omega) (by omega) (by simp) ?_; intro g3 cap3 w3 hown3 hgrow3 hle3; have HO3 := Lib.hid hown3)
      | (refine step_append_both _ (by rfl) (.tmp 40) (.tmp 43) 29 (by rfl) w2.heap.size 3 i0 (.int .i64 0) 1 8 Try.underlying29 hi hz0 hz1 hz2 rfl (by decide) (.slice (some ⟨g3, 0, none⟩) (0 + 0) cap3) (0 + 0) _ (by rfl) HO3.out (ne_nil _ _ _) none 0 0 [] (by rfl) (by simp) (by rfl) (by simp) (by simp) (by unfold maxLen; omega) (by omega) (by have := hgrow3.size; simp at this; omega) ?_; intro g4 cap4 w4 hown4 hgrow4 hle4))
  have hb3 : Below w2.heap.size w2 w3 := Below.grown ((Below.refl w2.heap.size w2).alloc (Nat.le_refl _) (.cells #[] 3)).drew hgrow3 (by simp) (fun j hj => by simp [Value.ownBlock] at hj; omega)
  have hb4 : Below w2.heap.size w2 w4 := by first | exact Below.grown hb3 hgrow4 hb3.size (fun j hj => (HO3.out.lt j hj).1) | exact Below.grown hb3.drew hgrow4 hb3.size (fun j hj => (HO3.out.lt j hj).1)
  have hbe : Below w.heap.size w w4 := hb2.trans (hb4.mono hb2.size)
  have C1 := Lib.hid (fun A c w => sum_none A c w)
  have C3 := Lib.hid (fun w => by
    have h := do_any 3 0 0 w
    rw [show doV 3 0 0 = 0 by decide +kernel, show doF 3 0 = 0 from rfl] at h; exact h)
  clear hown4 hgrow4 hown3 hgrow3 hle3 hle4 HE2 HO3 hb3 hb4 hb2
  go_wp2_with fail
  go_quiet ((first | (go_at_call 12; exact quiet_same (C1.out _ _ _)) | (go_at_call 8; exact quiet_same (C3.out _))))
  clear C3
  go_wp2_with fail
  refine (P1.out _).mono ?_
  rintro e w' ⟨rfl, rfl⟩
  go_wp2_with fail
  refine (P2.out _).mono ?_
  rintro e w' ⟨rfl, rfl⟩
  go_wp2_with fail
  refine (D2.out _).mono ?_
  rintro e w' ⟨rfl, rfl⟩
  go_wp2_with fail
  refine (C1.out _ _ _).mono ?_
  rintro e w' ⟨rfl, rfl⟩
  go_wp2_with fail
  refine (C1.out _ _ _).mono ?_
  rintro e w' ⟨rfl, rfl⟩
  go_wp2_with fail
  refine (P3.out _).mono ?_
  rintro e w' ⟨rfl, rfl⟩
  go_wp2_with fail
  refine (P4.out _).mono ?_
  rintro e w' ⟨rfl, rfl⟩
  go_wp2_with fail
  refine (P5.out _).mono ?_
  rintro e w' ⟨rfl, rfl⟩
  go_wp2_with fail
  refine (P6.out _).mono ?_
  rintro e w' ⟨rfl, rfl⟩
  go_wp2_with fail
  refine (P7.out _).mono ?_
  rintro e w' ⟨rfl, rfl⟩
  go_wp2_with fail
  go_ret
  exact ⟨rfl, by repeat (first | exact hbe | exact below_drewN hbe _)⟩

set_option maxRecDepth 100000 in
set_option maxHeartbeats 1600000 in
theorem walk_cap0 (ad : Addr) (cut a : Int) (mm nn : Nat) (w : World) (hmm : mm ≤ 255) (hnn : nn ≤ 255) (ha : -9223372036854775808 ≤ a ∧ a ≤ 9223372036854775807) :
    Calls Try.prog 7 #[.slice (some ad) 0 0, .int .i64 cut, .int .i64 a, .int .u8 (mm : Int), .int .u8 (nn : Int)] w fun e w' => e = .returned (.bool true) ∧ Below w.heap.size w w' := by
  have HA := Lib.hid ha
  have hpa := powW_add a mm nn
  obtain ⟨p1, hp1⟩ : ∃ S, powW a mm = S := ⟨_, rfl⟩
  obtain ⟨p2, hp2⟩ : ∃ S, powW a nn = S := ⟨_, rfl⟩
  obtain ⟨p12, hp12⟩ : ∃ S, powW a (mm + nn) = S := ⟨_, rfl⟩
  obtain ⟨pq, hpq⟩ : ∃ S, powW a 1000 = S := ⟨_, rfl⟩
  rw [hp1, hp2, hp12] at hpa
  have P1 := Lib.hid (fun w => by have h := power_any a (mm : Int) w; rw [powN_nat mm (by omega), hp1] at h; exact h)
  have P2 := Lib.hid (fun w => by have h := power_any a (nn : Int) w; rw [powN_nat nn (by omega), hp2] at h; exact h)
  have P3 := Lib.hid (fun w => by have h := power_any a ((mm : Int) + (nn : Int)) w; rw [show (mm : Int) + (nn : Int) = ((mm + nn : Nat) : Int) by omega, powN_nat (mm + nn) (by omega), hp12] at h; exact h)
  have P4 := Lib.hid (fun w => by have h := power_any a 1 w; rw [show powN 1 = 1 from rfl, powW_one a HA.out.1 HA.out.2] at h; exact h)
  have P5 := Lib.hid (fun w => by have h := power_any a (-1) w; rw [show powN (-1) = 0 from rfl, show powW a 0 = 1 from rfl] at h; exact h)
  have P6 := Lib.hid (fun w => by have h := power_any a 2000 w; rw [show powN 2000 = 1000 by decide +kernel, hpq] at h; exact h)
  have P7 := Lib.hid (fun w => by have h := power_any a 1000 w; rw [show powN 1000 = 1000 by decide +kernel, hpq] at h; exact h)
  have D2 := Lib.hid (fun w => by
    have h := do_any 5 p1 p2 w
    rw [show doV 5 p1 p2 = wrap64 (p1 * p2) from rfl, show doF 5 p2 = 0 from rfl, hpa] at h; exact h)
  clear ha hpa hp1 hp2 hp12 hpq
  obtain ⟨i0, hi, hz0, hz1, hz2⟩ := info_parts infoInt
  go_enter Try.func7, Try.ntmps7
  go_upto_region 8 with (first | (go_at_call 10; refine (works_any _).mono ?_; rintro e w' ⟨rfl, rfl⟩))
  have hb1 : Below w.heap.size w (w.alloc (.cells #[.int .i64 1, .int .i64 2, .int .i64 3] 3)) := (Below.refl _ _).alloc (Nat.le_refl _) _
  generalize w.alloc (.cells #[.int .i64 1, .int .i64 2, .int .i64 3] 3) = w1 at *
  go_wp2_with (at_builtin; refine wpList_append_both _ rfl _ _ 29 rfl w1.heap.size 3 i0 (.int .i64 0) 1 8 Try.underlying29 hi hz0 hz1 hz2 rfl (by decide) (.slice (some ⟨w1.heap.size, 0, none⟩) 0 0) 0 _ rfl (owns_empty w1 _ _ _ (Nat.le_refl _)) (ne_nil _ _ _) (some ad) 0 0 [] rfl (by simp) rfl (by simp) (by simp) (by unfold maxLen; omega) (by omega) (by simp) ?_)
  intro g capm w2 hown2 hgrow2
  have hb2x : Below w1.heap.size w1 w2 := Below.grown ((Below.refl _ _).alloc (Nat.le_refl _) _) hgrow2 (by simp) (fun j hj => by simp [Value.ownBlock] at hj; omega)
  have hb2 : Below w.heap.size w w2 := hb1.trans (hb2x.mono hb1.size)
  have HE2 := Lib.hid (owns_empty w2 w2.heap.size 3 1 (Nat.le_refl _))
  have hcc : (0 : Int) ≤ (capm : Int) := by omega
  have hcc2 : (0 : Int) ≤ ((0 : Nat) : Int) := by omega
  clear hown2 hgrow2 hb2x hb1
  go_wp2_with fail
  go_region_held3 (fun w' => True) (trivial)
    (first
      | (refine step_append_both _ (by rfl) (.tmp 36) (.tmp 39) 29 (by rfl) w2.heap.size 3 i0 (.int .i64 0) 1 8 Try.underlying29 hi hz0 hz1 hz2 rfl (by decide) (.slice (some ⟨w2.heap.size, 0, none⟩) 0 0) 0 [] (by rfl) (HE2.out.drew) (ne_nil _ _ _) (some ad) 0 0 [] (by rfl) (by simp) (by rfl) (by simp) (by simp) (by unfold maxLen; omega) (by omega) (by simp) ?_; intro g3 cap3 w3 hown3 hgrow3 hle3; have HO3 := Lib.hid hown3)
      | (refine step_append_both _ (by rfl) (.tmp 40) (.tmp 43) 29 (by rfl) w2.heap.size 3 i0 (.int .i64 0) 1 8 Try.underlying29 hi hz0 hz1 hz2 rfl (by decide) (.slice (some ⟨g3, 0, none⟩) (0 + 0) cap3) (0 + 0) _ (by rfl) HO3.out (ne_nil _ _ _) (some ad) 0 0 [] (by rfl) (by simp) (by rfl) (by simp) (by simp) (by unfold maxLen; omega) (by omega) (by have := hgrow3.size; simp at this; omega) ?_; intro g4 cap4 w4 hown4 hgrow4 hle4))
  have hb3 : Below w2.heap.size w2 w3 := Below.grown ((Below.refl w2.heap.size w2).alloc (Nat.le_refl _) (.cells #[] 3)).drew hgrow3 (by simp) (fun j hj => by simp [Value.ownBlock] at hj; omega)
  have hb4 : Below w2.heap.size w2 w4 := by first | exact Below.grown hb3 hgrow4 hb3.size (fun j hj => (HO3.out.lt j hj).1) | exact Below.grown hb3.drew hgrow4 hb3.size (fun j hj => (HO3.out.lt j hj).1)
  have hbe : Below w.heap.size w w4 := hb2.trans (hb4.mono hb2.size)
  have C1 := Lib.hid (fun A c w => sum_none A c w)
  have C3 := Lib.hid (fun w => by
    have h := do_any 3 0 0 w
    rw [show doV 3 0 0 = 0 by decide +kernel, show doF 3 0 = 0 from rfl] at h; exact h)
  clear hown4 hgrow4 hown3 hgrow3 hle3 hle4 HE2 HO3 hb3 hb4 hb2
  go_wp2_with fail
  go_quiet ((first | (go_at_call 12; exact quiet_same (C1.out _ _ _)) | (go_at_call 8; exact quiet_same (C3.out _))))
  clear C3
  go_wp2_with fail
  refine (P1.out _).mono ?_
  rintro e w' ⟨rfl, rfl⟩
  go_wp2_with fail
  refine (P2.out _).mono ?_
  rintro e w' ⟨rfl, rfl⟩
  go_wp2_with fail
  refine (D2.out _).mono ?_
  rintro e w' ⟨rfl, rfl⟩
  go_wp2_with fail
  refine (C1.out _ _ _).mono ?_
  rintro e w' ⟨rfl, rfl⟩
  go_wp2_with fail
  refine (C1.out _ _ _).mono ?_
  rintro e w' ⟨rfl, rfl⟩
  go_wp2_with fail
  refine (P3.out _).mono ?_
  rintro e w' ⟨rfl, rfl⟩
  go_wp2_with fail
  refine (P4.out _).mono ?_
  rintro e w' ⟨rfl, rfl⟩
  go_wp2_with fail
  refine (P5.out _).mono ?_
  rintro e w' ⟨rfl, rfl⟩
  go_wp2_with fail
  refine (P6.out _).mono ?_
  rintro e w' ⟨rfl, rfl⟩
  go_wp2_with fail
  refine (P7.out _).mono ?_
  rintro e w' ⟨rfl, rfl⟩
  go_wp2_with fail
  go_ret
  exact ⟨rfl, by repeat (first | exact hbe | exact below_drewN hbe _)⟩

set_option maxRecDepth 100000 in
set_option maxHeartbeats 1600000 in
theorem walk_some (ad : Addr) (cap : Nat) (cut a : Int) (mm nn : Nat) (w : World) (hcap : ¬ cap = 0) (hmm : mm ≤ 255) (hnn : nn ≤ 255) (ha : -9223372036854775808 ≤ a ∧ a ≤ 9223372036854775807) :
    Calls Try.prog 7 #[.slice (some ad) 0 cap, .int .i64 cut, .int .i64 a, .int .u8 (mm : Int), .int .u8 (nn : Int)] w fun e w' => e = .returned (.bool true) ∧ Below w.heap.size w w' := by
  have HA := Lib.hid ha
  have hpa := powW_add a mm nn
  obtain ⟨p1, hp1⟩ : ∃ S, powW a mm = S := ⟨_, rfl⟩
  obtain ⟨p2, hp2⟩ : ∃ S, powW a nn = S := ⟨_, rfl⟩
  obtain ⟨p12, hp12⟩ : ∃ S, powW a (mm + nn) = S := ⟨_, rfl⟩
  obtain ⟨pq, hpq⟩ : ∃ S, powW a 1000 = S := ⟨_, rfl⟩
  rw [hp1, hp2, hp12] at hpa
  have P1 := Lib.hid (fun w => by have h := power_any a (mm : Int) w; rw [powN_nat mm (by omega), hp1] at h; exact h)
  have P2 := Lib.hid (fun w => by have h := power_any a (nn : Int) w; rw [powN_nat nn (by omega), hp2] at h; exact h)
  have P3 := Lib.hid (fun w => by have h := power_any a ((mm : Int) + (nn : Int)) w; rw [show (mm : Int) + (nn : Int) = ((mm + nn : Nat) : Int) by omega, powN_nat (mm + nn) (by omega), hp12] at h; exact h)
  have P4 := Lib.hid (fun w => by have h := power_any a 1 w; rw [show powN 1 = 1 from rfl, powW_one a HA.out.1 HA.out.2] at h; exact h)
  have P5 := Lib.hid (fun w => by have h := power_any a (-1) w; rw [show powN (-1) = 0 from rfl, show powW a 0 = 1 from rfl] at h; exact h)
  have P6 := Lib.hid (fun w => by have h := power_any a 2000 w; rw [show powN 2000 = 1000 by decide +kernel, hpq] at h; exact h)
  have P7 := Lib.hid (fun w => by have h := power_any a 1000 w; rw [show powN 1000 = 1000 by decide +kernel, hpq] at h; exact h)
  have D2 := Lib.hid (fun w => by
    have h := do_any 5 p1 p2 w
    rw [show doV 5 p1 p2 = wrap64 (p1 * p2) from rfl, show doF 5 p2 = 0 from rfl, hpa] at h; exact h)
  clear ha hpa hp1 hp2 hp12 hpq
  obtain ⟨i0, hi, hz0, hz1, hz2⟩ := info_parts infoInt
  go_enter Try.func7, Try.ntmps7
  go_upto_region 8 with (first | (go_at_call 10; refine (works_any _).mono ?_; rintro e w' ⟨rfl, rfl⟩))
  have hb1 : Below w.heap.size w (w.alloc (.cells #[.int .i64 1, .int .i64 2, .int .i64 3] 3)) := (Below.refl _ _).alloc (Nat.le_refl _) _
  generalize w.alloc (.cells #[.int .i64 1, .int .i64 2, .int .i64 3] 3) = w1 at *
  go_wp2_with (at_builtin; refine wpList_append_both _ rfl _ _ 29 rfl w1.heap.size 3 i0 (.int .i64 0) 1 8 Try.underlying29 hi hz0 hz1 hz2 rfl (by decide) (.slice (some ⟨w1.heap.size, 0, none⟩) 0 0) 0 _ rfl (owns_empty w1 _ _ _ (Nat.le_refl _)) (ne_nil _ _ _) (some ad) 0 cap [] rfl (by simp) rfl (by simp) (by simp) (by unfold maxLen; omega) (by omega) (by simp) ?_)
  intro g capm w2 hown2 hgrow2
  have hb2x : Below w1.heap.size w1 w2 := Below.grown ((Below.refl _ _).alloc (Nat.le_refl _) _) hgrow2 (by simp) (fun j hj => by simp [Value.ownBlock] at hj; omega)
  have hb2 : Below w.heap.size w w2 := hb1.trans (hb2x.mono hb1.size)
  have HE2 := Lib.hid (owns_empty w2 w2.heap.size 3 1 (Nat.le_refl _))
  have hcc : (0 : Int) ≤ (capm : Int) := by omega
  have hcc2 : (0 : Int) ≤ ((cap : Nat) : Int) := by omega
  clear hown2 hgrow2 hb2x hb1
  go_wp2_with fail
  go_region_held3 (fun w' => True) (trivial)
    (first
      | (refine step_append_both _ (by rfl) (.tmp 36) (.tmp 39) 29 (by rfl) w2.heap.size 3 i0 (.int .i64 0) 1 8 Try.underlying29 hi hz0 hz1 hz2 rfl (by decide) (.slice (some ⟨w2.heap.size, 0, none⟩) 0 0) 0 [] (by rfl) (HE2.out.drew) (ne_nil _ _ _) (some ad) 0 cap [] (by rfl) (by simp) (by rfl) (by simp) (by simp) (by unfold maxLen; omega) (by omega) (by simp) ?_; intro g3 cap3 w3 hown3 hgrow3 hle3; have HO3 := Lib.hid hown3)
      | (refine step_append_both _ (by rfl) (.tmp 40) (.tmp 43) 29 (by rfl) w2.heap.size 3 i0 (.int .i64 0) 1 8 Try.underlying29 hi hz0 hz1 hz2 rfl (by decide) (.slice (some ⟨g3, 0, none⟩) (0 + 0) cap3) (0 + 0) _ (by rfl) HO3.out (ne_nil _ _ _) (some ad) 0 cap [] (by rfl) (by simp) (by rfl) (by simp) (by simp) (by unfold maxLen; omega) (by omega) (by have := hgrow3.size; simp at this; omega) ?_; intro g4 cap4 w4 hown4 hgrow4 hle4))
  have hb3 : Below w2.heap.size w2 w3 := Below.grown ((Below.refl w2.heap.size w2).alloc (Nat.le_refl _) (.cells #[] 3)).drew hgrow3 (by simp) (fun j hj => by simp [Value.ownBlock] at hj; omega)
  have hb4 : Below w2.heap.size w2 w4 := by first | exact Below.grown hb3 hgrow4 hb3.size (fun j hj => (HO3.out.lt j hj).1) | exact Below.grown hb3.drew hgrow4 hb3.size (fun j hj => (HO3.out.lt j hj).1)
  have hbe : Below w.heap.size w w4 := hb2.trans (hb4.mono hb2.size)
  have C1 := Lib.hid (fun A c w => sum_none A c w)
  have C3 := Lib.hid (fun w => by
    have h := do_any 3 0 0 w
    rw [show doV 3 0 0 = 0 by decide +kernel, show doF 3 0 = 0 from rfl] at h; exact h)
  clear hown4 hgrow4 hown3 hgrow3 hle3 hle4 HE2 HO3 hb3 hb4 hb2
  go_wp2_with fail
  go_quiet ((first | (go_at_call 12; exact quiet_same (C1.out _ _ _)) | (go_at_call 8; exact quiet_same (C3.out _))))
  clear C3
  go_wp2_with fail
  refine (P1.out _).mono ?_
  rintro e w' ⟨rfl, rfl⟩
  go_wp2_with fail
  refine (P2.out _).mono ?_
  rintro e w' ⟨rfl, rfl⟩
  go_wp2_with fail
  refine (D2.out _).mono ?_
  rintro e w' ⟨rfl, rfl⟩
  go_wp2_with fail
  refine (C1.out _ _ _).mono ?_
  rintro e w' ⟨rfl, rfl⟩
  go_wp2_with fail
  refine (C1.out _ _ _).mono ?_
  rintro e w' ⟨rfl, rfl⟩
  go_wp2_with fail
  refine (P3.out _).mono ?_
  rintro e w' ⟨rfl, rfl⟩
  go_wp2_with fail
  refine (P4.out _).mono ?_
  rintro e w' ⟨rfl, rfl⟩
  go_wp2_with fail
  refine (P5.out _).mono ?_
  rintro e w' ⟨rfl, rfl⟩
  go_wp2_with fail
  refine (P6.out _).mono ?_
  rintro e w' ⟨rfl, rfl⟩
  go_wp2_with fail
  refine (P7.out _).mono ?_
  rintro e w' ⟨rfl, rfl⟩
  go_wp2_with fail
  go_ret
  exact ⟨rfl, by repeat (first | exact hbe | exact below_drewN hbe _)⟩


theorem walk_long (A : Option Addr) (k cap : Nat) (cut a m n : Int) (w : World) (h : 1000 < (k : Int)) :
    Calls Try.prog 7 #[.slice A k cap, .int .i64 cut, .int .i64 a, .int .u8 m, .int .u8 n] w fun e w' => e = .returned (.bool true) ∧ Below w.heap.size w w' := by
  have hd : decide (1000 < (k : Int)) = true := by simp [h]
  go_enter Try.func7, Try.ntmps7
  go_wp2_with (first | (go_at_call 10; refine (works_any _).mono ?_; rintro e w' ⟨rfl, rfl⟩))
  go_ret
  exact ⟨rfl, (Below.refl _ _).alloc (Nat.le_refl _) _⟩

section
open Go.ChangeShapes Go.WideShapes Go.ChangeAt
theorem trodAll_five {H : Type} {enc : TypeId × Value → H} {P : Program} {w : World} {base : Nat} {spare : Nat → Bool} {held : Bool} {t t' t'' t3 t4 : TypeId} {args : Array Value} {ds : List (DataW H)} {ps : List MemPlace} (h : DataW.TrodAll enc P w base spare held [t, t', t'', t3, t4] args.toList ds ps) :
    ∃ v v' v'' v3 v4 d d' d'' d3 d4 p p' p'' p3 p4, args = #[v, v', v'', v3, v4] ∧ ds = [d, d', d'', d3, d4] ∧ ps = p ++ p' ++ p'' ++ p3 ++ p4 ∧ DataW.Trod enc P w base spare held t v d p ∧ DataW.Trod enc P w base spare held t' v' d' p' ∧ DataW.Trod enc P w base spare held t'' v'' d'' p'' ∧ DataW.Trod enc P w base spare held t3 v3 d3 p3 ∧ DataW.Trod enc P w base spare held t4 v4 d4 p4 := by
  obtain ⟨v, vs, d, ds', p, q, hargs, rfl, rfl, hd, hrest⟩ := trodAll_cons h
  obtain ⟨v', vs', d', ds'', p', q', rfl, rfl, rfl, hd', hrest'⟩ := trodAll_cons hrest
  obtain ⟨v'', vs'', d'', ds''', p'', q'', rfl, rfl, rfl, hd'', hrest''⟩ := trodAll_cons hrest'
  obtain ⟨v3, vs3, d3, ds3, p3, q3, rfl, rfl, rfl, hd3, hrest3⟩ := trodAll_cons hrest''
  obtain ⟨v4, vs4, d4, ds4, p4, q4, rfl, rfl, rfl, hd4, hrest4⟩ := trodAll_cons hrest3
  obtain ⟨rfl, rfl, rfl⟩ := trodAll_nil hrest4
  exact ⟨v, v', v'', v3, v4, d, d', d'', d3, d4, p, p', p'', p3, p4, by cases args; simp_all, rfl, by simp, hd, hd', hd'', hd3, hd4⟩

theorem open_slice_ints2 {H : Type} {enc : TypeId × Value → H} {P : Program} {W : World} {base : Nat} {T E : TypeId} {k : IntKind} {v : Value} {d : DataW H} {p : List MemPlace}
    (hT : P.underlying T = some (.slice E)) (hE : P.underlying E = some (.int k)) (hc : P.cellsOf E = 1)
    (hv : Value.okWide P W .any base T v) (hd : DataW.Trod enc P W 0 (fun _ => true) true T v d p) (hlt : ∀ x ∈ p, x.block < W.heap.size) :
    ∃ (A : Option Addr) (cap : Nat) (zs : List Int), v = .slice A zs.length cap ∧ zs.length ≤ cap ∧ (A = none → zs.length = 0 ∧ cap = 0) ∧
      (0 < zs.length → ∃ b o, A = some ⟨b, o, none⟩ ∧ b < W.heap.size ∧ ∀ j, j < zs.length → W.cell? ⟨b, o + j, none⟩ = some (.int k (zs.getD j 0))) := by
  obtain ⟨a0, len, cap, rfl⟩ := okWide_slice hT hv
  obtain ⟨fuel, hf⟩ := hd
  rcases open_ints hT hE hc hf with ⟨hcs, hx⟩ | ⟨a, len', cap', zs, hcs, _, hl, hm, hz, hx, hcell, hwz⟩
  · simp [Value.cells] at hcs
    obtain ⟨rfl, rfl, rfl⟩ := hcs
    exact ⟨none, 0, [], rfl, Nat.zero_le _, fun _ => ⟨rfl, rfl⟩, fun h => absurd h (by simp)⟩
  · simp [Value.cells] at hcs
    obtain ⟨rfl, rfl, rfl⟩ := hcs
    simp only [if_true] at hz
    have hlen : (zs.take len).length = len := by rw [List.length_take]; omega
    refine ⟨some a, cap, zs.take len, by rw [hlen], by rw [hlen]; omega, fun h => (Option.some_ne_none _ h).elim, fun h0 => ?_⟩
    rw [hlen] at h0 ⊢
    obtain ⟨b, off, spot⟩ := a
    have hspot : spot = none := by simpa [Addr.add] using World.cell?_spot (hcell 0 (by omega))
    subst hspot
    have hp : p = MemPlace.row ⟨b, off, none⟩ zs.length := by simpa using congrArg Prod.snd hx
    refine ⟨b, off, rfl, hlt (.cell b off) (by rw [hp]; exact MemPlace.mem_row.2 ⟨0, by omega, by simp⟩), fun j hj => ?_⟩
    have h1 := hcell j (by omega)
    have e : (⟨b, off, none⟩ : Addr).add j = ⟨b, off + j, none⟩ := by unfold Addr.add; split <;> simp_all
    rw [e] at h1
    rw [h1]
    simp [List.getD, hj]
end

open Go.ChangeShapes Go.WideShapes Go.ChangeAt

set_option maxRecDepth 100000 in
theorem lifted (os : Os) (started : os.Started) (H : Type) (enc : TypeId × Value → H) :
    ReturnsInHanded {} Try.checked os 7 .any (Rows.wrapPowersSpec.pre6 enc Try.prog Try.f7 Rows.wrapPowersRow.domain false) (Rows.wrapPowersSpec.post enc Try.prog Try.f7 false true false false) := by
  refine Frame.law_lift (C := Try.checked) Frame.own started (by kernel_rfl) Try.func7 Frame.laidOut
    (ChangeSpec.witness6 (enc := enc) (C := Try.checked) false ⟨#[], #[.slice none 0 0, .int .i64 0, .int .i64 0, .int .u8 0, .int .u8 0], []⟩ 8 (by kernel_rfl) (by kernel_rfl) (by kernel_rfl) (by kernel_rfl))
    rfl rfl Try.underlying4 (by kernel_rfl) (fun ds h => by match ds, h with | [_, _, _, _, _], _ => exact ⟨rfl, rfl, rfl⟩) ?_
  intro W base args ds p hval0 hA hlt hsz
  have hval : ∀ (j : Nat) t v, Try.f7.params[j]? = some t → args[j]? = some v → Value.okWide Try.prog W .any base t v := hval0
  clear hval0
  replace hA : DataW.TrodAll enc Try.prog W 0 (fun _ => true) true Try.f7.params.toList args.toList ds p := hA
  replace hsz : (DataW.weightsEach Try.prog Try.f7.params.toList ds).all (· ≤ reachBytes) = true := hsz
  rw [Try.params7] at hA hval hsz
  obtain ⟨v0, v1, v2, v3, v4, d0, d1, d2, d3, d4, p0, p1, p2, p3, p4, rfl, rfl, rfl, h0, h1, h2, h3, h4⟩ := trodAll_five hA
  obtain ⟨A, cap, zs, rfl, hlc, hno, hc⟩ := open_slice_ints2 Try.underlying29 Try.underlying3 (by kernel_rfl) (hval 0 29 v0 rfl rfl) h0 (fun x hx => hlt x (by simp [hx]))
  obtain ⟨a1, rfl, rfl, rfl, w1⟩ := open_int Try.underlying3 (hval 1 3 v1 rfl rfl) h1
  obtain ⟨a2, rfl, rfl, rfl, w2⟩ := open_int Try.underlying3 (hval 2 3 v2 rfl rfl) h2
  obtain ⟨a3, rfl, rfl, rfl, w3⟩ := open_int Try.underlying5 (hval 3 5 v3 rfl rfl) h3
  obtain ⟨a4, rfl, rfl, rfl, w4⟩ := open_int Try.underlying5 (hval 4 5 v4 rfl rfl) h4
  have u8 : ∀ {z : Int}, (Lit.int .u8 z).wf = true → 0 ≤ z ∧ z ≤ 255 := by
    intro z h
    simp [Lit.wf] at h
    have e1 : IntKind.u8.min = 0 := by decide
    have e2 : IntKind.u8.max = 255 := by decide
    rw [e1, e2] at h
    exact h
  have b3 := u8 w3
  have b4 := u8 w4
  have b2 := bd_i64 w2
  obtain ⟨mm, rfl⟩ := Int.eq_ofNat_of_zero_le b3.1
  obtain ⟨nn, rfl⟩ := Int.eq_ofNat_of_zero_le b4.1
  by_cases g : 1000 < (zs.length : Int)
  · exact walk_long A _ cap a1 a2 _ _ W g
  · by_cases hp0 : 0 < zs.length
    · obtain ⟨b, o, rfl, hb, hcc⟩ := hc hp0
      exact walk_full b o cap zs a1 a2 mm nn W (by omega) hp0 hlc hb hcc (by omega) (by omega) b2
    · have hz : zs.length = 0 := by omega
      rw [hz]
      cases A with
      | none =>
        obtain ⟨_, rfl⟩ := hno rfl
        exact walk_nil a1 a2 mm nn W (by omega) (by omega) b2
      | some ad =>
        by_cases hcap : cap = 0
        · subst hcap
          exact walk_cap0 ad a1 a2 mm nn W (by omega) (by omega) b2
        · exact walk_some ad cap a1 a2 mm nn W hcap (by omega) (by omega) b2

theorem proved : Rows.WrapPowersSaid :=
  OpenClaim.holds_of_wide 7 Try.f7 rfl rfl rfl rfl rfl rfl rfl ⟨rfl, rfl, rfl, rfl, rfl⟩ rfl rfl rfl rfl rfl (by kernel_rfl) Try.func7 (by kernel_rfl)
    (of_decide_eq_true (by kernel_rfl)) (by unfold Func.isWrapper; first | (rw [if_pos (by decide +kernel)]; kernel_rfl) | (rw [if_neg (by decide +kernel)]; exact ⟨rfl, rfl⟩))
    (fun os started H enc _ => lifted os started H enc)
#print axioms proved

end Go.Proofs.Ytchhdoplohcehaa.WrPow
