/- For every input SchedFair returns true, and its arguments read as they did. No conditions. -/
import Derived.Test.YthjncmnemppfhaaSdK
import Derived.Test.YthjncmnemppfhaaSdH
import Derived.Test.YthjncmnemppfhaaSdA
import Derived.Test.YthjncmnemppfhaaSdO
import Derived.Test.YthjncmnemppfhaaFrame
namespace Go.Proofs.Ythjncmnemppfhaa.SdFair
open Go.RowKit Go.Proofs.Ythjncmnemppfhaa.Sd
set_option linter.unusedVariables false
set_option linter.unusedSimpArgs false

set_option maxHeartbeats 1600000 in
theorem walk_some (A : Option Addr) (cap : Nat) (L : List Pk) (wk win : Int) (w : World) (hL : L.length ≤ 120) (hnone : A = none → L.length = 0 ∧ cap = 0) (hA : RdP w w.heap.size A L) :
    Calls Try.prog 4 #[.slice A L.length cap, .int .i64 wk, .int .i64 win] w fun e w' => e = .returned (.bool true) ∧ Below w.heap.size w w' := by
  obtain ⟨n, hn⟩ : ∃ n : Nat, teamV wk = n := ⟨(teamV wk).toNat, by have := (teamV_in wk).1; omega⟩
  have hn1 : 1 ≤ n := by have := (teamV_in wk).1; omega
  have hn2 : n ≤ 64 := by have := (teamV_in wk).2; omega
  have HTN := Lib.hid hn
  have HN := Lib.hid hnone
  have HA := Lib.hid hA
  have hd : decide (120 < (L.length : Int)) = false := by simp; omega
  clear hn hnone hA
  obtain ⟨i0, hi, hz0, hz1, hz2⟩ := info_parts infoPick
  go_enter Try.func4, Try.ntmps4
  go_wp2_with (first | (go_at_call 7; refine (works_any _).mono ?_; rintro e w1 ⟨rfl, hb1⟩; have HCK := Lib.hid ((((HA.out.kept hb1).up hb1.size).kept ((Below.refl _ _).alloc (Nat.le_refl _) (.cells #[] 27))).all)) | (at_builtin; refine wpList_append_own_both _ (by first | rfl | simp [Region.wanted, yielded]) _ _ 24 rfl w1.heap.size 27 i0 (.agg #[.int .i64 0, .int .i64 0]) 2 16 Try.underlying24 hi hz0 hz1 hz2 rfl (by decide) _ 0 _ rfl (owns_empty w1 _ _ _ (Nat.le_refl _)) A L.length cap (pk L) rfl HN.out (pk_len L) HCK.out (pk_one L) (by unfold maxLen; omega) (by omega) (by simp) ?_))
  intro v' w4 hown' hgrow
  have hown1 : w4.ownsRow w1.heap.size 27 2 v' L.length (pk L) := by simpa using hown'
  have hbx1 : Below w1.heap.size w1 w4 := Below.grown ((Below.refl _ _).alloc (Nat.le_refl _) _) hgrow (by simp) (fun j hj => by simp [Value.ownBlock] at hj; omega)
  have hb4 : Below w.heap.size w w4 := hb1.trans (hbx1.mono hb1.size)
  obtain ⟨A4, cap4, rfl, hrd4, _⟩ := rd_owned2 hown1 rfl
  have HRD4 := Lib.hid hrd4
  have HA4 := Lib.hid ((HA.out.kept hb4).up hb4.size)
  have hbx : w4.heap.size ≤ w4.heap.size := Nat.le_refl _
  clear hown1 hown' hgrow hbx1 hrd4 HCK hb1
  by_cases hz : ∀ j, j < n → lastV L n j L.length ≠ 0
  · have HZ := Lib.hid hz
    clear hz
    have HW := Lib.hid (window_any A4 cap4 L.length wk L w4 rfl HRD4.out (by omega) n HTN.out)
    go_wp2_with fail
    refine HW.out.mono ?_
    rintro e w5 ⟨⟨⟨j, h1, h2⟩, rfl⟩ | ⟨_, rfl⟩, hb5⟩
    · exact absurd h2 (HZ.out j (by simpa using h1))
    rw [show Int.toNat (n : Int) = n from by simp]
    have HA5 := Lib.hid ((HA4.out.kept (hb5.mono hbx)).up (Nat.le_trans hbx hb5.size))
    have HRD5 := Lib.hid ((HRD4.out.kept hb5).up hb5.size)
    have hb6 : Below w.heap.size w w5 := hb4.trans (hb5.mono hb4.size)
    have HRW := Lib.hid (rwindow_yes A cap L.length wk L w5 rfl HA5.out (by omega) n HTN.out (fun j hj c => HZ.out j hj ((cnt_last L n j (by simpa using hj) L.length).1 c)))
    clear hb5 HW HA4 HRD4 hb4
    go_wp2_with fail
    refine HRW.out.mono ?_
    rintro e w6 ⟨rfl, hb7⟩
    have HA6 := Lib.hid ((HA5.out.kept hb7).up hb7.size)
    have HRD6 := Lib.hid ((HRD5.out.kept hb7).up hb7.size)
    have hb8 : Below w.heap.size w w6 := hb6.trans (hb7.mono hb6.size)
    have HF := Lib.hid (fair_yes A4 cap4 L.length wk win L w6 rfl HRD6.out (by omega) n HTN.out HZ.out)
    generalize wide2 L n n = D at *
    obtain ⟨dd, hdd⟩ : ∃ dd, decide (D ≤ win) = dd := ⟨_, rfl⟩
    rw [hdd] at HF
    clear hb7 HRW HA5 HRD5 hb6
    go_wp2_with fail
    refine HF.out.mono ?_
    rintro e w7 ⟨rfl, hb9⟩
    have HA7 := Lib.hid ((HA6.out.kept hb9).up hb9.size)
    have HRD7 := Lib.hid ((HRD6.out.kept hb9).up hb9.size)
    have hb10 : Below w.heap.size w w7 := hb8.trans (hb9.mono hb8.size)
    have HC := Lib.hid (count_any A4 cap4 L.length wk L w7 rfl HRD7.out (by omega) n HTN.out)
    clear hb9 HF HA6 HRD6 hb8
    go_wp2_with fail
    refine HC.out.mono ?_
    rintro e w8 ⟨B8, rfl, hrz8, hb11⟩
    have HRZ8 := Lib.hid hrz8
    have HA8 := Lib.hid ((HA7.out.kept hb11).up hb11.size)
    have hb12 : Below w.heap.size w w8 := hb10.trans (hb11.mono hb10.size)
    have HRC := Lib.hid (rcount_any A cap L.length wk L w8 rfl HA8.out (by omega) n HTN.out)
    clear hb11 HC hrz8 HA7 hb10
    go_wp2_with fail
    refine HRC.out.mono ?_
    rintro e w9 ⟨B9, rfl, hrz9, hb13⟩
    have HRZ9 := Lib.hid hrz9
    have HRZ8' := Lib.hid ((HRZ8.out.kept hb13).up hb13.size)
    have hb14 : Below w.heap.size w w9 := hb12.trans (hb13.mono hb12.size)
    have HI := Lib.hid (ints_any B8 B9 n n n n (cntL L n L.length) (cntL L n L.length) w9 (cntL_len _ _ _).symm (cntL_len _ _ _).symm HRZ8'.out HRZ9.out (by omega) (by omega) rfl)
    clear hb13 HRC hrz9 HRZ8 hb12
    go_wp2_with fail
    refine HI.out.mono ?_
    rintro e w10 ⟨rfl, hb15⟩
    go_wp2_with fail
    go_ret
    exact ⟨rfl, hb14.trans (hb15.mono hb14.size)⟩
  · have HZ : Hid (∃ j, j < n ∧ lastV L n j L.length = 0) := Lib.hid (Classical.byContradiction fun c => hz (fun j hj h => c ⟨j, hj, h⟩))
    clear hz
    have HW := Lib.hid (window_any A4 cap4 L.length wk L w4 rfl HRD4.out (by omega) n HTN.out)
    go_wp2_with fail
    refine HW.out.mono ?_
    rintro e w5 ⟨⟨_, rfl⟩ | ⟨h, rfl⟩, hb5⟩
    rotate_left 1
    · obtain ⟨j, h1, h2⟩ := HZ.out
      exact absurd h2 (h j (by simpa using h1))
    have HA5 := Lib.hid ((HA4.out.kept (hb5.mono hbx)).up (Nat.le_trans hbx hb5.size))
    have HRD5 := Lib.hid ((HRD4.out.kept hb5).up hb5.size)
    have hb6 : Below w.heap.size w w5 := hb4.trans (hb5.mono hb4.size)
    have HRW := Lib.hid (rwindow_no A cap L.length wk L w5 rfl HA5.out (by omega) n HTN.out (by obtain ⟨j, hj, h2⟩ := HZ.out; exact ⟨j, hj, (cnt_last L n j (by simpa using hj) L.length).2 h2⟩))
    clear hb5 HW HA4 HRD4 hb4
    go_wp2_with fail
    refine HRW.out.mono ?_
    rintro e w6 ⟨rfl, hb7⟩
    have HA6 := Lib.hid ((HA5.out.kept hb7).up hb7.size)
    have HRD6 := Lib.hid ((HRD5.out.kept hb7).up hb7.size)
    have hb8 : Below w.heap.size w w6 := hb6.trans (hb7.mono hb6.size)
    have HF := Lib.hid (fair_no A4 cap4 L.length wk win L w6 rfl HRD6.out (by omega) n HTN.out HZ.out)
    clear hb7 HRW HA5 HRD5 hb6
    go_wp2_with fail
    refine HF.out.mono ?_
    rintro e w7 ⟨rfl, hb9⟩
    have HA7 := Lib.hid ((HA6.out.kept hb9).up hb9.size)
    have HRD7 := Lib.hid ((HRD6.out.kept hb9).up hb9.size)
    have hb10 : Below w.heap.size w w7 := hb8.trans (hb9.mono hb8.size)
    have HC := Lib.hid (count_any A4 cap4 L.length wk L w7 rfl HRD7.out (by omega) n HTN.out)
    clear hb9 HF HA6 HRD6 hb8
    go_wp2_with fail
    refine HC.out.mono ?_
    rintro e w8 ⟨B8, rfl, hrz8, hb11⟩
    have HRZ8 := Lib.hid hrz8
    have HA8 := Lib.hid ((HA7.out.kept hb11).up hb11.size)
    have hb12 : Below w.heap.size w w8 := hb10.trans (hb11.mono hb10.size)
    have HRC := Lib.hid (rcount_any A cap L.length wk L w8 rfl HA8.out (by omega) n HTN.out)
    clear hb11 HC hrz8 HA7 hb10
    go_wp2_with fail
    refine HRC.out.mono ?_
    rintro e w9 ⟨B9, rfl, hrz9, hb13⟩
    have HRZ9 := Lib.hid hrz9
    have HRZ8' := Lib.hid ((HRZ8.out.kept hb13).up hb13.size)
    have hb14 : Below w.heap.size w w9 := hb12.trans (hb13.mono hb12.size)
    have HI := Lib.hid (ints_any B8 B9 n n n n (cntL L n L.length) (cntL L n L.length) w9 (cntL_len _ _ _).symm (cntL_len _ _ _).symm HRZ8'.out HRZ9.out (by omega) (by omega) rfl)
    clear hb13 HRC hrz9 HRZ8 hb12
    go_wp2_with fail
    refine HI.out.mono ?_
    rintro e w10 ⟨rfl, hb15⟩
    go_wp2_with fail
    go_ret
    exact ⟨rfl, hb14.trans (hb15.mono hb14.size)⟩

theorem walk_long (A : Option Addr) (n cap : Nat) (wk win : Int) (w : World) (h : 120 < (n : Int)) :
    Calls Try.prog 4 #[.slice A n cap, .int .i64 wk, .int .i64 win] w fun e w' => e = .returned (.bool true) ∧ Below w.heap.size w w' := by
  have hd : decide (120 < (n : Int)) = true := by simp [h]
  go_enter Try.func4, Try.ntmps4
  go_wp2_with (first | (go_at_call 7; refine (works_any _).mono ?_; rintro e w1 ⟨rfl, hb1⟩))
  go_ret
  exact ⟨rfl, hb1⟩

open Go.ChangeShapes Go.WideShapes Go.ChangeAt

set_option maxRecDepth 100000 in
theorem lifted (os : Os) (started : os.Started) (H : Type) (enc : TypeId × Value → H) :
    ReturnsInHanded {} Try.checked os 4 .any (Rows.schedFairSpec.pre6 enc Try.prog Try.f4 Rows.schedFairRow.domain false) (Rows.schedFairSpec.post enc Try.prog Try.f4 false true false false) := by
  refine Frame.law_lift (C := Try.checked) Frame.own started (by kernel_rfl) Try.func4 Frame.laidOut
    (ChangeSpec.witness6 (enc := enc) (C := Try.checked) false ⟨#[], #[.slice none 0 0, .int .i64 0, .int .i64 0], []⟩ 8 (by kernel_rfl) (by kernel_rfl) (by kernel_rfl) (by kernel_rfl))
    rfl rfl Try.underlying4 (by kernel_rfl) (fun ds h => by match ds, h with | [_, _, _], _ => exact ⟨rfl, rfl, rfl⟩) ?_
  intro W base args ds p hval0 hA hlt hsz
  have hval : ∀ (j : Nat) t v, Try.f4.params[j]? = some t → args[j]? = some v → Value.okWide Try.prog W .any base t v := hval0
  clear hval0
  replace hA : DataW.TrodAll enc Try.prog W 0 (fun _ => true) true Try.f4.params.toList args.toList ds p := hA
  replace hsz : (DataW.weightsEach Try.prog Try.f4.params.toList ds).all (· ≤ reachBytes) = true := hsz
  rw [Try.params4] at hA hval hsz
  obtain ⟨v0, v1, v2, d0, d1, d2, p0, p1, p2, rfl, rfl, rfl, h0, h1, h2⟩ := trodAll_three hA
  obtain ⟨A, cap, L, rfl, _, hno, hR⟩ := SdO.open_slice_picks Try.underlying24 Try.underlying27 (by kernel_rfl) rfl rfl (by kernel_rfl) (by kernel_rfl) Try.underlying3 Try.underlying3 (hval 0 24 v0 rfl rfl) h0 (fun x hx => hlt x (by simp [hx]))
  obtain ⟨a1, rfl, rfl, rfl, w1⟩ := open_int Try.underlying3 (hval 1 3 v1 rfl rfl) h1
  obtain ⟨a2, rfl, rfl, rfl, w2⟩ := open_int Try.underlying3 (hval 2 3 v2 rfl rfl) h2
  by_cases g : 120 < (L.length : Int)
  · exact walk_long A _ cap a1 a2 W g
  · exact walk_some A cap L a1 a2 W (by omega) hno hR

theorem proved : Rows.SchedFairSaid :=
  OpenClaim.holds_of_wide 4 Try.f4 rfl rfl rfl rfl rfl rfl rfl ⟨rfl, rfl, rfl, rfl, rfl⟩ rfl rfl rfl rfl rfl (by kernel_rfl) Try.func4 (by kernel_rfl)
    (of_decide_eq_true (by kernel_rfl)) (by unfold Func.isWrapper; first | (rw [if_pos (by decide +kernel)]; kernel_rfl) | (rw [if_neg (by decide +kernel)]; exact ⟨rfl, rfl⟩))
    (fun os started H enc _ => lifted os started H enc)
#print axioms proved

end Go.Proofs.Ythjncmnemppfhaa.SdFair
