/- For every input StageRows returns true, and its arguments read as they did. No conditions. -/
import Derived.Test.YtdgeeoanbcbphaaStP
import Derived.Test.YtdgeeoanbcbphaaOpen
import Derived.StillTailTactics
import Derived.Laws.AppendOwnNone
import Derived.Test.YtdgeeoanbcbphaaStO
namespace Go.Proofs.Ytdgeeoanbcbphaa.StRows
open Go.RowKit Go.Proofs.Ytdgeeoanbcbphaa.St Go.Proofs.Ytdgeeoanbcbphaa.StR
set_option linter.unusedVariables false
set_option linter.unusedSimpArgs false

theorem infoCell : (Try.prog.info? 36).map (fun i => (i.zero, i.size, i.bytes)) = some (some (.agg #[.int .i64 0, .bool false]), 2, 16) := by kernel_rfl

set_option maxHeartbeats 1600000 in
theorem walk_some (A : Option Addr) (cap : Nat) (zs : List Int) (c : Int) (w : World) (hm : zs.length ≤ 300) (hz : ∀ z ∈ zs, 0 ≤ z ∧ z ≤ 255)
    (hA : 0 < zs.length → ∃ b o, A = some ⟨b, o, none⟩ ∧ b < w.heap.size ∧ ∀ j, j < zs.length → w.cell? ⟨b, o + j, none⟩ = some (.int .u8 (zs.getD j 0)))
    (L : List Int) (B : Nat → Bool) (rcap : Nat) (RA : Option Addr) (hL : L.length ≤ 300) (hnone : RA = none → L.length = 0 ∧ rcap = 0)
    (hR : 0 < L.length → ∃ b o, RA = some ⟨b, o, none⟩ ∧ b < w.heap.size ∧ ∀ j, j < L.length → w.cell? ⟨b, o + j * 2, none⟩ = some (.int .i64 (L.getD j 0)) ∧ w.cell? ⟨b, o + j * 2 + 1, none⟩ = some (.bool (B j))) :
    Calls Try.prog 5 #[.slice A zs.length cap, .int .i64 c, .slice RA L.length rcap] w fun e w' => e = .returned (.bool true) ∧ Below w.heap.size w w' := by
  have hm' : (zs.length : Int) ≤ 300 := by omega
  have hrn' : (L.length : Int) ≤ 300 := by omega
  have HA := Lib.hid hA
  have HR := Lib.hid hR
  have HN := Lib.hid hnone
  clear hA hR hnone
  obtain ⟨i0, hi, hz0, hz1, hz2⟩ := info_parts infoCell
  have HZ := Lib.hid hz
  clear hz
  go_enter Try.func5, Try.ntmps5
  go_wp2_with (first | (go_at_call 6; refine (works_any _).mono ?_; rintro e w1 ⟨rfl, hb1⟩))
  go_loopw [7, 8, 9, 10] (fun l a p i wr => ∃ k : Nat, k ≤ zs.length ∧ i = .int .i64 k ∧ a = .int .i64 (atN zs k) ∧ p = .int .i64 (PN zs c k) ∧
      wr.ownsRow w1.heap.size 36 2 l k (cellsV (SN zs k)) ∧ Below w1.heap.size w1 wr) (fun _ _ _ i _ => zs.length - (intOf i).toNat)
  case atStart => exact ⟨0, Nat.zero_le _, rfl, rfl, rfl, World.ownsRow_nil _ _ _ _, Below.refl _ _⟩
  case round =>
    obtain ⟨k, hk, rfl, rfl, rfl, hown, hbl⟩ := hrel
    by_cases hlt : k < zs.length
    · obtain ⟨b, o, rfl, hb, hc⟩ := HA.out (by omega)
      have hcz : wr.cell? ⟨b, o + k, none⟩ = some (.int .u8 (zs.getD k 0)) := (hbl.cell (p := ⟨b, o + k, none⟩) (Nat.lt_of_lt_of_le hb hb1.size)).trans ((hb1.cell (p := ⟨b, o + k, none⟩) hb).trans (hc k hlt))
      clear hc HA HR HN
      have hzl := StR.getD_in zs HZ.out k
      have han := atN_in zs HZ.out k
      have hpl := PN_le zs c k
      have HAT : Hid (atN zs (k + 1) = atN zs k + 1 + zs.getD k 0) := Lib.hid rfl
      have HS : Hid (SN zs (k + 1) = SN zs k ++ [atN zs k + 1 + zs.getD k 0]) := Lib.hid rfl
      have HP : Hid (PN zs c (k + 1) = PN zs c k + (decide (atN zs k + 1 + zs.getD k 0 < c)).toNat) := Lib.hid rfl
      generalize zs.getD k 0 = z at *
      have hz0' : 0 ≤ z := hzl.1
      have hz1' : z ≤ 255 := hzl.2
      have ha0' : 0 ≤ atN zs k := han.1
      have ha1' : atN zs k ≤ 76800 := by omega
      have hp1' : (PN zs c k : Int) ≤ 300 := by omega
      clear hzl han
      obtain ⟨d, hd⟩ : ∃ d, decide (atN zs k + 1 + z < c) = d := ⟨_, rfl⟩
      have HD := Lib.hid hd
      have hszb := hbl.size
      cases d
      all_goals
        go_wp2_with (first | (go_at_call 8; refine (past_any _ _ _).mono ?_; rintro e w' ⟨rfl, rfl⟩) | (at_builtin; refine wpList_append_own _ rfl _ _ 34 rfl w1.heap.size 36 i0 (.agg #[.int .i64 0, .bool false]) 2 16 Try.underlying34 hi hz0 hz1 hz2 rfl (by decide) _ _ _ rfl (hown.alloc _) ⟨wr.heap.size, 0, none⟩ 1 1 [.int .i64 (atN zs k + 1 + z), .bool false] rfl rfl ?c1 ?c2 ?c3 ?c4 ?c5 ?_))
        case c1 =>
          intro j u hj
          match j, hj with
          | 0, hj => simp at hj; subst hj; simp [Addr.add, cell_new]
          | 1, hj => simp at hj; subst hj; simp [Addr.add, cell_new]
        case c2 => intro u hu; simp at hu; rcases hu with rfl | rfl <;> rfl
        case c3 => unfold maxLen; omega
        case c4 => omega
        case c5 => simp; omega
        intro v' w2 hown' hgrow _
        have hown2 : w2.ownsRow w1.heap.size 36 2 v' (k + 1) (cellsV (SN zs (k + 1))) := by rw [HS.out, cellsV_snoc]; exact hown'
        have hbl2 : Below w1.heap.size w1 w2 := Below.grown (hbl.alloc hszb _) hgrow (by simp; omega) (fun j hj => (hown.lt j hj).1)
        clear hown' hgrow hown
        go_wp2_with (first | (go_at_call 8; refine (past_any _ _ _).mono ?_; rintro e w' ⟨rfl, rfl⟩))
        go_roundw
        case rel => exact ⟨k + 1, by omega, by go_num, by rw [HAT.out], by rw [HP.out, HD.out]; first | rfl | go_num, hown2, hbl2⟩
        case measure => simp [intOf]; omega
    · have e : k = zs.length := by omega
      subst e
      go_wp2_with fail
      go_loopw [11] (fun i wx => ∃ k : Nat, k ≤ L.length ∧ i = .int .i64 k ∧ k ≤ rowV L c ∧ wx.ownsRow w1.heap.size 36 2 u7 zs.length (cellsV (SN zs zs.length)) ∧ Below w1.heap.size w1 wx) (fun i _ => L.length - (intOf i).toNat)
      case atStart => exact ⟨0, Nat.zero_le _, rfl, Nat.zero_le _, hown, hbl⟩
      case round =>
        obtain ⟨k, hk, rfl, hkr, hown, hbl⟩ := hrel
        by_cases hlt : k < L.length
        · obtain ⟨b, o, rfl, hb, hc⟩ := HR.out (by omega)
          have hcz : wr.cell? ⟨b, o + k * 2, none⟩ = some (.int .i64 (L.getD k 0)) := (hbl.cell (p := ⟨b, o + k * 2, none⟩) (Nat.lt_of_lt_of_le hb hb1.size)).trans ((hb1.cell (p := ⟨b, o + k * 2, none⟩) hb).trans (hc k hlt).1)
          clear hc
          have HH := Lib.hid (rowV_hit L c k hkr hlt)
          have HM := Lib.hid (rowV_miss L c k hkr hlt)
          have hd : decide ((k : Int) < (L.length : Int)) = true := by simp; omega
          generalize L.getD k 0 = s at *
          by_cases hs : s < c
          · have hd2 : decide (s < c) = true := by simp [hs]
            go_wp2_with fail
            go_roundw
            case rel => exact ⟨k + 1, by omega, by go_num, HM.out hs, hown, hbl⟩
            case measure => simp [intOf]; omega
          · have hd2 : decide (s < c) = false := by simp; omega
            have he : Hid (k = rowV L c) := Lib.hid (HH.out (by omega)).symm
            obtain ⟨A', cap', rfl, hrd⟩ := rd_owned (B := fun _ => false) hown (len_SN zs zs.length).symm (cellsV_get _)
            have HRW := row_any A' zs.length cap' (SN zs zs.length) c wr (len_SN zs zs.length).symm (by rw [len_SN]; omega) hrd
            rw [row_all zs HZ.out c] at HRW
            have HW := Lib.hid HRW
            clear HRW hrd hown
            have hszb := hbl.size
            have hke := he.out
            subst hke
            go_wp2_with fail
            refine HW.out.mono ?_
            rintro e w3 ⟨rfl, hb3⟩
            have hszc := hb3.size
            have hb4 : Below w.heap.size w (w3.alloc (.cells #[] 36)) := ((hb1.trans (hbl.mono hb1.size)).trans (hb3.mono (Nat.le_trans hb1.size hszb))).alloc (Nat.le_trans hb1.size (Nat.le_trans hszb hszc)) _
            have hsz1 := hb1.size
            have HCK := Lib.hid (cells_kept (B := B) hb4 HR.out (⟨b, o, none⟩) rfl)
            go_wp2_with (at_builtin; refine wpList_append_own_g _ (by first | rfl | simp [Region.wanted, yielded]) _ _ 34 rfl w1.heap.size 36 i0 (.agg #[.int .i64 0, .bool false]) 2 16 Try.underlying34 hi hz0 hz1 hz2 rfl (by decide) _ 0 _ rfl (owns_empty w3 _ _ _ (by omega)) (⟨b, o, none⟩) L.length rcap (pairsV L B L.length) rfl (pairsV_len L B _) HCK.out (pairsV_one L B _) (by unfold maxLen; omega) (by omega) (by simp; omega) ?_)
            intro v' w4 hown' hgrow _
            try simp only [Nat.zero_add, List.nil_append] at hown'
            have hb6 : Below w.heap.size w w4 := Below.grown hb4 hgrow (by simp; omega) (fun j hj => by simp [Value.ownBlock] at hj; omega)
            obtain ⟨A4, cap4, rfl, hrd4⟩ := rd_owned (B := B) hown' rfl (fun j hj => pairsV_get L B _ j hj)
            have HW4 := Lib.hid (row_any A4 L.length cap4 L c w4 rfl (by omega) hrd4)
            clear hown' hgrow hrd4 HCK HW
            go_wp2_with fail
            refine HW4.out.mono ?_
            rintro e w5 ⟨rfl, hb5⟩
            go_wp2_with fail
            go_ret
            exact ⟨rfl, hb6.trans (hb5.mono hb6.size)⟩
        · have hd : decide ((k : Int) < (L.length : Int)) = false := by simp; omega
          have he : Hid (k = rowV L c) := Lib.hid (by have := rowV_le L c; omega)
          obtain ⟨A', cap', rfl, hrd⟩ := rd_owned (B := fun _ => false) hown (len_SN zs zs.length).symm (cellsV_get _)
          have HRW := row_any A' zs.length cap' (SN zs zs.length) c wr (len_SN zs zs.length).symm (by rw [len_SN]; omega) hrd
          rw [row_all zs HZ.out c] at HRW
          have HW := Lib.hid HRW
          clear HRW hrd hown
          have hszb := hbl.size
          have hke := he.out
          subst hke
          cases RA with
          | none =>
            go_wp2_with fail
            refine HW.out.mono ?_
            rintro e w3 ⟨rfl, hb3⟩
            have hszc := hb3.size
            have hb4 : Below w.heap.size w (w3.alloc (.cells #[] 36)) := ((hb1.trans (hbl.mono hb1.size)).trans (hb3.mono (Nat.le_trans hb1.size hszb))).alloc (Nat.le_trans hb1.size (Nat.le_trans hszb hszc)) _
            have hsz1 := hb1.size
            obtain ⟨h0, rfl⟩ := HN.out (by simp)
            have hL0 : L = [] := List.eq_nil_of_length_eq_zero h0
            subst hL0
            have HE := Lib.hid (owns_empty w3 w1.heap.size 36 2 (by omega))
            have HW4 := Lib.hid (row_any (some ⟨w3.heap.size, 0, none⟩) 0 0 [] c (w3.alloc (.cells #[] 36)) rfl (by simp) (fun h => absurd h (by simp)))
            clear HW
            go_wp2_with (at_builtin; refine wpList_append_own_none_g (by first | rfl | simp [Region.wanted, yielded]) _ _ 34 rfl w1.heap.size 36 i0 2 Try.underlying34 hi _ 0 _ rfl HE.out rfl ?_)
            refine HW4.out.mono ?_
            rintro e w5 ⟨rfl, hb5⟩
            go_wp2_with fail
            go_ret
            exact ⟨rfl, hb4.trans (hb5.mono hb4.size)⟩
          | some ad =>
            go_wp2_with fail
            refine HW.out.mono ?_
            rintro e w3 ⟨rfl, hb3⟩
            have hszc := hb3.size
            have hb4 : Below w.heap.size w (w3.alloc (.cells #[] 36)) := ((hb1.trans (hbl.mono hb1.size)).trans (hb3.mono (Nat.le_trans hb1.size hszb))).alloc (Nat.le_trans hb1.size (Nat.le_trans hszb hszc)) _
            have hsz1 := hb1.size
            have HCK := Lib.hid (cells_kept (B := B) hb4 HR.out (ad) rfl)
            go_wp2_with (at_builtin; refine wpList_append_own_g _ (by first | rfl | simp [Region.wanted, yielded]) _ _ 34 rfl w1.heap.size 36 i0 (.agg #[.int .i64 0, .bool false]) 2 16 Try.underlying34 hi hz0 hz1 hz2 rfl (by decide) _ 0 _ rfl (owns_empty w3 _ _ _ (by omega)) (ad) L.length rcap (pairsV L B L.length) rfl (pairsV_len L B _) HCK.out (pairsV_one L B _) (by unfold maxLen; omega) (by omega) (by simp; omega) ?_)
            intro v' w4 hown' hgrow _
            try simp only [Nat.zero_add, List.nil_append] at hown'
            have hb6 : Below w.heap.size w w4 := Below.grown hb4 hgrow (by simp; omega) (fun j hj => by simp [Value.ownBlock] at hj; omega)
            obtain ⟨A4, cap4, rfl, hrd4⟩ := rd_owned (B := B) hown' rfl (fun j hj => pairsV_get L B _ j hj)
            have HW4 := Lib.hid (row_any A4 L.length cap4 L c w4 rfl (by omega) hrd4)
            clear hown' hgrow hrd4 HCK HW
            go_wp2_with fail
            refine HW4.out.mono ?_
            rintro e w5 ⟨rfl, hb5⟩
            go_wp2_with fail
            go_ret
            exact ⟨rfl, hb6.trans (hb5.mono hb6.size)⟩

theorem walk_long (A RA : Option Addr) (n cap rn rcap : Nat) (c : Int) (w : World) (hn : 300 < (n : Int) ∨ ¬ 300 < (n : Int) ∧ 300 < (rn : Int)) :
    Calls Try.prog 5 #[.slice A n cap, .int .i64 c, .slice RA rn rcap] w fun e w' => e = .returned (.bool true) ∧ Below w.heap.size w w' := by
  rcases hn with h | ⟨h, h2⟩
  · have hd : decide (300 < (n : Int)) = true := by simp [h]
    go_enter Try.func5, Try.ntmps5
    go_wp2_with (first | (go_at_call 6; refine (works_any _).mono ?_; rintro e w1 ⟨rfl, hb1⟩))
    go_ret
    exact ⟨rfl, hb1⟩
  · have hd : decide (300 < (n : Int)) = false := by simpa using h
    have hd2 : decide (300 < (rn : Int)) = true := by simp [h2]
    go_enter Try.func5, Try.ntmps5
    go_wp2_with (first | (go_at_call 6; refine (works_any _).mono ?_; rintro e w1 ⟨rfl, hb1⟩))
    go_ret
    exact ⟨rfl, hb1⟩

open Go.ChangeShapes Go.WideShapes Go.ChangeAt

set_option maxRecDepth 100000 in
theorem lifted (os : Os) (started : os.Started) (H : Type) (enc : TypeId × Value → H) :
    ReturnsInHanded {} Try.checked os 5 .any (Rows.stageRowsSpec.pre6 enc Try.prog Try.f5 Rows.stageRowsRow.domain false) (Rows.stageRowsSpec.post enc Try.prog Try.f5 false true false false) := by
  refine Frame.law_lift (C := Try.checked) Frame.own started (by kernel_rfl) Try.func5 Frame.laidOut
    (ChangeSpec.witness6 (enc := enc) (C := Try.checked) false ⟨#[], #[.slice none 0 0, .int .i64 0, .slice none 0 0], []⟩ 8 (by kernel_rfl) (by kernel_rfl) (by kernel_rfl) (by kernel_rfl))
    rfl rfl Try.underlying4 (by kernel_rfl) (fun ds h => by match ds, h with | [_, _, _], _ => exact ⟨rfl, rfl, rfl⟩) ?_
  intro W base args ds p hval0 hA hlt hsz
  have hval : ∀ (j : Nat) t v, Try.f5.params[j]? = some t → args[j]? = some v → Value.okWide Try.prog W .any base t v := hval0
  clear hval0
  replace hA : DataW.TrodAll enc Try.prog W 0 (fun _ => true) true Try.f5.params.toList args.toList ds p := hA
  replace hsz : (DataW.weightsEach Try.prog Try.f5.params.toList ds).all (· ≤ reachBytes) = true := hsz
  rw [Try.params5] at hA hval hsz
  obtain ⟨v0, v1, v2, d0, d1, d2, p0, p1, p2, rfl, rfl, rfl, h0, h1, h2⟩ := trodAll_three hA
  obtain ⟨A0, cap, zs, rfl, _, hwf, hc⟩ := Opn.open_slice_ints Try.underlying33 Try.underlying5 (by kernel_rfl) (hval 0 33 v0 rfl rfl) h0 (fun x hx => hlt x (by simp [hx]))
  obtain ⟨a1, rfl, rfl, rfl, w1⟩ := open_int Try.underlying3 (hval 1 3 v1 rfl rfl) h1
  obtain ⟨RA, rcap, L, B, rfl, _, hno, hR⟩ := StO.open_slice_cells Try.underlying34 Try.underlying36 (by kernel_rfl) rfl rfl (by kernel_rfl) (by kernel_rfl) Try.underlying3 Try.underlying4 (hval 2 34 v2 rfl rfl) h2 (fun x hx => hlt x (by simp [hx]))
  have hz : ∀ z ∈ zs, 0 ≤ z ∧ z ≤ 255 := by
    intro z hz
    have := hwf z hz
    simp [Lit.wf] at this
    have e1 : IntKind.u8.min = 0 := by decide
    have e2 : IntKind.u8.max = 255 := by decide
    rw [e1, e2] at this
    exact this
  by_cases g1 : 300 < (zs.length : Int)
  · exact walk_long A0 RA _ cap _ rcap a1 W (Or.inl g1)
  · by_cases g2 : 300 < (L.length : Int)
    · exact walk_long A0 RA _ cap _ rcap a1 W (Or.inr ⟨g1, g2⟩)
    · exact walk_some A0 cap zs a1 W (by omega) hz hc L B rcap RA (by omega) hno hR

theorem proved : Rows.StageRowsSaid :=
  OpenClaim.holds_of_wide 5 Try.f5 rfl rfl rfl rfl rfl rfl rfl ⟨rfl, rfl, rfl, rfl, rfl⟩ rfl rfl rfl rfl rfl (by kernel_rfl) Try.func5 (by kernel_rfl)
    (of_decide_eq_true (by kernel_rfl)) (by unfold Func.isWrapper; first | (rw [if_pos (by decide +kernel)]; kernel_rfl) | (rw [if_neg (by decide +kernel)]; exact ⟨rfl, rfl⟩))
    (fun os started H enc _ => lifted os started H enc)
#print axioms proved

end Go.Proofs.Ytdgeeoanbcbphaa.StRows
