/- For every input SchedMakes returns true, and its arguments read as they did. No conditions. -/
import Derived.Test.YthjncmnemppfhaaSdK
import Derived.Test.YthjncmnemppfhaaSdRT
import Derived.Test.YthjncmnemppfhaaSdA
import Derived.Test.YthjncmnemppfhaaFrame
import Derived.ChangeMaps5
namespace Go.Proofs.Ythjncmnemppfhaa.SdMakes
open Go.RowKit Go.Proofs.Ythjncmnemppfhaa.Sd
set_option linter.unusedVariables false
set_option linter.unusedSimpArgs false

theorem round_get (wk vic : Int) (m : Nat) : ∀ k, k < m → (roundV wk vic m).getD k (0, 0) = ((k : Int) % teamV wk, vic) := by
  induction m with
  | zero => intro k h; omega
  | succ m ih =>
    intro k hk
    have hl := round_len wk vic m
    simp only [roundV, List.getD] at ih ⊢
    by_cases h : k < m
    · rw [List.getElem?_append_left (by omega)]
      exact ih k h
    · have e : k = m := by omega
      subst e
      rw [List.getElem?_append_right (by omega), hl]
      simp

set_option maxHeartbeats 1600000 in
theorem walk_some (wk vic st : Int) (s : ByteArray) (w : World) (h0 : 0 ≤ st) (h1 : st ≤ 65535) (hs : s.size ≤ 1000) :
    Calls Try.prog 5 #[.int .i64 wk, .int .i64 vic, .int .u16 st, .string s] w fun e w' => e = .returned (.bool true) ∧ Below w.heap.size w w' := by
  obtain ⟨m, hm⟩ : ∃ m : Nat, st % 2000 = m := ⟨(st % 2000).toNat, by omega⟩
  have hm1 : m < 2000 := by omega
  have HM := Lib.hid hm
  clear hm
  have ht := teamV_in wk
  obtain ⟨n, hn⟩ : ∃ n : Nat, teamV wk = n := ⟨(teamV wk).toNat, by omega⟩
  have HN := Lib.hid hn
  have hn0 : 1 ≤ n := by omega
  have hn64 : n ≤ 64 := by omega
  obtain ⟨p, hp⟩ : ∃ p, (if wk < 1 then 1 else wk) = p := ⟨_, rfl⟩
  have hpn : (if 64 < p then 64 else p) = (n : Int) := by
    rw [← hn, ← hp]; unfold teamV; repeat (first | omega | split)
  have hs' : decide (1000 < (s.size : Int)) = false := by simp; omega
  have hw0 : wrap64 st = st := by unfold wrap64; omega
  clear hn ht
  go_enter Try.func5, Try.ntmps5
  go_wp2_with (first | (go_at_call 7; refine (works_any _).mono ?_; rintro e w1 ⟨rfl, hb1⟩))
  have hlm : lenV (st % 2000) = m := by rw [HM.out]; unfold lenV; rw [if_neg (by omega), if_neg (by omega)]
  have HR := Lib.hid (round_any wk vic (st % 2000) m hlm w1)
  clear hlm
  refine HR.out.mono ?_
  rintro e w2 ⟨v, rfl, hown, hb2⟩
  obtain ⟨A, cap, rfl, hrd, _⟩ := rd_owned2 hown (round_len wk vic m).symm
  have HRD := Lib.hid hrd
  have hb3 : Below w.heap.size w w2 := hb1.trans (hb2.mono hb1.size)
  have hlr := Lib.hid (round_len wk vic m)
  have HG := Lib.hid (round_get wk vic m)
  clear HR hown hb1 hb2 hrd
  rw [hlr.out, HM.out]
  clear hw0 h0 h1 HM
  go_wp2_with fail
  go_loopw [11] (fun i wr => ∃ k : Nat, k ≤ m ∧ i = .int .i64 k ∧ Below w2.heap.size w2 wr) (fun i _ => m - (intOf i).toNat)
  case atStart => exact ⟨0, Nat.zero_le _, rfl, Below.refl _ _⟩
  case round =>
    obtain ⟨k, hk, rfl, hbl⟩ := hrel
    by_cases hlt : k < m
    · obtain ⟨b, o, rfl, hb, hc⟩ := HRD.out (by rw [hlr.out]; omega)
      have hg := HG.out k hlt
      have c1 := (hbl.cell (p := ⟨b, o + k * 2, none⟩) hb).trans (hc k (by rw [hlr.out]; exact hlt)).1
      have c2 := (hbl.cell (p := ⟨b, o + k * 2 + 1, none⟩) hb).trans (hc k (by rw [hlr.out]; exact hlt)).2
      rw [hg] at c1 c2
      rw [HN.out] at c1
      clear hc hg HRD HG
      simp only at c1 c2
      have e3 : (k : Int).tmod (n : Int) = (k : Int) % n := Int.tmod_eq_emod_of_nonneg (by omega)
      go_wp2_with fail
      go_quiet (fail)
      go_wp2_with fail
      go_roundw
      case rel => exact ⟨k + 1, by omega, by go_num, below_drewN hbl _⟩
      case measure => simp [intOf]; omega
    · have e : k = m := by omega
      subst e
      clear hlr HG hp hpn
      have hb4 : Below w.heap.size w wr := hb3.trans (hbl.mono hb3.size)
      have hlk : lenV (k : Int) = k := by unfold lenV; rw [if_neg (by omega), if_neg (by omega)]
      have hlneg : lenV (-1) = ((0 : Nat) : Int) := by decide
      have HT := Lib.hid (fun w => turns_any wk k s n k HN.out hlk (by omega) w)
      have HT2 := Lib.hid (fun w => rturns_any wk k s n k HN.out (by omega) rfl (by omega) (by omega) w)
      have HR := Lib.hid (fun w => round_any wk vic (-1) 0 hlneg w)
      clear hlk hlneg HRD hb3 hbl
      go_wp2_with fail
      refine (HT.out _).mono ?_
      rintro e w3 ⟨v3, rfl, hown3, hb5⟩
      obtain ⟨A3, cap3, rfl, hrd3, _⟩ := rd_owned2 hown3 (turnsN_len n s k).symm
      have HRD3 := Lib.hid hrd3
      have hb6 : Below w.heap.size w w3 := hb4.trans (hb5.mono hb4.size)
      clear hown3 hb5 hb4 hrd3 HT
      go_wp2_with fail
      refine (HT2.out _).mono ?_
      rintro e w4 ⟨v4, rfl, hown4, hb7⟩
      obtain ⟨A4, cap4, rfl, hrd4, _⟩ := rd_owned2 hown4 (turnsN_len n s k).symm
      have HRD4 := Lib.hid hrd4
      have HRD3' := Lib.hid ((HRD3.out.kept hb7).up hb7.size)
      have hb8 : Below w.heap.size w w4 := hb6.trans (hb7.mono hb6.size)
      clear hown4 hb7 hb6 hrd4 HT2 HRD3
      go_wp2_with fail
      have hl2 := Lib.hid (turnsN_len n s k)
      refine (same_any A3 A4 cap3 cap4 _ _ (turnsN n s k) (turnsN n s k) _ rfl rfl HRD3'.out HRD4.out (by rw [hl2.out]; omega) (by rw [hl2.out]; omega)).mono ?_
      rintro e w5 ⟨rfl, hb9⟩
      have hb10 : Below w.heap.size w w5 := hb8.trans (hb9.mono hb8.size)
      have hLL : decide (turnsN n s k = turnsN n s k) = true := by simp
      rw [hLL]
      clear hb8 hb9 hLL HRD3' HRD4
      go_wp2_with fail
      refine (HR.out _).mono ?_
      rintro e w6 ⟨v6, rfl, hown6, hb11⟩
      obtain ⟨A6, cap6, rfl, _, _⟩ := rd_owned2 hown6 (round_len wk vic 0).symm
      have hb12 : Below w.heap.size w w6 := hb10.trans (hb11.mono hb10.size)
      rw [round_len]
      clear hown6 hb11 hb10 HR
      go_wp2_with fail
      go_ret
      exact ⟨rfl, hb12⟩

theorem walk_long (wk vic st : Int) (s : ByteArray) (w : World) (hs : 1000 < (s.size : Int)) :
    Calls Try.prog 5 #[.int .i64 wk, .int .i64 vic, .int .u16 st, .string s] w fun e w' => e = .returned (.bool true) ∧ Below w.heap.size w w' := by
  have hd : decide (1000 < (s.size : Int)) = true := by simp [hs]
  go_enter Try.func5, Try.ntmps5
  go_wp2_with (first | (go_at_call 7; refine (works_any _).mono ?_; rintro e w1 ⟨rfl, hb1⟩))
  go_ret
  exact ⟨rfl, hb1⟩

open Go.ChangeShapes Go.WideShapes Go.ChangeAt

set_option maxRecDepth 100000 in
theorem lifted (os : Os) (started : os.Started) (H : Type) (enc : TypeId × Value → H) :
    ReturnsInHanded {} Try.checked os 5 .any (Rows.schedMakesSpec.pre6 enc Try.prog Try.f5 Rows.schedMakesRow.domain false) (Rows.schedMakesSpec.post enc Try.prog Try.f5 false true false false) := by
  refine Frame.law_lift (C := Try.checked) Frame.own started (by kernel_rfl) Try.func5 Frame.laidOut
    (ChangeSpec.witness6 (enc := enc) (C := Try.checked) false ⟨#[], #[.int .i64 0, .int .i64 0, .int .u16 0, .string ⟨#[]⟩], []⟩ 8 (by kernel_rfl) (by kernel_rfl) (by kernel_rfl) (by kernel_rfl))
    rfl rfl Try.underlying4 (by kernel_rfl) (fun ds h => by match ds, h with | [_, _, _, _], _ => exact ⟨rfl, rfl, rfl⟩) ?_
  intro W base args ds p hval0 hA hlt hsz
  have hval : ∀ (j : Nat) t v, Try.f5.params[j]? = some t → args[j]? = some v → Value.okWide Try.prog W .any base t v := hval0
  clear hval0
  replace hA : DataW.TrodAll enc Try.prog W 0 (fun _ => true) true Try.f5.params.toList args.toList ds p := hA
  replace hsz : (DataW.weightsEach Try.prog Try.f5.params.toList ds).all (· ≤ reachBytes) = true := hsz
  rw [Try.params5] at hA hval hsz
  obtain ⟨v0, v1, v2, v3, d0, d1, d2, d3, p0, p1, p2, p3, rfl, rfl, rfl, h0, h1, h2, h3⟩ := trodAll_four hA
  obtain ⟨a0, rfl, rfl, rfl, w0⟩ := open_int Try.underlying3 (hval 0 3 v0 rfl rfl) h0
  obtain ⟨a1, rfl, rfl, rfl, w1⟩ := open_int Try.underlying3 (hval 1 3 v1 rfl rfl) h1
  obtain ⟨a2, rfl, rfl, rfl, w2⟩ := open_int Try.underlying38 (hval 2 38 v2 rfl rfl) h2
  obtain ⟨s, rfl, _, _, hs⟩ := Go.ChangeMaps.open_string Try.underlying9 (hval 3 9 v3 rfl rfl) h3
  have hw2 : 0 ≤ a2 ∧ a2 ≤ 65535 := by
    have h := w2
    simp [Lit.wf] at h
    have e1 : IntKind.u16.min = 0 := by decide
    have e2 : IntKind.u16.max = 65535 := by decide
    rw [e1, e2] at h
    exact h
  by_cases g : 1000 < (s.size : Int)
  · exact walk_long a0 a1 a2 s W g
  · exact walk_some a0 a1 a2 s W hw2.1 hw2.2 (by omega)

theorem proved : Rows.SchedMakesSaid :=
  OpenClaim.holds_of_wide 5 Try.f5 rfl rfl rfl rfl rfl rfl rfl ⟨rfl, rfl, rfl, rfl, rfl⟩ rfl rfl rfl rfl rfl (by kernel_rfl) Try.func5 (by kernel_rfl)
    (of_decide_eq_true (by kernel_rfl)) (by unfold Func.isWrapper; first | (rw [if_pos (by decide +kernel)]; kernel_rfl) | (rw [if_neg (by decide +kernel)]; exact ⟨rfl, rfl⟩))
    (fun os started H enc _ => lifted os started H enc)
#print axioms proved

end Go.Proofs.Ythjncmnemppfhaa.SdMakes
