/- For every input SchedTurns returns true, and its arguments read as they did. No conditions. -/
import Derived.Test.YthjncmnemppfhaaSdK
import Derived.Test.YthjncmnemppfhaaSdH
import Derived.Test.YthjncmnemppfhaaSdA
import Derived.Test.YthjncmnemppfhaaSdTuP
import Derived.Test.YthjncmnemppfhaaFrame
import Derived.ChangeMaps5
namespace Go.Proofs.Ythjncmnemppfhaa.SdTurns
open Go.RowKit Go.Proofs.Ythjncmnemppfhaa.Sd
set_option linter.unusedVariables false
set_option linter.unusedSimpArgs false

set_option maxHeartbeats 1600000 in
theorem walk_some (x y : Int) (s : ByteArray) (w : World) (hx0 : 0 ≤ x) (hx1 : x ≤ 255) (hy0 : 0 ≤ y) (hy1 : y ≤ 255) (hs : s.size ≤ 1000) :
    Calls Try.prog 6 #[.int .u8 x, .int .u8 y, .string s] w fun e w' => e = .returned (.bool true) ∧ Below w.heap.size w w' := by
  obtain ⟨n, hn⟩ : ∃ n : Nat, x % 64 + 1 = n := ⟨(x % 64 + 1).toNat, by omega⟩
  obtain ⟨k, hk⟩ : ∃ k : Nat, y % 20 + 1 = k := ⟨(y % 20 + 1).toNat, by omega⟩
  have hn1 : 1 ≤ n := by omega
  have hn2 : n ≤ 64 := by omega
  have hk1 : 1 ≤ k := by omega
  have hk2 : k ≤ 20 := by omega
  have HN := Lib.hid hn
  have HK := Lib.hid hk
  have hs' : decide (1000 < (s.size : Int)) = false := by simp; omega
  clear hn hk
  go_enter Try.func6, Try.ntmps6
  go_wp2_with (first | (go_at_call 7; refine (works_any _).mono ?_; rintro e w1 ⟨rfl, hb1⟩))
  rw [HN.out, HK.out]
  obtain ⟨m, hm⟩ : ∃ m : Nat, n * k = m := ⟨_, rfl⟩
  have hnk : (n : Int) * (k : Int) = (m : Int) := by rw [← hm]; simp
  have hm1 : m ≤ 1280 := by rw [← hm]; exact Nat.mul_le_mul hn2 hk2
  have hmw : wrap64 ((n : Int) * (k : Int)) = (m : Int) := by rw [hnk]; unfold wrap64; omega
  rw [hmw]
  have htn : teamV (n : Int) = n := by unfold teamV; rw [if_neg (by omega), if_neg (by omega)]
  have hlm : lenV (m : Int) = m := by unfold lenV; rw [if_neg (by omega), if_neg (by omega)]
  have hcl := turns_list n (by omega) s k
  have hcn := turns_wide n (by omega) s k
  have hal : ∀ v, v < n → lastV (turnsN n s (n * k)) n v (n * k) ≠ 0 := fun v hv c => by
    have h1 := (cnt_last (turnsN n s (n * k)) n v (by simpa using hv) (n * k)).2 c
    rw [turns_all n (by omega) s k v hv] at h1
    omega
  rw [hm] at hcl hcn hal
  have HCL := Lib.hid hcl
  have HCN := Lib.hid hcn
  have HAL := Lib.hid hal
  have HLEN := Lib.hid (turnsN_len n s m)
  have HTN := Lib.hid htn
  have HT := Lib.hid (fun w => turns_any n m s n m htn hlm (by omega) w)
  clear hmw htn hlm hcl hcn hal hm HN HK hx0 hx1 hy0 hy1
  refine (HT.out _).mono ?_
  rintro e w2 ⟨v, rfl, hown, hb2⟩
  obtain ⟨A, cap, rfl, hrd, _⟩ := rd_owned2 hown (turnsN_len n s m).symm
  rw [HLEN.out]
  have HRD := Lib.hid hrd
  have HC := Lib.hid (count_any A cap m n (turnsN n s m) w2 HLEN.out.symm hrd (by omega) n HTN.out)
  have hb3 : Below w.heap.size w w2 := hb1.trans (hb2.mono hb1.size)
  clear hown hb1 hb2 hrd HT
  go_wp2_with fail
  refine HC.out.mono ?_
  rintro e w3 ⟨B, rfl, hrz, hb4⟩
  rw [HCL.out] at hrz
  have HRZ := Lib.hid hrz
  have HRD3 := Lib.hid ((HRD.out.kept hb4).up hb4.size)
  have hb5 : Below w.heap.size w w3 := hb3.trans (hb4.mono hb3.size)
  clear hrz HC HRD hb3 hb4
  go_wp2_with fail
  go_loop [11] (fun i => ∃ j : Nat, i = .int .i64 j ∧ j ≤ n) (fun i => n - (intOf i).toNat)
  case atStart => exact ⟨0, rfl, Nat.zero_le _⟩
  case round =>
    obtain ⟨j, rfl, hj⟩ := hrel
    by_cases hlt : j < n
    · obtain ⟨b, o, rfl, hb, hc⟩ := HRZ.out (by simp; omega)
      have c1 := hc j (by simpa using hlt)
      have c2 : w3.cell? ⟨b, o + j, none⟩ = some (.int .i64 (k : Int)) := by rw [c1]; simp [List.getD, hlt]
      clear hc c1 HRZ
      go_wp2_with fail
      go_round
      case rel => exact ⟨j + 1, by go_num, by omega⟩
      case measure => simp [intOf]; omega
    · have e : j = n := by omega
      subst e
      have HF := Lib.hid (fair_yes A cap m j (2 * j - 1) (turnsN j s m) w3 HLEN.out.symm HRD3.out (by omega) j HTN.out HAL.out)
      have hde : decide (wide2 (turnsN j s m) j j ≤ 2 * (j : Int) - 1) = true := decide_eq_true HCN.out
      have HF2 := Lib.hid (by have h := HF.out; rw [hde] at h; exact h)
      clear hde HF HRZ HRD3
      go_wp2_with fail
      refine HF2.out.mono ?_
      rintro e w4 ⟨rfl, hb6⟩
      go_wp2_with fail
      go_ret
      exact ⟨rfl, hb5.trans (hb6.mono hb5.size)⟩

theorem walk_long (x y : Int) (s : ByteArray) (w : World) (hs : 1000 < (s.size : Int)) :
    Calls Try.prog 6 #[.int .u8 x, .int .u8 y, .string s] w fun e w' => e = .returned (.bool true) ∧ Below w.heap.size w w' := by
  have hd : decide (1000 < (s.size : Int)) = true := by simp [hs]
  go_enter Try.func6, Try.ntmps6
  go_wp2_with (first | (go_at_call 7; refine (works_any _).mono ?_; rintro e w1 ⟨rfl, hb1⟩))
  go_ret
  exact ⟨rfl, hb1⟩

open Go.ChangeShapes Go.WideShapes Go.ChangeAt

set_option maxRecDepth 100000 in
theorem lifted (os : Os) (started : os.Started) (H : Type) (enc : TypeId × Value → H) :
    ReturnsInHanded {} Try.checked os 6 .any (Rows.schedTurnsSpec.pre6 enc Try.prog Try.f6 Rows.schedTurnsRow.domain false) (Rows.schedTurnsSpec.post enc Try.prog Try.f6 false true false false) := by
  refine Frame.law_lift (C := Try.checked) Frame.own started (by kernel_rfl) Try.func6 Frame.laidOut
    (ChangeSpec.witness6 (enc := enc) (C := Try.checked) false ⟨#[], #[.int .u8 0, .int .u8 0, .string ⟨#[]⟩], []⟩ 8 (by kernel_rfl) (by kernel_rfl) (by kernel_rfl) (by kernel_rfl))
    rfl rfl Try.underlying4 (by kernel_rfl) (fun ds h => by match ds, h with | [_, _, _], _ => exact ⟨rfl, rfl, rfl⟩) ?_
  intro W base args ds p hval0 hA hlt hsz
  have hval : ∀ (j : Nat) t v, Try.f6.params[j]? = some t → args[j]? = some v → Value.okWide Try.prog W .any base t v := hval0
  clear hval0
  replace hA : DataW.TrodAll enc Try.prog W 0 (fun _ => true) true Try.f6.params.toList args.toList ds p := hA
  replace hsz : (DataW.weightsEach Try.prog Try.f6.params.toList ds).all (· ≤ reachBytes) = true := hsz
  rw [Try.params6] at hA hval hsz
  obtain ⟨v0, v1, v2, d0, d1, d2, p0, p1, p2, rfl, rfl, rfl, h0, h1, h2⟩ := trodAll_three hA
  obtain ⟨a0, rfl, rfl, rfl, w0⟩ := open_int Try.underlying5 (hval 0 5 v0 rfl rfl) h0
  obtain ⟨a1, rfl, rfl, rfl, w1⟩ := open_int Try.underlying5 (hval 1 5 v1 rfl rfl) h1
  obtain ⟨s, rfl, _, _, hs⟩ := Go.ChangeMaps.open_string Try.underlying9 (hval 2 9 v2 rfl rfl) h2
  have u8 : ∀ {z : Int}, (Lit.int .u8 z).wf = true → 0 ≤ z ∧ z ≤ 255 := by
    intro z h
    simp [Lit.wf] at h
    have e1 : IntKind.u8.min = 0 := by decide
    have e2 : IntKind.u8.max = 255 := by decide
    rw [e1, e2] at h
    exact h
  by_cases g : 1000 < (s.size : Int)
  · exact walk_long a0 a1 s W g
  · exact walk_some a0 a1 s W (u8 w0).1 (u8 w0).2 (u8 w1).1 (u8 w1).2 (by omega)

theorem proved : Rows.SchedTurnsSaid :=
  OpenClaim.holds_of_wide 6 Try.f6 rfl rfl rfl rfl rfl rfl rfl ⟨rfl, rfl, rfl, rfl, rfl⟩ rfl rfl rfl rfl rfl (by kernel_rfl) Try.func6 (by kernel_rfl)
    (of_decide_eq_true (by kernel_rfl)) (by unfold Func.isWrapper; first | (rw [if_pos (by decide +kernel)]; kernel_rfl) | (rw [if_neg (by decide +kernel)]; exact ⟨rfl, rfl⟩))
    (fun os started H enc _ => lifted os started H enc)
#print axioms proved

end Go.Proofs.Ythjncmnemppfhaa.SdTurns
