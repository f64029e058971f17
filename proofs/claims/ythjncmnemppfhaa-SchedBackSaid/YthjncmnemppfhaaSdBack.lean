/- For every input SchedBack returns true, and its arguments read as they did. No conditions. -/
import Derived.Test.YthjncmnemppfhaaSdK
import Derived.Test.YthjncmnemppfhaaSdBP
import Derived.Test.YthjncmnemppfhaaSdO
import Derived.Test.YthjncmnemppfhaaSdA
import Derived.Test.YthjncmnemppfhaaOpen
import Derived.Deep.RegionHeld3
import Derived.Deep.AppendLies
import Derived.ChangeMaps5
namespace Go.Proofs.Ythjncmnemppfhaa.SdBack
open Go.RowKit Go.Proofs.Ythjncmnemppfhaa.Sd
set_option linter.unusedVariables false
set_option linter.unusedSimpArgs false

theorem take_snoc_pk (l : List Pk) (k : Nat) (h : k < l.length) : l.take (k + 1) = l.take k ++ [l.getD k (0, 0)] := by
  rw [List.take_succ_eq_append_getElem h]; simp [List.getD, List.getElem?_eq_getElem h]

theorem Wr_wrap (n : Int) : IntKind.i64.wrap n = wrap64 n := by rw [IntKind.wrap_i64, wrap64]

theorem back1 (L : List Pk) (hz : ∀ x ∈ L, (0 ≤ x.1 ∧ x.1 ≤ 255) ∧ (0 ≤ x.2 ∧ x.2 ≤ 255)) :
    (strOfNums (bytesN L L.length)).size = L.length * 2 ∧ readN (strOfNums (bytesN L L.length)) (strOfNums (bytesN L L.length)).size = L := by
  have e : (strOfNums (bytesN L L.length)).size = L.length * 2 := by
    show (strOfNums (bytesN L L.length)).data.size = _
    rw [← Array.length_toList, strOfNums_data]
    simp [bytesN_len]
  refine ⟨e, ?_⟩
  rw [e, readN_back L hz L.length rfl L.length (Nat.le_refl _), List.take_length]

set_option maxHeartbeats 1600000 in
theorem walk_some (A : Option Addr) (cap : Nat) (L : List Pk) (s : ByteArray) (w : World) (hm : L.length ≤ 500) (hs : s.size ≤ 1000) (hz : ∀ x ∈ L, (0 ≤ x.1 ∧ x.1 ≤ 255) ∧ (0 ≤ x.2 ∧ x.2 ≤ 255))
    (hA : 0 < L.length → ∃ b o, A = some ⟨b, o, none⟩ ∧ b < w.heap.size ∧ ∀ j, j < L.length → w.cell? ⟨b, o + j * 2, none⟩ = some (.int .u8 (L.getD j (0, 0)).1) ∧ w.cell? ⟨b, o + j * 2 + 1, none⟩ = some (.int .u8 (L.getD j (0, 0)).2)) :
    Calls Try.prog 3 #[.slice A L.length cap, .string s] w fun e w' => e = .returned (.bool true) ∧ Below w.heap.size w w' := by
  have HA := Lib.hid hA
  have HZ := Lib.hid hz
  clear hA hz
  obtain ⟨i0, hi, hz0, hz1, hz2⟩ := info_parts infoPick
  go_enter Try.func3, Try.ntmps3
  go_wp2_with (first | (go_at_call 7; refine (works_any _).mono ?_; rintro e w1 ⟨rfl, hb1⟩))
  go_loopw [5, 6] (fun v i wr => ∃ k : Nat, k ≤ L.length ∧ i = .int .i64 k ∧ wr.ownsRow w1.heap.size 27 2 v k (pk (L.take k)) ∧ Below w1.heap.size w1 wr) (fun _ i _ => L.length - (intOf i).toNat)
  case atStart => exact ⟨0, Nat.zero_le _, rfl, World.ownsRow_nil _ _ _ _, Below.refl _ _⟩
  case round =>
    obtain ⟨k, hk, rfl, hown, hbl⟩ := hrel
    have hszb := hbl.size
    by_cases hlt : k < L.length
    · obtain ⟨b, o, rfl, hb, hc⟩ := HA.out (by omega)
      have hbr : b < w1.heap.size := Nat.lt_of_lt_of_le hb hb1.size
      have c1 := (hbl.cell (p := ⟨b, o + k * 2, none⟩) hbr).trans ((hb1.cell (p := ⟨b, o + k * 2, none⟩) hb).trans (hc k hlt).1)
      have c2 := (hbl.cell (p := ⟨b, o + k * 2 + 1, none⟩) hbr).trans ((hb1.cell (p := ⟨b, o + k * 2 + 1, none⟩) hb).trans (hc k hlt).2)
      have hin := HZ.out (L.getD k (0, 0)) (by simp only [List.getD, List.getElem?_eq_getElem hlt, Option.getD_some]; exact List.getElem_mem hlt)
      have HT := Lib.hid (take_snoc_pk L k hlt)
      clear hc HA
      generalize L.getD k (0, 0) = p at *
      obtain ⟨p1, p2⟩ := p
      simp only at c1 c2 hin
      obtain ⟨⟨hp0, hp1⟩, hq0, hq1⟩ := hin
      have hi0' : (0 : Int) ≤ (k : Int) := Int.natCast_nonneg _
      have hi1 : (k : Int) < (L.length : Int) := by omega
      have hn1 : k + 1 ≤ maxLen := by unfold maxLen; omega
      have hn2 : (k + 1) * 16 ≤ 140737488355328 := by omega
      have hbase : w1.heap.size ≤ wr.heap.size + 1 := by omega
      have e1 : IntKind.i64.wrap p1 = p1 := by rw [Wr_wrap]; unfold wrap64; omega
      have e2 : IntKind.i64.wrap p2 = p2 := by rw [Wr_wrap]; unfold wrap64; omega
      go_wp2_with fail
      go_region_held3 (fun w' => w'.cell? ⟨b, o + k * 2, none⟩ = some (.int .u8 p1) ∧ w'.cell? ⟨b, o + k * 2 + 1, none⟩ = some (.int .u8 p2))
        (first
          | go_keep
          | (go_split_ands
             refine ⟨?_, ?_⟩
             · (rw [hgrow.cell_far _ (by simp; omega) (by intro h; have := (hown.lt b h.symm).1; omega)]; assumption)
             · (rw [hgrow.cell_far _ (by simp; omega) (by intro h; have := (hown.lt b h.symm).1; omega)]; assumption)))
        ((refine step_append_lies _ (by rfl) _ _ 24 (by rfl) w1.heap.size 27 i0 _ 2 16 Try.underlying24 hi hz0 hz1 hz2 rfl (by omega) _ k _ (by rfl) ((hown.alloc _).drew)
            ⟨wr.heap.size, 0, none⟩ 1 1 [.int .i64 p1, .int .i64 p2] (by rfl) (by rfl) (World.news_of_block (cs := #[.int .i64 p1, .int .i64 p2]) (t := 27) (fr := (0, 0)) (heap_alloc_new wr _)) (by simp [Value.oneCell'])
            (by omega) hn1 hn2 (by simp; omega) (wr.heap.size + 1) (by simp) ?_; intro gg cap' w2 hown' hgrow hat hlt2))
      clear e1 e2
      have hown2 : w2.ownsRow w1.heap.size 27 2 (.slice (some ⟨gg, 0, none⟩) (k + 1) cap') (k + 1) (pk (L.take (k + 1))) := by rw [HT.out, pk_snoc]; exact hown'
      have hbl2 : Below w1.heap.size w1 w2 := Below.grown ((hbl.alloc hszb _).drew) hgrow (by simp; omega) (fun j hj => (hown.lt j hj).1)
      clear hown' hgrow hown
      go_wp2_with fail
      go_roundw
      case rel => exact ⟨k + 1, by omega, by go_num, hown2, hbl2⟩
      case measure => simp [intOf]; omega
    · have e : k = L.length := by omega
      have hown2 : wr.ownsRow w1.heap.size 27 2 u5 L.length (pk L) := by
        have h := hown
        rw [e, List.take_length] at h
        exact h
      have hbt : Below w.heap.size w wr := hb1.trans (hbl.mono hb1.size)
      clear hown hbl
      obtain ⟨A', cap', rfl, hrd, hnn⟩ := Sd.rd_owned2 hown2 rfl
      have HN := Lib.hid hnn
      have HR := Lib.hid hrd
      have hb2 : Below w.heap.size w (wr.alloc (.cells #[] 27)) := hbt.alloc hbt.size _
      have HCK := Lib.hid ((hrd.kept ((Below.refl _ _).alloc (Nat.le_refl _) (.cells #[] 27))).all)
      have HK := Lib.hid hk
      clear hrd hnn hown2 hk
      by_cases hev : s.size % 2 = 1
      · have hev' : (s.size : Int) % 2 = 1 := by omega
        go_wp2_with (at_builtin; refine wpList_append_own_both _ (by first | rfl | simp [Region.wanted, yielded]) _ _ 24 rfl w1.heap.size 27 i0 (.agg #[.int .i64 0, .int .i64 0]) 2 16 Try.underlying24 hi hz0 hz1 hz2 rfl (by decide) _ 0 _ rfl (owns_empty wr _ _ _ hszb) A' L.length cap' (pk L) rfl HN.out (pk_len L) HCK.out (pk_one L) (by unfold maxLen; omega) (by omega) (by simp; omega) ?_)
        intro v' w4 hown' hgrow
        have hown1 : w4.ownsRow w1.heap.size 27 2 v' L.length (pk L) := by simpa using hown'
        have hbx : Below wr.heap.size wr w4 := Below.grown ((Below.refl _ _).alloc (Nat.le_refl _) _) hgrow (by simp) (fun j hj => by simp [Value.ownBlock] at hj; omega)
        have hb4 : Below w.heap.size w w4 := hbt.trans (hbx.mono hbt.size)
        obtain ⟨A4, cap4, rfl, hrd4, _⟩ := Sd.rd_owned2 hown1 rfl
        have HS1 := Lib.hid (back1 L HZ.out).1
        have HB1 := Lib.hid (back1 L HZ.out).2
        have HR4 := Lib.hid (HR.out.kept hbx)
        have HBX := Lib.hid hbx.size
        clear hown1 hown' hgrow hbx
        go_wp2_with fail
        refine (bytes_any A4 cap4 L.length L _ rfl hrd4 (by omega)).mono ?_
        rintro e w5 ⟨rfl, hb5⟩
        have hS := HS1.out
        have HR5 := Lib.hid (HR4.out.kept (hb5.mono HBX.out))
        have HSZ := Lib.hid hb5.size
        have hb6 : Below w.heap.size w w5 := hb4.trans (hb5.mono hb4.size)
        clear hb4 hb5 hrd4 HR4 HCK HR
        have hSle : (strOfNums (bytesN L L.length)).size ≤ 4194304 := by omega
        have hlen5 : ((strOfNums (bytesN L L.length)).size + 1) / 2 = L.length := by omega
        have hrd := read_any (strOfNums (bytesN L L.length)) w5 hSle
        rw [hlen5, HB1.out] at hrd
        generalize strOfNums (bytesN L L.length) = S at *
        have HRD := Lib.hid hrd
        clear hS hSle hlen5 hrd HB1 HS1
        go_wp2_with fail
        refine HRD.out.mono ?_
        rintro e w6 ⟨v6, rfl, hown6, hb7⟩
        obtain ⟨A6, cap6, rfl, hrd6, _⟩ := Sd.rd_owned2 hown6 rfl
        have HR6 := Lib.hid ((HR5.out.kept (hb7.mono (Nat.le_trans HBX.out HSZ.out))).up (Nat.le_trans HBX.out (Nat.le_trans HSZ.out hb7.size)))
        have HRD6 := Lib.hid hrd6
        have hb8 : Below w.heap.size w w6 := hb6.trans (hb7.mono hb6.size)
        clear hown6 hb7 hb6 HR5 HRD hrd6 HSZ HBX
        go_wp2_with fail
        refine (same_any A6 A' cap6 cap' L.length L.length L L _ rfl rfl HRD6.out HR6.out (by omega) (by omega)).mono ?_
        rintro e w7 ⟨rfl, hb9⟩
        have hb10 : Below w.heap.size w w7 := hb8.trans (hb9.mono hb8.size)
        clear hb8 hb9 HRD6 HR6
        have hLL : decide (L = L) = true := by simp
        rw [hLL]
        have HRS := Lib.hid (read_any s w7 (by omega))
        go_wp2_with fail
        refine HRS.out.mono ?_
        rintro e w8 ⟨v8, rfl, hown8, hb11⟩
        obtain ⟨A8, cap8, rfl, hrd8, _⟩ := Sd.rd_owned2 hown8 (readN_len s s.size).symm
        have hbs := bytes_any A8 cap8 ((s.size + 1) / 2) (readN s s.size) w8 (readN_len s s.size).symm hrd8 (by omega)
        rw [back_odd s hev] at hbs
        rw [readN_len]
        have HBS := Lib.hid hbs
        have hb12 : Below w.heap.size w w8 := hb10.trans (hb11.mono hb10.size)
        clear hown8 hb11 hb10 hrd8 hbs HRS hLL
        go_wp2_with fail
        refine HBS.out.mono ?_
        rintro e w9 ⟨rfl, hb13⟩
        have hb14 : Below w.heap.size w w9 := hb12.trans (hb13.mono hb12.size)
        clear hb12 hb13 HBS
        go_wp2_with fail
        go_ret
        exact ⟨by simp, hb14⟩
      · have hev' : ¬ (s.size : Int) % 2 = 1 := by omega
        go_wp2_with (at_builtin; refine wpList_append_own_both _ (by first | rfl | simp [Region.wanted, yielded]) _ _ 24 rfl w1.heap.size 27 i0 (.agg #[.int .i64 0, .int .i64 0]) 2 16 Try.underlying24 hi hz0 hz1 hz2 rfl (by decide) _ 0 _ rfl (owns_empty wr _ _ _ hszb) A' L.length cap' (pk L) rfl HN.out (pk_len L) HCK.out (pk_one L) (by unfold maxLen; omega) (by omega) (by simp; omega) ?_)
        intro v' w4 hown' hgrow
        have hown1 : w4.ownsRow w1.heap.size 27 2 v' L.length (pk L) := by simpa using hown'
        have hbx : Below wr.heap.size wr w4 := Below.grown ((Below.refl _ _).alloc (Nat.le_refl _) _) hgrow (by simp) (fun j hj => by simp [Value.ownBlock] at hj; omega)
        have hb4 : Below w.heap.size w w4 := hbt.trans (hbx.mono hbt.size)
        obtain ⟨A4, cap4, rfl, hrd4, _⟩ := Sd.rd_owned2 hown1 rfl
        have HS1 := Lib.hid (back1 L HZ.out).1
        have HB1 := Lib.hid (back1 L HZ.out).2
        have HR4 := Lib.hid (HR.out.kept hbx)
        have HBX := Lib.hid hbx.size
        clear hown1 hown' hgrow hbx
        go_wp2_with fail
        refine (bytes_any A4 cap4 L.length L _ rfl hrd4 (by omega)).mono ?_
        rintro e w5 ⟨rfl, hb5⟩
        have hS := HS1.out
        have HR5 := Lib.hid (HR4.out.kept (hb5.mono HBX.out))
        have HSZ := Lib.hid hb5.size
        have hb6 : Below w.heap.size w w5 := hb4.trans (hb5.mono hb4.size)
        clear hb4 hb5 hrd4 HR4 HCK HR
        have hSle : (strOfNums (bytesN L L.length)).size ≤ 4194304 := by omega
        have hlen5 : ((strOfNums (bytesN L L.length)).size + 1) / 2 = L.length := by omega
        have hrd := read_any (strOfNums (bytesN L L.length)) w5 hSle
        rw [hlen5, HB1.out] at hrd
        generalize strOfNums (bytesN L L.length) = S at *
        have HRD := Lib.hid hrd
        clear hS hSle hlen5 hrd HB1 HS1
        go_wp2_with fail
        refine HRD.out.mono ?_
        rintro e w6 ⟨v6, rfl, hown6, hb7⟩
        obtain ⟨A6, cap6, rfl, hrd6, _⟩ := Sd.rd_owned2 hown6 rfl
        have HR6 := Lib.hid ((HR5.out.kept (hb7.mono (Nat.le_trans HBX.out HSZ.out))).up (Nat.le_trans HBX.out (Nat.le_trans HSZ.out hb7.size)))
        have HRD6 := Lib.hid hrd6
        have hb8 : Below w.heap.size w w6 := hb6.trans (hb7.mono hb6.size)
        clear hown6 hb7 hb6 HR5 HRD hrd6 HSZ HBX
        go_wp2_with fail
        refine (same_any A6 A' cap6 cap' L.length L.length L L _ rfl rfl HRD6.out HR6.out (by omega) (by omega)).mono ?_
        rintro e w7 ⟨rfl, hb9⟩
        have hb10 : Below w.heap.size w w7 := hb8.trans (hb9.mono hb8.size)
        clear hb8 hb9 HRD6 HR6
        have hLL : decide (L = L) = true := by simp
        rw [hLL]
        have HRS := Lib.hid (read_any s w7 (by omega))
        go_wp2_with fail
        refine HRS.out.mono ?_
        rintro e w8 ⟨v8, rfl, hown8, hb11⟩
        obtain ⟨A8, cap8, rfl, hrd8, _⟩ := Sd.rd_owned2 hown8 (readN_len s s.size).symm
        have hbs := bytes_any A8 cap8 ((s.size + 1) / 2) (readN s s.size) w8 (readN_len s s.size).symm hrd8 (by omega)
        rw [back_even s (by omega)] at hbs
        rw [readN_len]
        have HBS := Lib.hid hbs
        have hb12 : Below w.heap.size w w8 := hb10.trans (hb11.mono hb10.size)
        clear hown8 hb11 hb10 hrd8 hbs HRS hLL
        go_wp2_with fail
        refine HBS.out.mono ?_
        rintro e w9 ⟨rfl, hb13⟩
        have hb14 : Below w.heap.size w w9 := hb12.trans (hb13.mono hb12.size)
        clear hb12 hb13 HBS
        go_wp2_with fail
        go_ret
        exact ⟨by simp, hb14⟩

theorem walk_long (A : Option Addr) (n cap : Nat) (s : ByteArray) (w : World) (hn : 500 < (n : Int) ∨ ¬ 500 < (n : Int) ∧ 1000 < (s.size : Int)) :
    Calls Try.prog 3 #[.slice A n cap, .string s] w fun e w' => e = .returned (.bool true) ∧ Below w.heap.size w w' := by
  rcases hn with h | ⟨h, h2⟩
  · have hd : decide (500 < (n : Int)) = true := by simp [h]
    go_enter Try.func3, Try.ntmps3
    go_wp2_with (first | (go_at_call 7; refine (works_any _).mono ?_; rintro e w1 ⟨rfl, hb1⟩))
    go_ret
    exact ⟨rfl, hb1⟩
  · have hd : decide (500 < (n : Int)) = false := by simpa using h
    have hd2 : decide (1000 < (s.size : Int)) = true := by simp [h2]
    go_enter Try.func3, Try.ntmps3
    go_wp2_with (first | (go_at_call 7; refine (works_any _).mono ?_; rintro e w1 ⟨rfl, hb1⟩))
    go_ret
    exact ⟨rfl, hb1⟩

open Go.ChangeShapes Go.WideShapes Go.ChangeAt

set_option maxRecDepth 100000 in
theorem lifted (os : Os) (started : os.Started) (H : Type) (enc : TypeId × Value → H) :
    ReturnsInHanded {} Try.checked os 3 .any (Rows.schedBackSpec.pre6 enc Try.prog Try.f3 Rows.schedBackRow.domain false) (Rows.schedBackSpec.post enc Try.prog Try.f3 false true false false) := by
  refine Frame.law_lift (C := Try.checked) Frame.own started (by kernel_rfl) Try.func3 Frame.laidOut
    (ChangeSpec.witness6 (enc := enc) (C := Try.checked) false ⟨#[], #[.slice none 0 0, .string ⟨#[]⟩], []⟩ 8 (by kernel_rfl) (by kernel_rfl) (by kernel_rfl) (by kernel_rfl))
    rfl rfl Try.underlying4 (by kernel_rfl) (fun ds h => by match ds, h with | [_, _], _ => exact ⟨rfl, rfl, rfl⟩) ?_
  intro W base args ds p hval0 hA hlt hsz
  have hval : ∀ (j : Nat) t v, Try.f3.params[j]? = some t → args[j]? = some v → Value.okWide Try.prog W .any base t v := hval0
  clear hval0
  replace hA : DataW.TrodAll enc Try.prog W 0 (fun _ => true) true Try.f3.params.toList args.toList ds p := hA
  replace hsz : (DataW.weightsEach Try.prog Try.f3.params.toList ds).all (· ≤ reachBytes) = true := hsz
  rw [Try.params3] at hA hval hsz
  obtain ⟨v0, v1, d0, d1, p0, p1, rfl, rfl, rfl, h0, h1⟩ := trodAll_two hA
  obtain ⟨A, cap, L, rfl, _, hz, hc⟩ := SdO.open_slice_bytes2 Try.underlying22 Try.underlying25 (by kernel_rfl) (by kernel_rfl) Try.underlying5 (hval 0 22 v0 rfl rfl) h0 (fun x hx => hlt x (by simp [hx]))
  obtain ⟨s, rfl, _, _, hs⟩ := Go.ChangeMaps.open_string Try.underlying9 (hval 1 9 v1 rfl rfl) h1
  by_cases g1 : 500 < (L.length : Int)
  · exact walk_long A _ cap s W (Or.inl g1)
  · by_cases g2 : 1000 < (s.size : Int)
    · exact walk_long A _ cap s W (Or.inr ⟨g1, g2⟩)
    · exact walk_some A cap L s W (by omega) (by omega) hz hc

theorem proved : Rows.SchedBackSaid :=
  OpenClaim.holds_of_wide 3 Try.f3 rfl rfl rfl rfl rfl rfl rfl ⟨rfl, rfl, rfl, rfl, rfl⟩ rfl rfl rfl rfl rfl (by kernel_rfl) Try.func3 (by kernel_rfl)
    (of_decide_eq_true (by kernel_rfl)) (by unfold Func.isWrapper; first | (rw [if_pos (by decide +kernel)]; kernel_rfl) | (rw [if_neg (by decide +kernel)]; exact ⟨rfl, rfl⟩))
    (fun os started H enc _ => lifted os started H enc)
#print axioms proved

end Go.Proofs.Ythjncmnemppfhaa.SdBack
