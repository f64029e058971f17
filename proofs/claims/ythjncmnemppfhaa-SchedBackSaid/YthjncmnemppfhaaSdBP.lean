/- Of SchedBack: bytes and scripts, there and back; no walk. -/
import Derived.Test.YthjncmnemppfhaaSdB
import Derived.Test.YthjncmnemppfhaaSdRd
namespace Go.Proofs.Ythjncmnemppfhaa.Sd
open Go.RowKit
set_option linter.unusedVariables false
set_option linter.unusedSimpArgs false

theorem strOf_get (xs : List Int) (k : Nat) (h : k < xs.length) (h2 : 0 ≤ xs.getD k 0 ∧ xs.getD k 0 ≤ 255) : byN (strOfNums xs) k = xs.getD k 0 := by
  unfold byN
  rw [strOfNums_data]
  simp only [List.getD, List.getElem?_map, List.getElem?_eq_getElem h, Option.map_some, Option.getD_some] at h2 ⊢
  rw [UInt8.toNat_ofNat']
  omega

theorem bytesN_get (l : List Pk) (n : Nat) : ∀ k, k < n → (bytesN l n).getD (k * 2) 0 = (l.getD k (0, 0)).1 % 256 ∧ (bytesN l n).getD (k * 2 + 1) 0 = (l.getD k (0, 0)).2 % 256 := by
  induction n with
  | zero => intro k h; omega
  | succ n ih =>
    intro k hk
    have hl := bytesN_len l n
    simp only [bytesN, List.getD] at ih ⊢
    by_cases h : k < n
    · rw [List.getElem?_append_left (by omega), List.getElem?_append_left (by omega)]
      exact ih k h
    · have e : k = n := by omega
      subst e
      rw [List.getElem?_append_right (by omega), List.getElem?_append_right (by omega), hl]
      simp

/-- two bytes read are one pick more -/
theorem readN_two (s : ByteArray) (m : Nat) : readN s (m * 2 + 2) = readN s (m * 2) ++ [(byN s (m * 2), byN s (m * 2 + 1))] := by
  have hl := readN_len s (m * 2)
  have h1 : readN s (m * 2 + 1) = readN s (m * 2) ++ [(byN s (m * 2), 0)] := by simp only [readN]; rw [if_pos (by omega)]
  have h2 : readN s (m * 2 + 2) = (readN s (m * 2 + 1)).set ((m * 2 + 1) / 2) (((readN s (m * 2 + 1)).getD ((m * 2 + 1) / 2) (0, 0)).1, byN s (m * 2 + 1)) := by
    show readN s ((m * 2 + 1) + 1) = _
    rw [readN, if_neg (by omega)]
  have e : (m * 2 + 1) / 2 = (readN s (m * 2)).length := by omega
  rw [h2, h1, e]
  simp

theorem readN_back (l : List Pk) (h : ∀ p ∈ l, (0 ≤ p.1 ∧ p.1 ≤ 255) ∧ (0 ≤ p.2 ∧ p.2 ≤ 255)) (n : Nat) (hn : n = l.length) : ∀ m, m ≤ n → readN (strOfNums (bytesN l n)) (m * 2) = l.take m := by
  intro m
  induction m with
  | zero => intro _; rfl
  | succ m ih =>
    intro hm
    have hb := bytesN_get l n m (by omega)
    have hl := bytesN_len l n
    have hlt : m < l.length := by omega
    have hp := h (l.getD m (0, 0)) (by simp only [List.getD, List.getElem?_eq_getElem hlt, Option.getD_some]; exact List.getElem_mem hlt)
    rw [show (m + 1) * 2 = m * 2 + 2 by omega, readN_two, ih (by omega), strOf_get _ _ (by omega) (by rw [hb.1]; omega), strOf_get _ _ (by omega) (by rw [hb.2]; omega), hb.1, hb.2, List.take_succ_eq_append_getElem hlt]
    have e1 : (l.getD m (0, 0)).1 % 256 = (l.getD m (0, 0)).1 := by omega
    have e2 : (l.getD m (0, 0)).2 % 256 = (l.getD m (0, 0)).2 := by omega
    rw [e1, e2]
    simp only [List.getD, List.getElem?_eq_getElem hlt, Option.getD_some]

theorem byN_in (s : ByteArray) (k : Nat) : 0 ≤ byN s k ∧ byN s k ≤ 255 := by
  unfold byN
  have := UInt8.toNat_lt (s.data.toList.getD k 0)
  omega
theorem bytesN_app (a b : List Pk) (n : Nat) (h : n ≤ a.length) : bytesN (a ++ b) n = bytesN a n := by
  induction n with
  | zero => rfl
  | succ n ih =>
    simp only [bytesN, List.getD]
    rw [ih (by omega), List.getElem?_append_left (by omega)]
theorem bytes_read (s : ByteArray) (m : Nat) : bytesN (readN s (m * 2)) m = (List.range (m * 2)).map (byN s) := by
  induction m with
  | zero => rfl
  | succ m ih =>
    have hl : (readN s (m * 2)).length = m := by rw [readN_len]; omega
    have h1 := byN_in s (m * 2)
    have h2 := byN_in s (m * 2 + 1)
    have e1 : byN s (m * 2) % 256 = byN s (m * 2) := by omega
    have e2 : byN s (m * 2 + 1) % 256 = byN s (m * 2 + 1) := by omega
    rw [show (m + 1) * 2 = m * 2 + 1 + 1 by omega, List.range_succ, List.range_succ]
    show bytesN (readN s (m * 2 + 2)) (m + 1) = _
    rw [readN_two]
    simp only [bytesN]
    rw [bytesN_app _ _ _ (by omega), ih]
    have e3 : (readN s (m * 2) ++ [(byN s (m * 2), byN s (m * 2 + 1))]).getD m (0, 0) = (byN s (m * 2), byN s (m * 2 + 1)) := by
      simp only [List.getD]
      rw [List.getElem?_append_right (by omega), hl]
      simp
    rw [e3]
    simp only [e1, e2]
    simp

theorem str_all (s : ByteArray) : strOfNums ((List.range s.size).map (byN s)) = s := by
  obtain ⟨d⟩ := s
  unfold strOfNums
  congr 1
  apply Array.ext'
  simp only [List.map_map]
  apply List.ext_getElem
  · simp [ByteArray.size]
  · intro i h1 h2
    simp only [List.getElem_map, List.getElem_range, Function.comp, byN]
    have h3 : i < d.toList.length := by simpa using h2
    simp only [List.getD, List.getElem?_eq_getElem h3, Option.getD_some, Int.toNat_natCast, UInt8.ofNat_toNat]
theorem str_app (a b : List Int) : strOfNums (a ++ b) = strOfNums a ++ strOfNums b := by
  apply ByteArray.ext
  rw [ByteArray.data_append]
  simp [strOfNums]
/-- what is read of any bytes is written as they were, but a last one alone -/
theorem back_even (s : ByteArray) (h : s.size % 2 = 0) : strOfNums (bytesN (readN s s.size) ((s.size + 1) / 2)) = s := by
  have e1 : s.size = (s.size / 2) * 2 := by omega
  have e2 : (s.size + 1) / 2 = s.size / 2 := by omega
  have h := bytes_read s (s.size / 2)
  rw [← e1] at h
  rw [e2, h, str_all]
theorem back_odd (s : ByteArray) (h : s.size % 2 = 1) : strOfNums (bytesN (readN s s.size) ((s.size + 1) / 2)) = s ++ ⟨#[0]⟩ := by
  obtain ⟨m, hm⟩ : ∃ m, m = s.size / 2 := ⟨_, rfl⟩
  have e1 : s.size = m * 2 + 1 := by omega
  have e2 : (s.size + 1) / 2 = m + 1 := by omega
  have hl : (readN s (m * 2)).length = m := by rw [readN_len]; omega
  have h1 : readN s (m * 2 + 1) = readN s (m * 2) ++ [(byN s (m * 2), 0)] := by simp only [readN]; rw [if_pos (by omega)]
  have hb := byN_in s (m * 2)
  have e3 : byN s (m * 2) % 256 = byN s (m * 2) := by omega
  have e4 : (readN s (m * 2) ++ [(byN s (m * 2), 0)]).getD m (0, 0) = (byN s (m * 2), 0) := by
    simp only [List.getD]
    rw [List.getElem?_append_right (by omega), hl]
    simp
  have h5 : bytesN (readN s s.size) ((s.size + 1) / 2) = (List.range s.size).map (byN s) ++ [0] := by
    rw [e2, e1, h1]
    simp only [bytesN]
    rw [bytesN_app _ _ _ (by omega), bytes_read, e4, List.range_succ]
    simp only [e3]
    simp
  rw [h5, str_app, str_all]
  rfl

end Go.Proofs.Ythjncmnemppfhaa.Sd
