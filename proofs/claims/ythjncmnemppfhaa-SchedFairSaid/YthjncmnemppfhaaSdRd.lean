/- The walk of sched.Read. -/
import Derived.Test.YthjncmnemppfhaaSdR
namespace Go.Proofs.Ythjncmnemppfhaa.Sd
open Go.RowKit
set_option linter.unusedVariables false
set_option linter.unusedSimpArgs false

def byN (s : ByteArray) (k : Nat) : Int := ((s.data.toList.getD k 0).toNat : Int)
def readN (s : ByteArray) : Nat → List Pk
  | 0 => []
  | k + 1 => if k % 2 = 0 then readN s k ++ [(byN s k, 0)] else (readN s k).set (k / 2) (((readN s k).getD (k / 2) (0, 0)).1, byN s k)
theorem readN_len (s : ByteArray) (k : Nat) : (readN s k).length = (k + 1) / 2 := by
  induction k with
  | zero => rfl
  | succ k ih =>
    unfold readN
    split
    · simp [ih]; omega
    · simp [ih]; omega

theorem pk_set2 (l : List Pk) : ∀ (m : Nat) (z : Int), m < l.length → (pk l).set (m * 2 + 1) (.int .i64 z) = pk (l.set m ((l.getD m (0, 0)).1, z)) := by
  induction l with
  | nil => intro m z h; simp at h
  | cons x l ih =>
    intro m z h
    have e : pk (x :: l) = .int .i64 x.1 :: .int .i64 x.2 :: pk l := rfl
    rcases m with _ | m
    · rfl
    · have := ih m z (by simpa using h)
      rw [e, show (m + 1) * 2 + 1 = m * 2 + 1 + 1 + 1 by omega]
      simp only [List.set_cons_succ, this]
      rfl

theorem by_at (s : ByteArray) (k : Nat) (h : k < s.size) : byN s k = ((s[k]'h).toNat : Int) := by
  have h' : k < s.data.toList.length := by simpa using h
  unfold byN
  rw [List.getD, List.getElem?_eq_getElem h']
  rfl

set_option maxHeartbeats 800000 in
theorem read_any (s : ByteArray) (w : World) (hl : s.size ≤ 4194304) :
    Calls Try.prog 9 #[.string s] w fun e w' => ∃ v, e = .returned v ∧ w'.ownsRow w.heap.size 27 2 v ((s.size + 1) / 2) (pk (readN s s.size)) ∧ Below w.heap.size w w' := by
  obtain ⟨i0, hi, hz0, hz1, hz2⟩ := info_parts infoPick
  go_enter Try.func9, Try.ntmps9
  go_wp2_with fail
  go_loopw [3, 7] (fun v i wr => ∃ k : Nat, k ≤ s.size ∧ i = .int .i64 k ∧ wr.ownsRow w.heap.size 27 2 v ((k + 1) / 2) (pk (readN s k)) ∧ Below w.heap.size w wr) (fun _ i _ => s.size - (intOf i).toNat)
  case atStart => exact ⟨0, Nat.zero_le _, rfl, World.ownsRow_nil _ _ _ _, Below.refl _ _⟩
  case round =>
    obtain ⟨k, hk, rfl, hown, hbl⟩ := hrel
    have hszb := hbl.size
    by_cases hlt : k < s.size
    · have hby : Hid (byN s k = ((s[k]'hlt).toNat : Int)) := Lib.hid (by_at s k hlt)
      have h255 : (s[k]'hlt).toNat ≤ 255 := by have := UInt8.toNat_lt (s[k]'hlt); omega
      have hw : wrap64 ((s[k]'hlt).toNat : Int) = ((s[k]'hlt).toNat : Int) := by unfold wrap64; omega
      by_cases hev : k % 2 = 0
      · have hev' : (k : Int) % 2 = 0 := by omega
        have HR : Hid (readN s (k + 1) = readN s k ++ [(((s[k]'hlt).toNat : Int), 0)]) := Lib.hid (by rw [← hby.out]; simp only [readN]; rw [if_pos hev])
        have hm : Hid ((k + 1) / 2 + 1 = (k + 1 + 1) / 2) := Lib.hid (by omega)
        go_wp2_with (at_builtin; refine wpList_append_own _ rfl _ _ 24 rfl w.heap.size 27 i0 (.agg #[.int .i64 0, .int .i64 0]) 2 16 Try.underlying24 hi hz0 hz1 hz2 rfl (by decide) _ _ _ rfl (hown.alloc _) ⟨wr.heap.size, 0, none⟩ 1 1 [.int .i64 ((s[k]'hlt).toNat : Int), .int .i64 0] rfl rfl ?c1 ?c2 ?c3 ?c4 ?c5 ?_)
        case c1 =>
          intro j u hj
          match j, hj with
          | 0, hj => simp at hj; subst hj; rw [Addr.add_lit, cell_new _ _ _ _ _ (by simp)]; simp [hw]
          | 1, hj => simp at hj; subst hj; rw [Addr.add_lit, cell_new _ _ _ _ _ (by simp)]; simp
        case c2 => intro u hu; simp at hu; rcases hu with rfl | rfl <;> rfl
        case c3 => unfold maxLen; omega
        case c4 => omega
        case c5 => simp; omega
        intro v' w2 hown' hgrow _
        have hown2 : w2.ownsRow w.heap.size 27 2 v' ((k + 1 + 1) / 2) (pk (readN s (k + 1))) := by rw [HR.out, pk_snoc, ← hm.out]; exact hown'
        have hbl2 : Below w.heap.size w w2 := Below.grown (hbl.alloc hszb _) hgrow (by simp; omega) (fun j hj => (hown.lt j hj).1)
        clear hown' hgrow hown
        go_wp2_with fail
        go_roundw
        case rel => exact ⟨k + 1, by omega, by go_num, hown2, hbl2⟩
        case measure => simp [intOf]; omega
      · have hev' : (k : Int) % 2 = 1 := by omega
        have hm : Hid ((k + 1) / 2 = (k + 1 + 1) / 2) := Lib.hid (by omega)
        obtain ⟨m, hkm⟩ : ∃ m, m = k / 2 := ⟨_, rfl⟩
        obtain ⟨n2, hn2⟩ : ∃ n2, n2 = (k + 1) / 2 := ⟨_, rfl⟩
        have hq : (k : Int) / 2 = (m : Int) := by omega
        have hk2 : m < n2 := by omega
        have hk3 : (m : Int) < (n2 : Int) := by omega
        have hrl : m < (readN s k).length := by rw [readN_len]; omega
        have HM := Lib.hid hkm
        have HN2 := Lib.hid hn2
        rw [← hn2] at hown
        clear hkm hn2
        rcases hown.2 with ⟨_, h0⟩ | ⟨g, cap, cur, rfl, hbg, hgg, _⟩
        · omega
        · have hc := (hown.cellAt (m * 2 + 1) (by omega)).trans (pk_get (readN s k) m hrl).2
          have hf := hown.frozenAt (m * 2 + 1)
          have HO := Lib.hid hown
          clear hown hgg hrl
          generalize (List.getD (readN s k) m (0, 0)).2 = old at *
          have HR : Hid (pk (readN s (k + 1)) = (pk (readN s k)).set (m * 2 + 1) (.int .i64 ((s[k]'hlt).toNat : Int))) := Lib.hid (by
            have e : readN s (k + 1) = (readN s k).set (k / 2) (((readN s k).getD (k / 2) (0, 0)).1, byN s k) := by simp only [readN]; rw [if_neg hev]
            rw [e, hby.out, ← HM.out]
            exact (pk_set2 _ _ _ (by rw [readN_len, ← HN2.out]; exact hk2)).symm)
          go_wp2_with fail
          go_roundw
          case rel =>
            refine ⟨k + 1, by omega, by go_num, ?_, hbl.setCell (by exact hbg) _⟩
            rw [HR.out, ← hm.out, ← HN2.out]
            exact (HO.out.stored (m * 2 + 1) _).1
          case measure => simp [intOf]; omega
    · have e : k = s.size := by omega
      subst e
      go_wp2_with fail
      go_ret
      exact ⟨_, rfl, hown, hbl⟩

end Go.Proofs.Ythjncmnemppfhaa.Sd
