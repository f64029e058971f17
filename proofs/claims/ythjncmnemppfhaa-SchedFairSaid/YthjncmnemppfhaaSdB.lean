/- The walk of sched.Bytes. -/
import Derived.Test.YthjncmnemppfhaaSdP
import Derived.Laws.BytesArg
namespace Go.Proofs.Ythjncmnemppfhaa.Sd
open Go.RowKit
set_option linter.unusedVariables false
set_option linter.unusedSimpArgs false

def bytesN (l : List Pk) : Nat → List Int
  | 0 => []
  | k + 1 => bytesN l k ++ [(l.getD k (0, 0)).1 % 256, (l.getD k (0, 0)).2 % 256]
theorem bytesN_len (l : List Pk) (k : Nat) : (bytesN l k).length = k * 2 := by
  induction k with
  | zero => rfl
  | succ k ih => simp [bytesN, ih]; omega
theorem bytesN_snoc (l : List Pk) (k : Nat) (x y : Int) (h : bytesN l (k + 1) = bytesN l k ++ [x, y]) : (bytesN l (k + 1)).map (Value.int .u8) = (bytesN l k).map (Value.int .u8) ++ [.int .u8 x, .int .u8 y] := by
  rw [h]; simp

theorem infoByte : (Try.prog.info? 5).map (fun i => (i.zero, i.size, i.bytes)) = some (some (.int .u8 0), 1, 1) := by kernel_rfl

theorem str_owned {w : World} {base n : Nat} {v : Value} {xs : List Int} (hown : w.ownsRow base 5 1 v n (xs.map (Value.int .u8))) (hn : n = xs.length) :
    (convert 43 9 v).run Try.prog w = .ok (.string (strOfNums xs)) w := by
  rcases hown.2 with ⟨rfl, h0⟩ | ⟨g, cap, cur, rfl, hb, hgg, rest⟩
  · have : xs = [] := List.eq_nil_of_length_eq_zero (by omega)
    subst this
    exact run_convert_bytes_nil w _ _ Try.underlying43 Try.underlying5 _ _ _ Try.underlying9
  · refine run_convert_bytes_arg w _ _ Try.underlying43 Try.underlying5 g 0 n cap xs hn.symm (fun i hi => ?_) _ Try.underlying9
    have h1 := hown.cells (g := g) rfl i (.int .u8 (xs.getD i 0)) (by simp [List.getD, show i < xs.length by omega])
    rw [Addr.add_lit] at h1
    exact h1

set_option maxHeartbeats 800000 in
theorem bytes_any (A : Option Addr) (c n : Nat) (l : List Pk) (w : World) (hn : n = l.length) (hA : RdP w w.heap.size A l) (hl : n ≤ 4194304) :
    Calls Try.prog 10 #[.slice A n c] w fun e w' => e = .returned (.string (strOfNums (bytesN l n))) ∧ Below w.heap.size w w' := by
  have HA := Lib.hid hA
  have Hn := Lib.hid hn
  clear hA hn
  obtain ⟨i0, hi, hz0, hz1, hz2⟩ := info_parts infoByte
  go_enter Try.func10, Try.ntmps10
  go_wp2_with fail
  go_loopw [3, 8] (fun v i wr => ∃ k : Nat, k ≤ n ∧ i = .int .i64 k ∧ wr.ownsRow w.heap.size 5 1 v (k * 2) ((bytesN l k).map (Value.int .u8)) ∧ Below w.heap.size w wr) (fun _ i _ => n - (intOf i).toNat)
  case atStart => exact ⟨0, Nat.zero_le _, rfl, World.ownsRow_nil _ _ _ _, Below.refl _ _⟩
  case round =>
    obtain ⟨k, hk, rfl, hown, hbl⟩ := hrel
    have hszb := hbl.size
    by_cases hlt : k < n
    · obtain ⟨b, o, rfl, hb, hc⟩ := HA.out (by rw [← Hn.out]; omega)
      have c1 := (hbl.cell (p := ⟨b, o + k * 2, none⟩) hb).trans (hc k (by rw [← Hn.out]; exact hlt)).1
      have c2 := (hbl.cell (p := ⟨b, o + k * 2 + 1, none⟩) hb).trans (hc k (by rw [← Hn.out]; exact hlt)).2
      have HS : Hid (bytesN l (k + 1) = bytesN l k ++ [(l.getD k (0, 0)).1 % 256, (l.getD k (0, 0)).2 % 256]) := Lib.hid rfl
      clear hc HA
      generalize l.getD k (0, 0) = p at *
      obtain ⟨p1, p2⟩ := p
      simp only at c1 c2 HS
      go_wp2_with (at_builtin; refine wpList_append_own _ rfl _ _ 43 rfl w.heap.size 5 i0 (.int .u8 0) 1 1 Try.underlying43 hi hz0 hz1 hz2 rfl (by decide) _ _ _ rfl ((hown.alloc _).alloc _) ⟨wr.heap.size + 1, 0, none⟩ 2 2 [.int .u8 (p1 % 256), .int .u8 (p2 % 256)] rfl rfl ?c1 ?c2 ?c3 ?c4 ?c5 ?_)
      case c1 =>
        intro j u hj
        match j, hj with
        | 0, hj => simp at hj; subst hj; rw [Addr.add_lit, cell_new _ _ _ _ _ (by simp)]; rfl
        | 1, hj => simp at hj; subst hj; rw [Addr.add_lit, cell_new _ _ _ _ _ (by simp)]; rfl
      case c2 => intro u hu; simp at hu; rcases hu with rfl | rfl <;> rfl
      case c3 => unfold maxLen; omega
      case c4 => omega
      case c5 => simp; omega
      intro v' w2 hown' hgrow _
      have hown2 : w2.ownsRow w.heap.size 5 1 v' ((k + 1) * 2) ((bytesN l (k + 1)).map (Value.int .u8)) := by rw [bytesN_snoc l k _ _ HS.out, show (k + 1) * 2 = k * 2 + 2 by omega]; exact hown'
      have hbl2 : Below w.heap.size w w2 := Below.grown ((hbl.alloc hszb _).alloc (by simp; omega) _) hgrow (by simp; omega) (fun j hj => (hown.lt j hj).1)
      clear hown' hgrow hown
      go_wp2_with fail
      go_roundw
      case rel => exact ⟨k + 1, by omega, by go_num, hown2, hbl2⟩
      case measure => simp [intOf]; omega
    · have e : k = n := by omega
      subst e
      have hcv := str_owned hown (bytesN_len l k).symm
      go_wp2_with fail
      go_ret
      exact ⟨rfl, hbl⟩

end Go.Proofs.Ythjncmnemppfhaa.Sd
