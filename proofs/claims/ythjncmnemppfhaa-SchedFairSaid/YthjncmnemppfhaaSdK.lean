/- The walk of forebaylaw36.works. -/
import Derived.Test.YthjncmnemppfhaaSdR
import Derived.Test.YthjncmnemppfhaaSdS
import Derived.Test.YthjncmnemppfhaaSdB
import Derived.Test.YthjncmnemppfhaaSdRd
import Derived.Test.YthjncmnemppfhaaSdWi
namespace Go.Proofs.Ythjncmnemppfhaa.Sd
open Go.RowKit
set_option linter.unusedVariables false
set_option linter.unusedSimpArgs false

theorem works_any (w : World) :
    Calls Try.prog 7 #[] w fun e w' => e = .returned (.bool true) ∧ Below w.heap.size w w' := by
  have kl : lastN [(0, 0), (1, 0), (1, 0), (0, 0)] 2 4 = [4, 3] := by decide
  have kw : wide2 [(0, 0), (1, 0), (1, 0), (0, 0)] 2 2 = 3 := by decide
  have kr : roundV 2 5 3 = [(0, 5), (1, 5), (0, 5)] := by decide
  go_enter Try.func7, Try.ntmps7
  go_wp2_with fail
  refine (window_any (some ⟨w.heap.size, 0, none⟩) 4 4 2 [(0, 0), (1, 0), (1, 0), (0, 0)] _ rfl ?_ (by decide) 2 rfl).mono ?_
  · intro _
    refine ⟨_, _, rfl, by simp, fun j hj => ?_⟩
    rw [cell_new _ _ _ _ _ rfl, cell_new _ _ _ _ _ rfl]
    match j, hj with
    | 0, _ => exact ⟨rfl, rfl⟩
    | 1, _ => exact ⟨rfl, rfl⟩
    | 2, _ => exact ⟨rfl, rfl⟩
    | 3, _ => exact ⟨rfl, rfl⟩
  rintro e w1 ⟨⟨⟨j, hj, h0⟩, rfl⟩ | ⟨_, rfl⟩, hb1⟩
  · rw [kl] at h0
    match j, hj with
    | 0, _ => simp at h0
    | 1, _ => simp at h0
  have kw' : wide2 [(0, 0), (1, 0), (1, 0), (0, 0)] 2 (Int.toNat 2) = 3 := kw
  rw [kw']
  go_wp2_with (go_at_call 17; refine (round_any 2 5 3 3 (by decide) _).mono ?_; rintro e w2 ⟨v, rfl, hown, hb2⟩; rw [kr] at hown; obtain ⟨A, cap, rfl, hrd⟩ := rd_owned hown rfl)
  refine (same_any A (some ⟨w2.heap.size, 0, none⟩) cap 3 3 3 [(0, 5), (1, 5), (0, 5)] [(0, 5), (1, 5), (0, 5)] _ rfl rfl ?_ ?_ (by decide) (by decide)).mono ?_
  · exact (hrd.kept ((Below.refl _ _).alloc (Nat.le_refl _) _)).up (by simp)
  · intro _
    refine ⟨_, _, rfl, by simp, fun j hj => ?_⟩
    rw [cell_new _ _ _ _ _ rfl, cell_new _ _ _ _ _ rfl]
    match j, hj with
    | 0, _ => exact ⟨rfl, rfl⟩
    | 1, _ => exact ⟨rfl, rfl⟩
    | 2, _ => exact ⟨rfl, rfl⟩
  rintro e w3 ⟨rfl, hb3⟩
  have kd : decide (([(0, 5), (1, 5), (0, 5)] : List Pk) = [(0, 5), (1, 5), (0, 5)]) = true := by decide
  rw [kd]
  go_wp2_with fail
  refine (bytes_any (some ⟨w3.heap.size, 0, none⟩) 1 1 [(1, 2)] _ rfl ?_ (by decide)).mono ?_
  · intro _
    refine ⟨_, _, rfl, by simp, fun j hj => ?_⟩
    rw [cell_new _ _ _ _ _ rfl, cell_new _ _ _ _ _ rfl]
    match j, hj with
    | 0, _ => exact ⟨rfl, rfl⟩
  rintro e w4 ⟨rfl, hb4⟩
  have kb : strOfNums (bytesN [(1, 2)] 1) = ⟨#[1, 2]⟩ := by decide
  rw [kb]
  go_wp2_with fail
  go_ret
  refine ⟨rfl, ?_⟩
  have b1 := ((Below.refl w.heap.size w).alloc (Nat.le_refl _) (.cells #[.int .i64 0, .int .i64 0, .int .i64 1, .int .i64 0, .int .i64 1, .int .i64 0, .int .i64 0, .int .i64 0] 27)).trans (hb1.mono (by simp))
  have b2 := b1.trans (hb2.mono b1.size)
  have b3 := (b2.alloc b2.size (.cells #[.int .i64 0, .int .i64 5, .int .i64 1, .int .i64 5, .int .i64 0, .int .i64 5] 27)).trans (hb3.mono (by have := b2.size; simp; omega))
  exact (b3.alloc b3.size _).trans (hb4.mono (by have := b3.size; simp; omega))

end Go.Proofs.Ythjncmnemppfhaa.Sd
