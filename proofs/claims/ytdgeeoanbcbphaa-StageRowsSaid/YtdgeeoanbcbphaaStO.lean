/- An argument that is a slice of cells (a number and a yes-or-no each), opened. -/
import Derived.Test.YtdgeeoanbcbphaaFrame
import Derived.Test.YtdgeeoanbcbphaaStP
import Derived.Deep.SlicePairs
namespace Go.Proofs.Ytdgeeoanbcbphaa.StO
open Go.ChangeShapes Go.WideShapes Go.ChangeAt Go.RowKit

def boolOf : Value → Bool
  | .bool b => b
  | _ => false

theorem open_slice_cells {H : Type} {enc : TypeId × Value → H} {P : Program} {W : World} {base : Nat} {T E : TypeId} {f0 f1 : Field} {v : Value} {d : DataW H} {p : List MemPlace}
    (hT : P.underlying T = some (.slice E)) (hE : P.underlying E = some (.struct #[f0, f1])) (ce : P.cellsOf E = 2) (o0 : f0.offset = 0) (o1 : f1.offset = 1) (c0 : P.cellsOf f0.type = 1) (c1 : P.cellsOf f1.type = 1)
    (t0 : P.underlying f0.type = some (.int .i64)) (t1 : P.underlying f1.type = some .bool)
    (hv : Value.okWide P W .any base T v) (hd : DataW.Trod enc P W 0 (fun _ => true) true T v d p) (hlt : ∀ x ∈ p, x.block < W.heap.size) :
    ∃ (A : Option Addr) (cap : Nat) (L : List Int) (B : Nat → Bool), v = .slice A L.length cap ∧ L.length ≤ maxLen ∧ (A = none → L.length = 0 ∧ cap = 0) ∧
      (0 < L.length → ∃ b o, A = some ⟨b, o, none⟩ ∧ b < W.heap.size ∧ ∀ j, j < L.length → W.cell? ⟨b, o + j * 2, none⟩ = some (.int .i64 (L.getD j 0)) ∧ W.cell? ⟨b, o + j * 2 + 1, none⟩ = some (.bool (B j))) := by
  obtain ⟨a0, len, cap, rfl⟩ := okWide_slice hT hv
  obtain ⟨fuel, hf⟩ := hd
  rcases Go.Deep.open_slice_pairs hT hE ce o0 o1 c0 c1 hf with ⟨hcs, hx⟩ | ⟨a, len', cap', m, n, V0, V1, D0, D1, P0, P1, hcs, _, hl, hm, hmm, hx, hcell⟩
  · simp [Value.cells] at hcs
    obtain ⟨rfl, rfl, rfl⟩ := hcs
    exact ⟨none, 0, [], fun _ => false, rfl, Nat.zero_le _, fun _ => ⟨rfl, rfl⟩, fun h => absurd h (by simp)⟩
  · simp [Value.cells] at hcs
    obtain ⟨rfl, rfl, rfl⟩ := hcs
    have hlm : len ≤ m := by rw [hmm]; split <;> omega
    have h0 : ∀ i, i < m → V0 i = .int .i64 (intOf (V0 i)) := by
      intro i hi
      obtain ⟨z, hz, _, _⟩ := DataW.trod_int t0 (hcell i hi).2.2.1
      simp only [List.cons.injEq, and_true] at hz
      rw [hz]; rfl
    have h1 : ∀ i, i < m → V1 i = .bool (boolOf (V1 i)) := by
      intro i hi
      obtain ⟨z, hz, _⟩ := DataW.trod_bool t1 (hcell i hi).2.2.2
      simp only [List.cons.injEq, and_true] at hz
      rw [hz]; rfl
    have hlen : ((List.range len).map fun i => intOf (V0 i)).length = len := by simp
    refine ⟨some a, cap, (List.range len).map fun i => intOf (V0 i), fun i => boolOf (V1 i), by rw [hlen], by rw [hlen]; omega, fun h => (Option.some_ne_none _ h).elim, fun hp => ?_⟩
    rw [hlen] at hp ⊢
    obtain ⟨b, off, spot⟩ := a
    have hspot : spot = none := by simpa [Addr.add] using World.cell?_spot (hcell 0 (by omega)).1
    subst hspot
    have hpl : p = MemPlace.row ⟨b, off, none⟩ (m * 2) ++ (List.range m).flatMap fun i => P0 i ++ P1 i := by simpa using congrArg Prod.snd hx
    refine ⟨b, off, rfl, hlt (.cell b off) (by rw [hpl]; exact List.mem_append_left _ (MemPlace.mem_row.2 ⟨0, by omega, by simp⟩)), fun j hj => ?_⟩
    have h2 := (hcell j (by omega)).1
    have h3 := (hcell j (by omega)).2.1
    rw [Addr.add_lit, h0 j (by omega)] at h2
    rw [Addr.add_lit, ← Nat.add_assoc, h1 j (by omega)] at h3
    rw [h2, h3]
    simp [List.getD, hj]

end Go.Proofs.Ytdgeeoanbcbphaa.StO
