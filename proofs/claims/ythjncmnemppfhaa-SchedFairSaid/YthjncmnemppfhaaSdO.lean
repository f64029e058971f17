/- Arguments opened: a slice of pairs of bytes, a slice of picks. -/
import Derived.Test.YthjncmnemppfhaaFrame
import Derived.Test.YthjncmnemppfhaaSdP
import Derived.Deep.SlicePairs
namespace Go.Proofs.Ythjncmnemppfhaa.SdO
open Go.ChangeShapes Go.WideShapes Go.ChangeAt Go.RowKit Go.Proofs.Ythjncmnemppfhaa.Sd

theorem u8_in {z : Int} (h : (Lit.int .u8 z).wf = true) : 0 ≤ z ∧ z ≤ 255 := by
  simp [Lit.wf] at h
  have e1 : IntKind.u8.min = 0 := by decide
  have e2 : IntKind.u8.max = 255 := by decide
  rw [e1, e2] at h
  exact h

theorem open_slice_bytes2 {H : Type} {enc : TypeId × Value → H} {P : Program} {W : World} {base : Nat} {T E U : TypeId} {v : Value} {d : DataW H} {p : List MemPlace}
    (hT : P.underlying T = some (.slice E)) (hE : P.underlying E = some (.array 2 U)) (ce : P.cellsOf E = 2) (cu : P.cellsOf U = 1) (hU : P.underlying U = some (.int .u8))
    (hv : Value.okWide P W .any base T v) (hd : DataW.Trod enc P W 0 (fun _ => true) true T v d p) (hlt : ∀ x ∈ p, x.block < W.heap.size) :
    ∃ (A : Option Addr) (cap : Nat) (L : List Pk), v = .slice A L.length cap ∧ L.length ≤ maxLen ∧ (∀ x ∈ L, (0 ≤ x.1 ∧ x.1 ≤ 255) ∧ (0 ≤ x.2 ∧ x.2 ≤ 255)) ∧
      (0 < L.length → ∃ b o, A = some ⟨b, o, none⟩ ∧ b < W.heap.size ∧ ∀ j, j < L.length → W.cell? ⟨b, o + j * 2, none⟩ = some (.int .u8 (L.getD j (0, 0)).1) ∧ W.cell? ⟨b, o + j * 2 + 1, none⟩ = some (.int .u8 (L.getD j (0, 0)).2)) := by
  obtain ⟨a0, len, cap, rfl⟩ := okWide_slice hT hv
  obtain ⟨fuel, hf⟩ := hd
  rcases Go.Deep.open_slice hT hf with ⟨hcs, hx⟩ | ⟨a, len', cap', m, n, D, Pl, hcs, _, hl, hm, hmm, hx, hcell⟩
  · simp [Value.cells] at hcs
    obtain ⟨rfl, rfl, rfl⟩ := hcs
    exact ⟨none, 0, [], rfl, Nat.zero_le _, by simp, fun h => absurd h (by simp)⟩
  · simp [Value.cells] at hcs
    obtain ⟨rfl, rfl, rfl⟩ := hcs
    have hlm : len ≤ m := by rw [hmm]; split <;> omega
    have each : ∀ i, i < m → ∃ q : Int × Int, W.cell? (a.add (i * 2)) = some (.int .u8 q.1) ∧ W.cell? (a.add (i * 2 + 1)) = some (.int .u8 q.2) ∧ (0 ≤ q.1 ∧ q.1 ≤ 255) ∧ (0 ≤ q.2 ∧ q.2 ≤ 255) := by
      intro i hi
      obtain ⟨cs', h1, h2⟩ := hcell i hi
      rw [ce] at h1
      obtain ⟨_, hlen, hc⟩ := World.cells?_some h1
      obtain ⟨xs, k, _, _, _, hxl, hel⟩ := DataW.trod_array hE h2
      match xs, hxl, cs', hlen with
      | [y0, y1], _, [v0, v1], _ =>
        have g0 := hel 0 (by omega)
        have g1 := hel 1 (by omega)
        simp [cu] at g0 g1
        obtain ⟨z0, hz0, _, w0⟩ := DataW.trod_int hU g0
        obtain ⟨z1, hz1, _, w1⟩ := DataW.trod_int hU g1
        simp only [List.cons.injEq, and_true] at hz0 hz1
        subst hz0 hz1
        have e0 := hc 0 (by omega)
        have e1 := hc 1 (by omega)
        rw [Go.Deep.add_add] at e0 e1
        exact ⟨(z0, z1), by simpa using e0, by simpa using e1, u8_in w0, u8_in w1⟩
    obtain ⟨q, hq⟩ := Go.Deep.choose_lt each
    have hlen : ((List.range len).map q).length = len := by simp
    refine ⟨some a, cap, (List.range len).map q, by rw [hlen], by rw [hlen]; omega, ?_, fun hp => ?_⟩
    · intro x hx
      obtain ⟨i, hi, rfl⟩ := List.mem_map.1 hx
      exact (hq i (by have := List.mem_range.1 hi; omega)).2.2
    · rw [hlen] at hp ⊢
      obtain ⟨b, off, spot⟩ := a
      have hspot : spot = none := by simpa [Addr.add] using World.cell?_spot (hq 0 (by omega)).1
      subst hspot
      have hpl : p = MemPlace.row ⟨b, off, none⟩ (m * P.cellsOf E) ++ (List.range m).flatMap Pl := by simpa using congrArg Prod.snd hx
      refine ⟨b, off, rfl, hlt (.cell b off) (by rw [hpl]; exact List.mem_append_left _ (MemPlace.mem_row.2 ⟨0, by rw [ce]; omega, by simp⟩)), fun j hj => ?_⟩
      have h2 := (hq j (by omega)).1
      have h3 := (hq j (by omega)).2.1
      rw [Addr.add_lit] at h2
      rw [Addr.add_lit, ← Nat.add_assoc] at h3
      rw [h2, h3]
      simp [List.getD, hj]

theorem open_slice_picks {H : Type} {enc : TypeId × Value → H} {P : Program} {W : World} {base : Nat} {T E : TypeId} {f0 f1 : Field} {v : Value} {d : DataW H} {p : List MemPlace}
    (hT : P.underlying T = some (.slice E)) (hE : P.underlying E = some (.struct #[f0, f1])) (ce : P.cellsOf E = 2) (o0 : f0.offset = 0) (o1 : f1.offset = 1) (c0 : P.cellsOf f0.type = 1) (c1 : P.cellsOf f1.type = 1)
    (t0 : P.underlying f0.type = some (.int .i64)) (t1 : P.underlying f1.type = some (.int .i64))
    (hv : Value.okWide P W .any base T v) (hd : DataW.Trod enc P W 0 (fun _ => true) true T v d p) (hlt : ∀ x ∈ p, x.block < W.heap.size) :
    ∃ (A : Option Addr) (cap : Nat) (L : List Pk), v = .slice A L.length cap ∧ L.length ≤ maxLen ∧ (A = none → L.length = 0 ∧ cap = 0) ∧ RdP W W.heap.size A L := by
  obtain ⟨a0, len, cap, rfl⟩ := okWide_slice hT hv
  obtain ⟨fuel, hf⟩ := hd
  rcases Go.Deep.open_slice_pairs hT hE ce o0 o1 c0 c1 hf with ⟨hcs, hx⟩ | ⟨a, len', cap', m, n, V0, V1, D0, D1, P0, P1, hcs, _, hl, hm, hmm, hx, hcell⟩
  · simp [Value.cells] at hcs
    obtain ⟨rfl, rfl, rfl⟩ := hcs
    exact ⟨none, 0, [], rfl, Nat.zero_le _, fun _ => ⟨rfl, rfl⟩, fun h => absurd h (by simp)⟩
  · simp [Value.cells] at hcs
    obtain ⟨rfl, rfl, rfl⟩ := hcs
    have hlm : len ≤ m := by rw [hmm]; split <;> omega
    have h0 : ∀ i, i < m → V0 i = .int .i64 (intOf (V0 i)) := by
      intro i hi
      obtain ⟨z, hz, _, _⟩ := DataW.trod_int t0 (hcell i hi).2.2.1
      simp only [List.cons.injEq, and_true] at hz
      rw [hz]; rfl
    have h1 : ∀ i, i < m → V1 i = .int .i64 (intOf (V1 i)) := by
      intro i hi
      obtain ⟨z, hz, _, _⟩ := DataW.trod_int t1 (hcell i hi).2.2.2
      simp only [List.cons.injEq, and_true] at hz
      rw [hz]; rfl
    have hlen : ((List.range len).map fun i => (intOf (V0 i), intOf (V1 i))).length = len := by simp
    refine ⟨some a, cap, (List.range len).map fun i => (intOf (V0 i), intOf (V1 i)), by rw [hlen], by rw [hlen]; omega, fun h => (Option.some_ne_none _ h).elim, fun hp => ?_⟩
    rw [hlen] at hp ⊢
    obtain ⟨b, off, spot⟩ := a
    have hspot : spot = none := by simpa [Addr.add] using World.cell?_spot (hcell 0 (by omega)).1
    subst hspot
    have hpl : p = MemPlace.row ⟨b, off, none⟩ (m * 2) ++ (List.range m).flatMap fun i => P0 i ++ P1 i := by simpa using congrArg Prod.snd hx
    refine ⟨b, off, rfl, hlt (.cell b off) (by rw [hpl]; exact List.mem_append_left _ (MemPlace.mem_row.2 ⟨0, by omega, by simp⟩)), fun j hj => ?_⟩
    have h2 := (hcell j (by omega)).1
    have h3 := (hcell j (by omega)).2.1
    rw [Addr.add_lit, h0 j (by omega)] at h2
    rw [Addr.add_lit, ← Nat.add_assoc, h1 j (by omega)] at h3
    rw [h2, h3]
    simp [List.getD, hj]

end Go.Proofs.Ythjncmnemppfhaa.SdO
