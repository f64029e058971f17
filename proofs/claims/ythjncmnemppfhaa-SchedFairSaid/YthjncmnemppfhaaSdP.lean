/- Picks (pairs of numbers) as rows of cells; no walk. -/
import Derived.Test.YthjncmnemppfhaaSdW
namespace Go.Proofs.Ythjncmnemppfhaa.Sd
open Go.RowKit
set_option linter.unusedVariables false
set_option linter.unusedSimpArgs false

abbrev Pk := Int × Int
def pk (l : List Pk) : List Value := l.flatMap fun p => [.int .i64 p.1, .int .i64 p.2]

theorem pk_snoc (l : List Pk) (p : Pk) : pk (l ++ [p]) = pk l ++ [.int .i64 p.1, .int .i64 p.2] := by
  simp [pk, List.flatMap_append]
theorem pk_len (l : List Pk) : (pk l).length = l.length * 2 := by
  induction l with
  | nil => rfl
  | cons x l ih => simp [pk] at ih ⊢; omega
theorem pk_one (l : List Pk) : ∀ u ∈ pk l, u.oneCell' = true := by
  intro u hu
  obtain ⟨s, _, h⟩ := List.mem_flatMap.1 hu
  rcases List.mem_cons.1 h with rfl | h
  · rfl
  · rcases List.mem_cons.1 h with rfl | h
    · rfl
    · cases h
theorem pk_get (l : List Pk) : ∀ j, j < l.length → (pk l)[j * 2]? = some (.int .i64 (l.getD j (0, 0)).1) ∧ (pk l)[j * 2 + 1]? = some (.int .i64 (l.getD j (0, 0)).2) := by
  induction l with
  | nil => intro j h; simp at h
  | cons x l ih =>
    intro j hj
    rcases j with _ | j
    · exact ⟨rfl, rfl⟩
    · have := ih j (by simpa using hj)
      have e : pk (x :: l) = .int .i64 x.1 :: .int .i64 x.2 :: pk l := rfl
      rw [e, show (j + 1) * 2 = j * 2 + 1 + 1 by omega, show j * 2 + 1 + 1 + 1 = (j * 2 + 1) + 1 + 1 by omega]
      simpa using this

/-- a slice that reads as the picks l, below block B0 -/
def RdP (w : World) (B0 : Nat) (A : Option Addr) (l : List Pk) : Prop :=
  0 < l.length → ∃ b o, A = some ⟨b, o, none⟩ ∧ b < B0 ∧ ∀ j, j < l.length → w.cell? ⟨b, o + j * 2, none⟩ = some (.int .i64 (l.getD j (0, 0)).1) ∧ w.cell? ⟨b, o + j * 2 + 1, none⟩ = some (.int .i64 (l.getD j (0, 0)).2)

theorem RdP.kept {w w' : World} {B0 : Nat} {A : Option Addr} {l : List Pk} (h : RdP w B0 A l) (hb : Below B0 w w') : RdP w' B0 A l := by
  intro h0
  obtain ⟨b, o, h1, h2, h3⟩ := h h0
  exact ⟨b, o, h1, h2, fun j hj => ⟨(hb.cell (p := ⟨b, o + j * 2, none⟩) h2).trans (h3 j hj).1, (hb.cell (p := ⟨b, o + j * 2 + 1, none⟩) h2).trans (h3 j hj).2⟩⟩
theorem RdP.up {w : World} {B0 B1 : Nat} {A : Option Addr} {l : List Pk} (h : RdP w B0 A l) (hb : B0 ≤ B1) : RdP w B1 A l := by
  intro h0
  obtain ⟨b, o, h1, h2, h3⟩ := h h0
  exact ⟨b, o, h1, Nat.lt_of_lt_of_le h2 hb, h3⟩

theorem rd_owned {w : World} {base : Nat} {e : TypeId} {v : Value} {l : List Pk} {n : Nat} (hown : w.ownsRow base e 2 v n (pk l)) (hn : n = l.length) :
    ∃ A cap, v = .slice A l.length cap ∧ RdP w w.heap.size A l := by
  subst hn
  rcases hown.2 with ⟨rfl, h0⟩ | ⟨g, cap, cur, rfl, hb, hgg, rest⟩
  · exact ⟨none, 0, by rw [h0], fun h => by omega⟩
  · refine ⟨_, _, rfl, fun _ => ⟨g, 0, rfl, (Array.getElem?_eq_some_iff.1 hgg).1, fun j hj => ?_⟩⟩
    have hc := hown.cells (g := g) rfl
    have h1 := hc _ _ (pk_get l j hj).1
    have h2 := hc _ _ (pk_get l j hj).2
    rw [Addr.add_lit] at h1 h2
    exact ⟨h1, by rw [Nat.add_assoc]; exact h2⟩

def roundV (wk vic : Int) : Nat → List Pk
  | 0 => []
  | k + 1 => roundV wk vic k ++ [((k : Int) % teamV wk, vic)]
theorem round_len (wk vic : Int) (k : Nat) : (roundV wk vic k).length = k := by
  induction k with
  | zero => rfl
  | succ k ih => simp [roundV, ih]

theorem take_succ_pk {a b : List Pk} {k : Nat} (h : ∀ j, j < k → a.getD j (0, 0) = b.getD j (0, 0)) (hk : a.getD k (0, 0) = b.getD k (0, 0)) : ∀ j, j < k + 1 → a.getD j (0, 0) = b.getD j (0, 0) := by
  intro j hj
  by_cases e : j = k
  · rw [e]; exact hk
  · exact h j (by omega)
theorem eq_of_getD {a b : List Pk} (hl : a.length = b.length) (h : ∀ j, j < a.length → a.getD j (0, 0) = b.getD j (0, 0)) : a = b := by
  apply List.ext_getElem hl
  intro j h1 h2
  have := h j h1
  simpa [List.getD, h1, h2] using this
theorem ne_of_getD {a b : List Pk} {k : Nat} (h : a.getD k (0, 0) ≠ b.getD k (0, 0)) : a ≠ b := fun e => h (by rw [e])

end Go.Proofs.Ythjncmnemppfhaa.Sd
