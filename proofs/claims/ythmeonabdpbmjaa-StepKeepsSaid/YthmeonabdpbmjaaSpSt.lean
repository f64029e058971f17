/- The boxes of step.Do: what lies where, whatever was made or stored since. Written by gen2.py. -/
import Derived.Test.YthmeonabdpbmjaaSpOf
namespace Go.Proofs.Ythmeonabdpbmjaa.Sp
open Go.RowKit Go.Proofs.Ythmeonabdpbmjaa.Wr
set_option linter.unusedVariables false
set_option linter.unusedSimpArgs false

def Rg.arr (R : Rg) : Array Value := #[.int .i64 R.r0, .int .i64 R.r1, .int .i64 R.r2, .int .i64 R.r3, .int .i64 R.r4, .int .i64 R.r5, .int .i64 R.r6, .int .i64 R.r7]
def Z8 : Array Value := #[.int .i64 0, .int .i64 0, .int .i64 0, .int .i64 0, .int .i64 0, .int .i64 0, .int .i64 0, .int .i64 0]
def Z5 : Array Value := #[.int .i64 0, .int .i64 0, .int .i64 0, .int .i64 0, .int .i64 0]

theorem arr_set (R : Rg) (k : Nat) (hk : k < 8) (v : Int) (i : Nat) : (R.set k v).arr[i]? = if i = k then some (.int .i64 v) else R.arr[i]? := by
  have e : k = 0 ∨ k = 1 ∨ k = 2 ∨ k = 3 ∨ k = 4 ∨ k = 5 ∨ k = 6 ∨ k = 7 := by omega
  rcases e with rfl | rfl | rfl | rfl | rfl | rfl | rfl | rfl
  · rw [show R.set ((0 : Nat) : Int) v = (⟨v, R.r1, R.r2, R.r3, R.r4, R.r5, R.r6, R.r7⟩ : Rg) from rfl]
    rcases i with _ | _ | _ | _ | _ | _ | _ | _ | i
    all_goals simp [Rg.arr]
  · rw [show R.set ((1 : Nat) : Int) v = (⟨R.r0, v, R.r2, R.r3, R.r4, R.r5, R.r6, R.r7⟩ : Rg) from rfl]
    rcases i with _ | _ | _ | _ | _ | _ | _ | _ | i
    all_goals simp [Rg.arr]
  · rw [show R.set ((2 : Nat) : Int) v = (⟨R.r0, R.r1, v, R.r3, R.r4, R.r5, R.r6, R.r7⟩ : Rg) from rfl]
    rcases i with _ | _ | _ | _ | _ | _ | _ | _ | i
    all_goals simp [Rg.arr]
  · rw [show R.set ((3 : Nat) : Int) v = (⟨R.r0, R.r1, R.r2, v, R.r4, R.r5, R.r6, R.r7⟩ : Rg) from rfl]
    rcases i with _ | _ | _ | _ | _ | _ | _ | _ | i
    all_goals simp [Rg.arr]
  · rw [show R.set ((4 : Nat) : Int) v = (⟨R.r0, R.r1, R.r2, R.r3, v, R.r5, R.r6, R.r7⟩ : Rg) from rfl]
    rcases i with _ | _ | _ | _ | _ | _ | _ | _ | i
    all_goals simp [Rg.arr]
  · rw [show R.set ((5 : Nat) : Int) v = (⟨R.r0, R.r1, R.r2, R.r3, R.r4, v, R.r6, R.r7⟩ : Rg) from rfl]
    rcases i with _ | _ | _ | _ | _ | _ | _ | _ | i
    all_goals simp [Rg.arr]
  · rw [show R.set ((6 : Nat) : Int) v = (⟨R.r0, R.r1, R.r2, R.r3, R.r4, R.r5, v, R.r7⟩ : Rg) from rfl]
    rcases i with _ | _ | _ | _ | _ | _ | _ | _ | i
    all_goals simp [Rg.arr]
  · rw [show R.set ((7 : Nat) : Int) v = (⟨R.r0, R.r1, R.r2, R.r3, R.r4, R.r5, R.r6, v⟩ : Rg) from rfl]
    rcases i with _ | _ | _ | _ | _ | _ | _ | _ | i
    all_goals simp [Rg.arr]
theorem arr_lt (R : Rg) (k : Nat) (hk : k < 8) : ∃ u, R.arr[k]? = some u := by
  have e : k = 0 ∨ k = 1 ∨ k = 2 ∨ k = 3 ∨ k = 4 ∨ k = 5 ∨ k = 6 ∨ k = 7 := by omega
  rcases e with rfl | rfl | rfl | rfl | rfl | rfl | rfl | rfl <;> exact ⟨_, rfl⟩

/-- the five boxes: the instruction, the registers, the two results still zero, the file -/
structure Lie (w : World) (g g1 g2 g3 g4 : Nat) (X : Array Value) (R F : Rg) (W : World) : Prop where
  bw : Below w.heap.size w W
  x : ∀ i, W.cell? ⟨g, i, none⟩ = X[i]?
  p : ∀ i, W.cell? ⟨g1, i, none⟩ = R.arr[i]?
  y : ∀ i, W.cell? ⟨g2, i, none⟩ = Z8[i]?
  z : ∀ i, W.cell? ⟨g3, i, none⟩ = Z5[i]?
  f : ∀ i, W.cell? ⟨g4, i, none⟩ = F.arr[i]?
  fr2 : ∀ n, W.frozen? ⟨g2, n, none⟩ = false
  fr3 : ∀ n, W.frozen? ⟨g3, n, none⟩ = false
  fr4 : ∀ n, W.frozen? ⟨g4, n, none⟩ = false
  b : w.heap.size ≤ g
  o1 : g < g1
  o2 : g1 < g2
  o3 : g2 < g3
  o4 : g3 < g4
  l : g4 < W.heap.size

theorem Lie.alloc {w W : World} {g g1 g2 g3 g4 : Nat} {X : Array Value} {R F : Rg} (h : Lie w g g1 g2 g3 g4 X R F W) (o : Obj) : Lie w g g1 g2 g3 g4 X R F (W.alloc o) :=
  have q1 := h.o1
  have q2 := h.o2
  have q3 := h.o3
  have q4 := h.o4
  have ql := h.l
  { bw := h.bw.alloc h.bw.size o
    x := fun i => (World.cell?_alloc_lt W o _ (by show g < _; omega)).trans (h.x i)
    p := fun i => (World.cell?_alloc_lt W o _ (by show g1 < _; omega)).trans (h.p i)
    y := fun i => (World.cell?_alloc_lt W o _ (by show g2 < _; omega)).trans (h.y i)
    z := fun i => (World.cell?_alloc_lt W o _ (by show g3 < _; omega)).trans (h.z i)
    f := fun i => (World.cell?_alloc_lt W o _ (by show g4 < _; omega)).trans (h.f i)
    fr2 := fun n => (World.frozen?_alloc_past o _ _ (by omega)).trans (h.fr2 n)
    fr3 := fun n => (World.frozen?_alloc_past o _ _ (by omega)).trans (h.fr3 n)
    fr4 := fun n => (World.frozen?_alloc_past o _ _ (by omega)).trans (h.fr4 n)
    b := h.b, o1 := q1, o2 := q2, o3 := q3, o4 := q4
    l := by simp; omega }
theorem Lie.drew {w W : World} {g g1 g2 g3 g4 : Nat} {X : Array Value} {R F : Rg} (h : Lie w g g1 g2 g3 g4 X R F W) : Lie w g g1 g2 g3 g4 X R F W.drew :=
  { bw := h.bw.drew, x := h.x, p := h.p, y := h.y, z := h.z, f := h.f, fr2 := h.fr2, fr3 := h.fr3, fr4 := h.fr4, b := h.b, o1 := h.o1, o2 := h.o2, o3 := h.o3, o4 := h.o4, l := h.l }
theorem Lie.drewN {w W : World} {g g1 g2 g3 g4 : Nat} {X : Array Value} {R F : Rg} (h : Lie w g g1 g2 g3 g4 X R F W) (n : Nat) : Lie w g g1 g2 g3 g4 X R F (W.drewN n) :=
  { bw := below_drewN h.bw n, x := h.x, p := h.p, y := h.y, z := h.z, f := h.f, fr2 := h.fr2, fr3 := h.fr3, fr4 := h.fr4, b := h.b, o1 := h.o1, o2 := h.o2, o3 := h.o3, o4 := h.o4, l := h.l }
theorem Lie.set {w W : World} {g g1 g2 g3 g4 : Nat} {X : Array Value} {R F : Rg} (h : Lie w g g1 g2 g3 g4 X R F W) (k : Nat) (hk : k < 8) (v : Int) :
    Lie w g g1 g2 g3 g4 X R (F.set k v) (W.setCell ⟨g4, k, none⟩ (.int .i64 v)) :=
  have q1 := h.o1
  have q2 := h.o2
  have q3 := h.o3
  have q4 := h.o4
  have ql := h.l
  have qb := h.b
  { bw := h.bw.setCell (p := ⟨g4, k, none⟩) (by show _ ≤ g4; omega) _
    x := fun i => (World.cell?_setCell_far W _ _ _ (by show g4 ≠ g; omega)).trans (h.x i)
    p := fun i => (World.cell?_setCell_far W _ _ _ (by show g4 ≠ g1; omega)).trans (h.p i)
    y := fun i => (World.cell?_setCell_far W _ _ _ (by show g4 ≠ g2; omega)).trans (h.y i)
    z := fun i => (World.cell?_setCell_far W _ _ _ (by show g4 ≠ g3; omega)).trans (h.z i)
    f := fun i => by
      rw [arr_set F k hk v i]
      by_cases e : i = k
      · subst e
        obtain ⟨u, hu⟩ := arr_lt F i hk
        rw [if_pos rfl]
        exact World.cell?_setCell_same _ _ _ ((h.f i).trans hu)
      · rw [if_neg e]
        exact (World.cell?_setCell_other _ _ _ _ (by simp; try omega)).trans (h.f i)
    fr2 := fun n => by rw [World.frozen?_setCell]; exact h.fr2 n
    fr3 := fun n => by rw [World.frozen?_setCell]; exact h.fr3 n
    fr4 := fun n => by rw [World.frozen?_setCell]; exact h.fr4 n
    b := qb, o1 := q1, o2 := q2, o3 := q3, o4 := q4
    l := by simp; omega }
theorem Lie.born (w : World) (X : Array Value) (R : Rg) (t t1 t2 t3 t4 : TypeId) :
    Lie w w.heap.size (w.heap.size + 1) (w.heap.size + 1 + 1) (w.heap.size + 1 + 1 + 1) (w.heap.size + 1 + 1 + 1 + 1) X R R
      (((((w.alloc (.cells X t)).alloc (.cells R.arr t1)).alloc (.cells Z8 t2)).alloc (.cells Z5 t3)).alloc (.cells R.arr t4)) :=
  { bw := (((((Below.refl _ _).alloc (Nat.le_refl _) _).alloc (by simp) _).alloc (by simp; omega) _).alloc (by simp; omega) _).alloc (by simp; omega) _
    x := fun i => by rw [World.cell?_alloc_lt _ _ _ (by simp; try omega), World.cell?_alloc_lt _ _ _ (by simp; try omega), World.cell?_alloc_lt _ _ _ (by simp; try omega), World.cell?_alloc_lt _ _ _ (by simp; try omega)]; exact cell_new _ _ _ _ _ rfl
    p := fun i => by rw [World.cell?_alloc_lt _ _ _ (by simp; try omega), World.cell?_alloc_lt _ _ _ (by simp; try omega), World.cell?_alloc_lt _ _ _ (by simp; try omega)]; exact cell_new _ _ _ _ _ (by simp)
    y := fun i => by rw [World.cell?_alloc_lt _ _ _ (by simp; try omega), World.cell?_alloc_lt _ _ _ (by simp; try omega)]; exact cell_new _ _ _ _ _ (by simp)
    z := fun i => by rw [World.cell?_alloc_lt _ _ _ (by simp; try omega)]; exact cell_new _ _ _ _ _ (by simp)
    f := fun i => cell_new _ _ _ _ _ (by simp)
    fr2 := fun n => by rw [World.frozen?_alloc_past _ _ _ (by simp; try omega), World.frozen?_alloc_past _ _ _ (by simp; try omega)]; exact World.frozen?_alloc_at _ _ _ _ (by simp)
    fr3 := fun n => by rw [World.frozen?_alloc_past _ _ _ (by simp; try omega)]; exact World.frozen?_alloc_at _ _ _ _ (by simp)
    fr4 := fun n => World.frozen?_alloc_at _ _ _ _ (by simp)
    b := Nat.le_refl _, o1 := by omega, o2 := by omega, o3 := by omega, o4 := by omega
    l := by simp }

/-- what Do gives -/
def faults (op c : Int) : Bool := decide (3 ≤ op ∧ op ≤ 12) && doF op c != 0
def goN (op A B pc a : Int) : Int := if op = 18 then A else if op = 19 ∧ a = 0 then B else wrap64 (pc + 1)
def goR (op A B : Int) (R : Rg) (b c : Int) : Rg :=
  if op = 1 then R.set (held A) B else if op = 2 then R.set (held A) b else if 3 ≤ op ∧ op ≤ 12 then R.set (held A) (doV op b c) else R
def doPc (op A B C pc : Int) (R : Rg) : Int := if faults op (R.at C) = true then pc else goN op A B pc (R.at A)
def doRg (op A B C : Int) (R : Rg) : Rg := if faults op (R.at C) = true then R else goR op A B R (R.at B) (R.at C)
def doEf (op A B C : Int) (R : Rg) : Ef := if faults op (R.at C) = true then noEf else ofE op A (R.at A) (R.at B) (R.at C) (held A)
def doFt (op C : Int) (R : Rg) : Int := if faults op (R.at C) = true then doF op (R.at C) else 0

end Go.Proofs.Ythmeonabdpbmjaa.Sp
