/- The walk of the document's Do: what an instruction does. Written by gen3.py. -/
import Derived.Test.YthmeonabdpbmjaaSpDo
import Derived.Test.YthmeonabdpbmjaaWrD
namespace Go.Proofs.Ythmeonabdpbmjaa.Sp
open Go.RowKit Go.Proofs.Ythmeonabdpbmjaa.Wr
set_option linter.unusedVariables false
set_option linter.unusedSimpArgs false

theorem rheld_any (n : Int) (w : World) :
    Calls Try.prog 20 #[.int .i64 n] w fun e w' => e = .returned (.int .i64 (held n)) ∧ w = w' := by
  go_enter Try.func20, Try.ntmps20
  go_wp2
  all_goals (go_ret; exact ⟨ret_int (by unfold held; omega), rfl⟩)

theorem in12 {op : Int} (h : 3 ≤ op ∧ op ≤ 12) (a3 : (op == 3) = false) (a4 : (op == 4) = false) (a5 : (op == 5) = false) (a6 : (op == 6) = false) (a7 : (op == 7) = false) (a8 : (op == 8) = false) (a9 : (op == 9) = false) (a10 : (op == 10) = false) (a11 : (op == 11) = false) : (op == 12) = true := by
  simp at *
  omega

/-- the six boxes of the document's Do -/
structure Lie5 (w : World) (g g1 g2 g3 g4 g5 : Nat) (X : Array Value) (R F : Rg) (W : World) : Prop where
  h : Lie w g g1 g2 g3 g4 X R F W
  e : ∀ i, W.cell? ⟨g5, i, none⟩ = Z5[i]?
  o5 : g4 < g5
  l5 : g5 < W.heap.size
theorem Lie5.drew {w W : World} {g g1 g2 g3 g4 g5 : Nat} {X : Array Value} {R F : Rg} (h : Lie5 w g g1 g2 g3 g4 g5 X R F W) : Lie5 w g g1 g2 g3 g4 g5 X R F W.drew := ⟨h.h.drew, h.e, h.o5, h.l5⟩
theorem Lie5.drewN {w W : World} {g g1 g2 g3 g4 g5 : Nat} {X : Array Value} {R F : Rg} (h : Lie5 w g g1 g2 g3 g4 g5 X R F W) (n : Nat) : Lie5 w g g1 g2 g3 g4 g5 X R F (W.drewN n) := ⟨h.h.drewN n, h.e, h.o5, h.l5⟩
theorem Lie5.set {w W : World} {g g1 g2 g3 g4 g5 : Nat} {X : Array Value} {R F : Rg} (h : Lie5 w g g1 g2 g3 g4 g5 X R F W) (k : Nat) (hk : k < 8) (v : Int) :
    Lie5 w g g1 g2 g3 g4 g5 X R (F.set k v) (W.setCell ⟨g4, k, none⟩ (.int .i64 v)) :=
  ⟨h.h.set k hk v, fun i => (World.cell?_setCell_far W _ _ _ (by have := h.o5; show g4 ≠ g5; omega)).trans (h.e i), h.o5, by have := h.l5; simp; omega⟩
theorem Lie5.born (w : World) (X : Array Value) (R : Rg) (t t1 t2 t3 t4 t5 : TypeId) (n : Nat) :
    Lie5 w w.heap.size (w.heap.size + 1) (w.heap.size + 1 + 1) (w.heap.size + 1 + 1 + 1) (w.heap.size + 1 + 1 + 1 + 1) (w.heap.size + 1 + 1 + 1 + 1 + 1) X R R
      (((((((w.alloc (.cells X t)).alloc (.cells R.arr t1)).alloc (.cells Z8 t2)).alloc (.cells Z5 t3)).drewN n).alloc (.cells R.arr t4)).alloc (.cells Z5 t5)) :=
  ⟨((Lie.born w X R t t1 t2 t3 t4).drewN n).alloc _, fun i => cell_new _ _ _ _ _ (by simp [World.drewN]), by omega, by simp [World.drewN]⟩


end Go.Proofs.Ythmeonabdpbmjaa.Sp
