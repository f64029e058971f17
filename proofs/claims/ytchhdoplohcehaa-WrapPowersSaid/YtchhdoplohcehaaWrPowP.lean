/- Of WrapPowers: sums and powers that go round; append of a slice that may be nil. No walk. -/
import Derived.Test.YtchhdoplohcehaaWrS
import Derived.Laws.AppendOwnNone
import Derived.Laws.AppendOwn
import Derived.Laws.OwnMore
namespace Go.Proofs.Ytchhdoplohcehaa.Wr
open Go.RowKit
set_option linter.unusedVariables false
set_option linter.unusedSimpArgs false

theorem wrap64_far (x : Int) : ∃ q, wrap64 x = x + 18446744073709551616 * q := ⟨(wrap64 x - x) / 18446744073709551616, by unfold wrap64; omega⟩
theorem wrap64_same (x q : Int) : wrap64 (x + 18446744073709551616 * q) = wrap64 x := by unfold wrap64; omega
theorem wrap64_add_l (x y : Int) : wrap64 (wrap64 x + y) = wrap64 (x + y) := by
  obtain ⟨q, h⟩ := wrap64_far x
  rw [h, show x + 18446744073709551616 * q + y = x + y + 18446744073709551616 * q by omega, wrap64_same]
theorem wrap64_add_r (x y : Int) : wrap64 (x + wrap64 y) = wrap64 (x + y) := by rw [Int.add_comm, wrap64_add_l, Int.add_comm]
theorem wrap64_mul_l (x y : Int) : wrap64 (wrap64 x * y) = wrap64 (x * y) := by
  obtain ⟨q, h⟩ := wrap64_far x
  rw [h, Int.add_mul, Int.mul_assoc, wrap64_same]
theorem wrap64_mul_r (x y : Int) : wrap64 (x * wrap64 y) = wrap64 (x * y) := by rw [Int.mul_comm, wrap64_mul_l, Int.mul_comm]

theorem sumW_fold (zs : List Int) : ∀ a, zs.foldl (fun n x => wrap64 (n + x)) (wrap64 a) = wrap64 (a + zs.sum) := by
  induction zs with
  | nil => intro a; simp
  | cons x zs ih => intro a; simp only [List.foldl_cons, List.sum_cons]; rw [wrap64_add_l, ih, Int.add_assoc]
theorem sumW_eq (zs : List Int) : sumW zs = wrap64 zs.sum := by
  have h := sumW_fold zs 0
  rw [show wrap64 0 = 0 by decide +kernel, Int.zero_add] at h
  exact h
theorem sumW_cut (zs : List Int) (k : Nat) : wrap64 (sumW (zs.take k) + sumW (zs.drop k)) = sumW zs := by
  rw [sumW_eq, sumW_eq, sumW_eq, wrap64_add_l, wrap64_add_r, ← List.sum_append, List.take_append_drop]
theorem sumW_turn (zs : List Int) (k : Nat) : sumW (zs.drop k ++ zs.take k) = sumW zs := by
  rw [sumW_eq, sumW_eq, List.sum_append, Int.add_comm, ← List.sum_append, List.take_append_drop]
theorem powW_eq (a : Int) (n : Nat) : powW a n = wrap64 (a ^ n) := by
  induction n with
  | zero => rw [Int.pow_zero]; show (1 : Int) = wrap64 1; decide +kernel
  | succ n ih => simp only [powW]; rw [ih, wrap64_mul_l, Int.pow_succ]
theorem powW_add (a : Int) (m n : Nat) : wrap64 (powW a m * powW a n) = powW a (m + n) := by
  rw [powW_eq, powW_eq, powW_eq, wrap64_mul_l, wrap64_mul_r, Int.pow_add]
theorem powW_one (a : Int) (h0 : -9223372036854775808 ≤ a) (h1 : a ≤ 9223372036854775807) : powW a 1 = a := by
  rw [powW_eq, Int.pow_succ, Int.pow_zero, Int.one_mul]; unfold wrap64; omega
theorem powN_nat (n : Nat) (h : n ≤ 1000) : powN (n : Int) = n := by unfold powN; omega

theorem grownBy_refl (w : World) (row : Option Nat) : w.grownBy w row := by
  exact ⟨rfl, rfl, rfl, Nat.le_refl _, fun _ _ _ => rfl⟩

section
variable {P : Program} (w : World)
theorem wp_append_both {o : Oper} {a : Act} {K : Act → World → Prop} {Q : Exit → Act → World → Prop} (s x : Operand) (t : TypeId)
    (ho : o.op = .call { callee := .builtin .append, args := #[s, x], argTypes := #[t, t] })
    (base : Nat) (e : TypeId) (i : TypeInfo) (z : Value) (size bytes : Nat) (ht : P.underlying t = some (.slice e)) (hi : P.info? e = some i) (hz : i.zero = some z)
    (hsize : i.size = size) (hby : i.bytes = bytes) (hzs : z.cells.size = size) (hsz : 0 < size)
    (v : Value) (n : Nat) (xs : List Value) (hs : a.eval s = v) (hown : w.ownsRow base e size v n xs) (hv : v ≠ .slice none 0 0)
    (ax : Option Addr) (m c : Nat) (news : List Value) (hx : a.eval x = .slice ax m c) (hnone : ax = none → m = 0 ∧ c = 0) (hl : news.length = m * size) (hnews : ∀ ad, ax = some ad → ∀ j u, news[j]? = some u → w.cell? (ad.add j) = some u) (h1 : ∀ u ∈ news, u.oneCell' = true)
    (h63 : n + m ≤ maxLen) (hbytes : (n + m) * bytes ≤ 140737488355328) (hbase : base ≤ w.heap.size)
    (h : ∀ g cap w', w'.ownsRow base e size (.slice (some ⟨g, 0, none⟩) (n + m) cap) (n + m) (xs ++ news) → w.grownBy w' v.ownBlock → n + m ≤ cap → K (a.put o.dst (.slice (some ⟨g, 0, none⟩) (n + m) cap)) w') : o.wp P a w K Q := by
  have form : ∀ {w' : World} {v' : Value} {n' : Nat} {ys : List Value}, w'.ownsRow base e size v' n' ys → v' ≠ .slice none 0 0 → ∃ g cap, v' = .slice (some ⟨g, 0, none⟩) n' cap ∧ n' ≤ cap := by
    intro w' v' n' ys ho hne
    rcases ho.2 with ⟨rfl, _⟩ | ⟨g, cap, cur, hv', _, _, hc, _⟩
    · exact absurd rfl hne
    · exact ⟨g, cap, hv', hc⟩
  cases ax with
  | some ad =>
    refine wp_append_own w s x t ho base e i z size bytes ht hi hz hsize hby hzs hsz v n xs hs hown ad m c news hx hl (hnews ad rfl) h1 h63 hbytes hbase fun v' w' h2 h3 h4 => ?_
    obtain ⟨g, cap, rfl, hc⟩ := form h2 (fun c => hv (h4.1 c).1)
    exact h g cap w' h2 h3 hc
  | none =>
    obtain ⟨rfl, rfl⟩ := hnone rfl
    have hn : news = [] := List.eq_nil_of_length_eq_zero (by omega)
    subst hn
    have hrun := run_append_owned_none (P := P) (w := w) base t o.type e i size ht hi v n xs hown
    obtain ⟨g, cap, rfl, hc⟩ := form hown hv
    unfold Oper.wp
    simp [execOp, ho, resolve, invoke, builtin, hs, hx, hrun, Result.andThen]
    exact h g cap w (by rw [List.append_nil]; exact hown) (grownBy_refl _ _) hc

theorem wpList_append_both {ops : Array Oper} {rest : List Oper} {o : Oper} {a : Act} {Q : Exit → Act → World → Prop} (hgd : o.guard = none) (s x : Operand) (t : TypeId)
    (ho : o.op = .call { callee := .builtin .append, args := #[s, x], argTypes := #[t, t] })
    (base : Nat) (e : TypeId) (i : TypeInfo) (z : Value) (size bytes : Nat) (ht : P.underlying t = some (.slice e)) (hi : P.info? e = some i) (hz : i.zero = some z)
    (hsize : i.size = size) (hby : i.bytes = bytes) (hzs : z.cells.size = size) (hsz : 0 < size)
    (v : Value) (n : Nat) (xs : List Value) (hs : a.eval s = v) (hown : w.ownsRow base e size v n xs) (hv : v ≠ .slice none 0 0)
    (ax : Option Addr) (m c : Nat) (news : List Value) (hx : a.eval x = .slice ax m c) (hnone : ax = none → m = 0 ∧ c = 0) (hl : news.length = m * size) (hnews : ∀ ad, ax = some ad → ∀ j u, news[j]? = some u → w.cell? (ad.add j) = some u) (h1 : ∀ u ∈ news, u.oneCell' = true)
    (h63 : n + m ≤ maxLen) (hbytes : (n + m) * bytes ≤ 140737488355328) (hbase : base ≤ w.heap.size)
    (h : ∀ g cap w', w'.ownsRow base e size (.slice (some ⟨g, 0, none⟩) (n + m) cap) (n + m) (xs ++ news) → w.grownBy w' v.ownBlock → n + m ≤ cap → wpList P ops Q rest (a.put o.dst (.slice (some ⟨g, 0, none⟩) (n + m) cap)) w') : wpList P ops Q (o :: rest) a w :=
  wpList_plain hgd fun _ hK => wp_append_both w s x t ho base e i z size bytes ht hi hz hsize hby hzs hsz v n xs hs hown hv ax m c news hx hnone hl hnews h1 h63 hbytes hbase fun g cap w' h2 h3 h4 => hK _ _ (h g cap w' h2 h3 h4)

theorem step_append_both {ops : Array Oper} {o : Oper} {a : Act} {K : Act → World → Prop} {Q : Exit → Act → World → Prop} {E : Prop} (hgd : o.guard = none) (s x : Operand) (t : TypeId)
    (ho : o.op = .call { callee := .builtin .append, args := #[s, x], argTypes := #[t, t] })
    (base : Nat) (e : TypeId) (i : TypeInfo) (z : Value) (size bytes : Nat) (ht : P.underlying t = some (.slice e)) (hi : P.info? e = some i) (hz : i.zero = some z)
    (hsize : i.size = size) (hby : i.bytes = bytes) (hzs : z.cells.size = size) (hsz : 0 < size)
    (v : Value) (n : Nat) (xs : List Value) (hs : a.eval s = v) (hown : w.ownsRow base e size v n xs) (hv : v ≠ .slice none 0 0)
    (ax : Option Addr) (m c : Nat) (news : List Value) (hx : a.eval x = .slice ax m c) (hnone : ax = none → m = 0 ∧ c = 0) (hl : news.length = m * size) (hnews : ∀ ad, ax = some ad → ∀ j u, news[j]? = some u → w.cell? (ad.add j) = some u) (h1 : ∀ u ∈ news, u.oneCell' = true)
    (h63 : n + m ≤ maxLen) (hbytes : (n + m) * bytes ≤ 140737488355328) (hbase : base ≤ w.heap.size)
    (h : ∀ g cap w', w'.ownsRow base e size (.slice (some ⟨g, 0, none⟩) (n + m) cap) (n + m) (xs ++ news) → w.grownBy w' v.ownBlock → n + m ≤ cap → K (a.put o.dst (.slice (some ⟨g, 0, none⟩) (n + m) cap)) w') :
    if Region.wanted o (yielded ops a.tmps) = true then Oper.wp P o a w K Q else E := by
  have hw : Region.wanted o (yielded ops a.tmps) = true := by simp [Region.wanted, hgd]
  rw [if_pos hw]
  exact wp_append_both w s x t ho base e i z size bytes ht hi hz hsize hby hzs hsz v n xs hs hown hv ax m c news hx hnone hl hnews h1 h63 hbytes hbase h
end

theorem cut_k (cut : Int) (len : Nat) (h0 : 0 < len) (h1 : len ≤ 1000) : ∃ k : Nat, k < len ∧ wrap64 ((IntKind.u64.wrap cut).tmod (len : Int)) = k := by
  have hu : 0 ≤ IntKind.u64.wrap cut := by
    rw [IntKind.wrap_u64]; exact Int.emod_nonneg _ (by decide)
  generalize IntKind.u64.wrap cut = u at *
  have e : u.tmod (len : Int) = u % len := Int.tmod_eq_emod_of_nonneg hu
  have a1 := Int.emod_nonneg u (show (len : Int) ≠ 0 by omega)
  have a2 := Int.emod_lt_of_pos u (show 0 < (len : Int) by omega)
  refine ⟨(u % len).toNat, by omega, ?_⟩
  rw [e]
  generalize u % (len : Int) = x at *
  unfold wrap64
  omega

/-- cells of ints from an address on -/
def CellsAt (w : World) (b o : Nat) (zs : List Int) : Prop := ∀ j, j < zs.length → w.cell? ⟨b, o + j, none⟩ = some (.int .i64 (zs.getD j 0))
theorem CellsAt.kept {w w' : World} {b o : Nat} {zs : List Int} (h : CellsAt w b o zs) {B : Nat} (hb : Below B w w') (hB : b < B) : CellsAt w' b o zs :=
  fun j hj => (hb.cell (p := ⟨b, o + j, none⟩) hB).trans (h j hj)
theorem CellsAt.rd {w : World} {b o : Nat} {zs : List Int} (h : CellsAt w b o zs) : RdI w (some ⟨b, o, none⟩) zs := fun _ => ⟨b, o, rfl, h⟩
theorem CellsAt.take {w : World} {b o : Nat} {zs : List Int} (h : CellsAt w b o zs) (k : Nat) : CellsAt w b o (zs.take k) := by
  intro j hj
  have h1 : j < zs.length := by rw [List.length_take] at hj; omega
  have h2 : j < k := by rw [List.length_take] at hj; omega
  rw [h j h1]
  simp [List.getD, List.getElem?_take, h2]
theorem CellsAt.drop {w : World} {b o : Nat} {zs : List Int} (h : CellsAt w b o zs) (k : Nat) : CellsAt w b (o + k) (zs.drop k) := by
  intro j hj
  rw [List.length_drop] at hj
  rw [Nat.add_assoc, h (k + j) (by omega)]
  simp [List.getD, List.getElem?_drop]
theorem CellsAt.news {w : World} {b o : Nat} {zs : List Int} (h : CellsAt w b o zs) : ∀ ad, (some ⟨b, o, none⟩ : Option Addr) = some ad → ∀ j u, (zs.map (Value.int .i64))[j]? = some u → w.cell? (ad.add j) = some u := by
  intro ad e j u hu
  obtain rfl := Option.some.inj e
  have hj : j < zs.length := by simpa using (List.getElem?_eq_some_iff.1 hu).1
  rw [Addr.add_lit, h j hj, ← hu]
  simp [List.getD, hj]
theorem CellsAt.owned {w : World} {base : Nat} {e : TypeId} {g cap n : Nat} {zs : List Int} (h : w.ownsRow base e 1 (.slice (some ⟨g, 0, none⟩) n cap) n (zs.map (Value.int .i64))) : CellsAt w g 0 zs := by
  intro j hj
  have hc := h.cells (g := g) rfl j (.int .i64 (zs.getD j 0)) (by simp [List.getD, hj])
  rw [Addr.add_lit] at hc
  exact hc
theorem ints_one (zs : List Int) : ∀ u ∈ zs.map (Value.int .i64), u.oneCell' = true := by
  intro u hu
  obtain ⟨z, _, rfl⟩ := List.mem_map.1 hu
  rfl

/-- an empty slice that the call has made owns nothing -/
theorem owns_empty (w : World) (base : Nat) (e : TypeId) (size : Nat) (hb : base ≤ w.heap.size) : (w.alloc (.cells #[] e)).ownsRow base e size (.slice (some ⟨w.heap.size, 0, none⟩) 0 0) 0 [] :=
  ⟨by simp, .inr ⟨w.heap.size, 0, #[], rfl, hb, heap_alloc_new w _, Nat.le_refl _, Nat.zero_le _, by simp, by simp⟩⟩

end Go.Proofs.Ytchhdoplohcehaa.Wr
