/- append of a slice that may be nil; a slice that an owned row of picks is. -/
import Derived.Test.YthjncmnemppfhaaSdP
import Derived.Laws.AppendOwnNone
import Derived.Laws.AppendOwn
import Derived.Laws.OwnMore
namespace Go.Proofs.Ythjncmnemppfhaa.Sd
open Go.RowKit
set_option linter.unusedVariables false

theorem grownBy_refl (w : World) (row : Option Nat) : w.grownBy w row := by
  exact ⟨rfl, rfl, rfl, Nat.le_refl _, fun _ _ _ => rfl⟩

theorem wpList_append_own_both {P : Program} (w : World) {ops : Array Oper} {rest : List Oper} {o : Oper} {a : Act} {Q : Exit → Act → World → Prop} (hgd : Region.wanted o (yielded ops a.tmps) = true) (s x : Operand) (t : TypeId)
    (ho : o.op = .call { callee := .builtin .append, args := #[s, x], argTypes := #[t, t] })
    (base : Nat) (e : TypeId) (i : TypeInfo) (z : Value) (size bytes : Nat) (ht : P.underlying t = some (.slice e)) (hi : P.info? e = some i) (hz : i.zero = some z)
    (hsize : i.size = size) (hby : i.bytes = bytes) (hzs : z.cells.size = size) (hsz : 0 < size)
    (v : Value) (n : Nat) (xs : List Value) (hs : a.eval s = v) (hown : w.ownsRow base e size v n xs)
    (ax : Option Addr) (m c : Nat) (news : List Value) (hx : a.eval x = .slice ax m c) (hnone : ax = none → m = 0 ∧ c = 0) (hl : news.length = m * size) (hnews : ∀ ad, ax = some ad → ∀ j u, news[j]? = some u → w.cell? (ad.add j) = some u) (h1 : ∀ u ∈ news, u.oneCell' = true)
    (h63 : n + m ≤ maxLen) (hbytes : (n + m) * bytes ≤ 140737488355328) (hbase : base ≤ w.heap.size)
    (h : ∀ v' w', w'.ownsRow base e size v' (n + m) (xs ++ news) → w.grownBy w' v.ownBlock → wpList P ops Q rest (a.put o.dst v') w') : wpList P ops Q (o :: rest) a w := by
  refine wpList_step fun K hK => ?_
  rw [if_pos hgd]
  cases ax with
  | some ad => exact wp_append_own w s x t ho base e i z size bytes ht hi hz hsize hby hzs hsz v n xs hs hown ad m c news hx hl (hnews ad rfl) h1 h63 hbytes hbase fun v' w' h2 h3 h4 => hK _ _ (h v' w' h2 h3)
  | none =>
    obtain ⟨rfl, rfl⟩ := hnone rfl
    have hn : news = [] := List.eq_nil_of_length_eq_zero (by omega)
    subst hn
    have hrun := run_append_owned_none (P := P) (w := w) base t o.type e i size ht hi v n xs hown
    unfold Oper.wp
    simp [execOp, ho, resolve, invoke, builtin, hs, hx, hrun, Result.andThen]
    exact hK _ _ (h v w (by rw [List.append_nil]; exact hown) (grownBy_refl _ _))

/-- an empty slice that the call has made owns nothing -/
theorem owns_empty (w : World) (base : Nat) (e : TypeId) (size : Nat) (hb : base ≤ w.heap.size) : (w.alloc (.cells #[] e)).ownsRow base e size (.slice (some ⟨w.heap.size, 0, none⟩) 0 0) 0 [] :=
  ⟨by simp, .inr ⟨w.heap.size, 0, #[], rfl, hb, heap_alloc_new w _, Nat.le_refl _, Nat.zero_le _, by simp, by simp⟩⟩

/-- the cells of picks that a slice reads as, one by one -/
theorem RdP.all {w : World} {B0 : Nat} {A : Option Addr} {l : List Pk} (h : RdP w B0 A l) : ∀ ad, A = some ad → ∀ j u, (pk l)[j]? = some u → w.cell? (ad.add j) = some u := by
  intro ad hra j u hu
  have hj : j < l.length * 2 := by have := (List.getElem?_eq_some_iff.1 hu).1; rwa [pk_len] at this
  obtain ⟨b, o, h1, hlt, hc⟩ := h (by omega)
  rw [h1] at hra
  obtain rfl := Option.some.inj hra
  rw [Addr.add_lit]
  have h2 := pk_get l (j / 2) (by omega)
  have h3 := hc (j / 2) (by omega)
  rcases Nat.mod_two_eq_zero_or_one j with h | h
  · have e : j = j / 2 * 2 := by omega
    rw [e, h2.1] at hu
    rw [e, h3.1, hu]
  · have e : j = j / 2 * 2 + 1 := by omega
    rw [e, h2.2] at hu
    rw [e, ← Nat.add_assoc, h3.2, hu]

theorem rd_owned2 {w : World} {base : Nat} {e : TypeId} {v : Value} {l : List Pk} {n : Nat} (hown : w.ownsRow base e 2 v n (pk l)) (hn : n = l.length) :
    ∃ A cap, v = .slice A l.length cap ∧ RdP w w.heap.size A l ∧ (A = none → l.length = 0 ∧ cap = 0) := by
  subst hn
  rcases hown.2 with ⟨rfl, h0⟩ | ⟨g, cap, cur, rfl, hb, hgg, rest⟩
  · exact ⟨none, 0, by rw [h0], fun h => by omega, fun _ => ⟨h0, rfl⟩⟩
  · obtain ⟨A, cap', hv, hr⟩ := rd_owned hown rfl
    simp only [Value.slice.injEq] at hv
    obtain ⟨rfl, _, rfl⟩ := hv
    exact ⟨_, _, rfl, hr, fun h => by cases h⟩

end Go.Proofs.Ythjncmnemppfhaa.Sd
