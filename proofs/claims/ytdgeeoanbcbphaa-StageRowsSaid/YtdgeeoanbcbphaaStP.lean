/- Of StageRows: the stages that rise, as lists; no walk. -/
import Derived.Test.YtdgeeoanbcbphaaStW
import Derived.Laws.AppendOwnNone
namespace Go.Proofs.Ytdgeeoanbcbphaa.StR
open Go.RowKit Go.Proofs.Ytdgeeoanbcbphaa.St
set_option linter.unusedVariables false
set_option linter.unusedSimpArgs false

def atN (zs : List Int) : Nat → Int
  | 0 => 0
  | k + 1 => atN zs k + 1 + zs.getD k 0
def SN (zs : List Int) : Nat → List Int
  | 0 => []
  | k + 1 => SN zs k ++ [atN zs (k + 1)]
def PN (zs : List Int) (c : Int) : Nat → Nat
  | 0 => 0
  | k + 1 => PN zs c k + (decide (atN zs (k + 1) < c)).toNat
def cellsV (l : List Int) : List Value := l.flatMap fun s => [.int .i64 s, .bool false]

theorem len_SN (zs : List Int) (k : Nat) : (SN zs k).length = k := by
  induction k with
  | zero => rfl
  | succ k ih => simp [SN, ih]
theorem cellsV_snoc (l : List Int) (s : Int) : cellsV (l ++ [s]) = cellsV l ++ [.int .i64 s, .bool false] := by
  simp [cellsV, List.flatMap_append]
theorem PN_le (zs : List Int) (c : Int) (k : Nat) : PN zs c k ≤ k := by
  induction k with
  | zero => exact Nat.le_refl _
  | succ k ih => have := Bool.toNat_le (decide (atN zs (k + 1) < c)); simp only [PN]; omega
theorem getD_in (zs : List Int) (h : ∀ z ∈ zs, 0 ≤ z ∧ z ≤ 255) (k : Nat) : 0 ≤ zs.getD k 0 ∧ zs.getD k 0 ≤ 255 := by
  by_cases hk : k < zs.length
  · simp only [List.getD, List.getElem?_eq_getElem hk, Option.getD_some]
    exact h _ (List.getElem_mem hk)
  · simp [List.getD, List.getElem?_eq_none (by omega : zs.length ≤ k)]
theorem atN_in (zs : List Int) (h : ∀ z ∈ zs, 0 ≤ z ∧ z ≤ 255) (k : Nat) : 0 ≤ atN zs k ∧ atN zs k ≤ 256 * k := by
  induction k with
  | zero => simp [atN]
  | succ k ih => have := getD_in zs h k; simp only [atN]; omega
theorem rowV_snoc (l : List Int) (x c : Int) : rowV (l ++ [x]) c = if rowV l c < l.length then rowV l c else l.length + (decide (x < c)).toNat := by
  unfold rowV
  rw [List.takeWhile_append]
  by_cases h : (l.takeWhile fun s => decide (s < c)).length = l.length
  · rw [if_pos h, if_neg (by omega)]
    by_cases hx : x < c <;> simp [List.takeWhile_cons, hx]
  · have := (List.takeWhile_prefix (fun s => decide (s < c)) (l := l)).length_le
    rw [if_neg h, if_pos (by omega)]
theorem row_SN (zs : List Int) (h : ∀ z ∈ zs, 0 ≤ z ∧ z ≤ 255) (c : Int) (k : Nat) : rowV (SN zs k) c = PN zs c k ∧ (PN zs c k < k → c ≤ atN zs k) := by
  induction k with
  | zero => exact ⟨rfl, fun h => absurd h (by simp [PN])⟩
  | succ k ih =>
    have hz := getD_in zs h k
    have hp := PN_le zs c k
    have ha : atN zs (k + 1) = atN zs k + 1 + zs.getD k 0 := rfl
    show rowV (SN zs k ++ [atN zs (k + 1)]) c = _ ∧ _
    rw [rowV_snoc, ih.1, len_SN]
    simp only [PN]
    by_cases hk : PN zs c k < k
    · have := ih.2 hk
      have hd : decide (atN zs (k + 1) < c) = false := by simp; omega
      rw [if_pos hk, hd]
      exact ⟨by simp, fun _ => by omega⟩
    · rw [if_neg hk]
      have e : PN zs c k = k := by omega
      by_cases hx : atN zs (k + 1) < c
      · simp [hx, e]
      · simp [hx, e]; omega
theorem row_all (zs : List Int) (h : ∀ z ∈ zs, 0 ≤ z ∧ z ≤ 255) (c : Int) : rowV (SN zs zs.length) c = PN zs c zs.length := (row_SN zs h c _).1

theorem cellsV_len (l : List Int) : (cellsV l).length = l.length * 2 := by
  induction l with
  | nil => rfl
  | cons x l ih => simp [cellsV] at ih ⊢; omega
theorem cellsV_one (l : List Int) : ∀ u ∈ cellsV l, u.oneCell' = true := by
  intro u hu
  obtain ⟨s, _, h⟩ := List.mem_flatMap.1 hu
  rcases List.mem_cons.1 h with rfl | h
  · rfl
  · rcases List.mem_cons.1 h with rfl | h
    · rfl
    · cases h

/-- the cells of pairs, whatever the second ones are -/
def pairsV (l : List Int) (B : Nat → Bool) : Nat → List Value
  | 0 => []
  | k + 1 => pairsV l B k ++ [.int .i64 (l.getD k 0), .bool (B k)]
theorem pairsV_len (l : List Int) (B : Nat → Bool) (k : Nat) : (pairsV l B k).length = k * 2 := by
  induction k with
  | zero => rfl
  | succ k ih => simp [pairsV, ih]; omega
theorem pairsV_one (l : List Int) (B : Nat → Bool) (k : Nat) : ∀ u ∈ pairsV l B k, u.oneCell' = true := by
  induction k with
  | zero => intro u hu; cases hu
  | succ k ih =>
    intro u hu
    rcases List.mem_append.1 hu with h | h
    · exact ih u h
    · rcases List.mem_cons.1 h with rfl | h
      · rfl
      · rcases List.mem_cons.1 h with rfl | h
        · rfl
        · cases h
theorem pairsV_get (l : List Int) (B : Nat → Bool) (k : Nat) : ∀ j, j < k → (pairsV l B k)[j * 2]? = some (.int .i64 (l.getD j 0)) ∧ (pairsV l B k)[j * 2 + 1]? = some (.bool (B j)) := by
  induction k with
  | zero => intro j h; omega
  | succ k ih =>
    intro j hj
    have hl := pairsV_len l B k
    by_cases h : j < k
    · have := ih j h
      simp only [pairsV]
      rw [List.getElem?_append_left (by omega), List.getElem?_append_left (by omega)]
      exact this
    · have e : j = k := by omega
      subst e
      simp only [pairsV]
      rw [List.getElem?_append_right (by omega), List.getElem?_append_right (by omega), hl]
      simp
theorem pairsV_all (l : List Int) (B : Nat → Bool) (k : Nat) (w : World) (b o : Nat) (hc : ∀ j, j < k → w.cell? ⟨b, o + j * 2, none⟩ = some (.int .i64 (l.getD j 0)) ∧ w.cell? ⟨b, o + j * 2 + 1, none⟩ = some (.bool (B j))) :
    ∀ j u, (pairsV l B k)[j]? = some u → w.cell? ((⟨b, o, none⟩ : Addr).add j) = some u := by
  intro j u hu
  have hj : j < k * 2 := by have := (List.getElem?_eq_some_iff.1 hu).1; rwa [pairsV_len] at this
  rw [Addr.add_lit]
  have h2 := pairsV_get l B k (j / 2) (by omega)
  have h3 := hc (j / 2) (by omega)
  rcases Nat.mod_two_eq_zero_or_one j with h | h
  · have e : j = j / 2 * 2 := by omega
    rw [e, h2.1] at hu
    rw [e, h3.1, hu]
  · have e : j = j / 2 * 2 + 1 := by omega
    rw [e, h2.2] at hu
    rw [e, ← Nat.add_assoc, h3.2, hu]

/-- an owned row of pairs reads as stages -/
theorem rd_owned {w : World} {base : Nat} {e : TypeId} {v : Value} {l : List Int} {B : Nat → Bool} {n : Nat} {vs : List Value} (hown : w.ownsRow base e 2 v n vs) (hn : n = l.length)
    (hv : ∀ j, j < l.length → vs[j * 2]? = some (.int .i64 (l.getD j 0)) ∧ vs[j * 2 + 1]? = some (.bool (B j))) :
    ∃ A cap, v = .slice A n cap ∧ RdC w w.heap.size A l := by
  rcases hown.2 with ⟨rfl, h0⟩ | ⟨g, cap, cur, rfl, hb, hgg, rest⟩
  · exact ⟨none, 0, by rw [h0], fun h => by omega⟩
  · refine ⟨_, _, rfl, fun _ => ⟨g, 0, rfl, (Array.getElem?_eq_some_iff.1 hgg).1, fun j => .bool (B j), fun j hj => ?_⟩⟩
    have hc := hown.cells (g := g) rfl
    have h1 := hc _ _ (hv j hj).1
    have h2 := hc _ _ (hv j hj).2
    rw [Addr.add_lit] at h1 h2
    exact ⟨h1, by rw [Nat.add_assoc]; exact h2⟩

theorem cells_kept {w w' : World} {L : List Int} {B : Nat → Bool} {RA : Option Addr} (hb : Below w.heap.size w w')
    (hR : 0 < L.length → ∃ b o, RA = some ⟨b, o, none⟩ ∧ b < w.heap.size ∧ ∀ j, j < L.length → w.cell? ⟨b, o + j * 2, none⟩ = some (.int .i64 (L.getD j 0)) ∧ w.cell? ⟨b, o + j * 2 + 1, none⟩ = some (.bool (B j))) :
    ∀ ad, RA = some ad → ∀ j u, (pairsV L B L.length)[j]? = some u → w'.cell? (ad.add j) = some u := by
  intro ad hra j u hu
  by_cases h0 : 0 < L.length
  · obtain ⟨b, o, h1, hlt, hc⟩ := hR h0
    rw [h1] at hra
    obtain rfl := Option.some.inj hra
    have h := pairsV_all L B L.length w b o hc j u hu
    rw [Addr.add_lit] at h ⊢
    exact (hb.cell (p := ⟨b, o + j, none⟩) hlt).trans h
  · have e : L.length = 0 := by omega
    rw [e] at hu
    simp [pairsV] at hu

theorem wpList_append_own_g {P : Program} (w : World) {ops : Array Oper} {rest : List Oper} {o : Oper} {a : Act} {Q : Exit → Act → World → Prop} (hgd : Region.wanted o (yielded ops a.tmps) = true) (s x : Operand) (t : TypeId)
    (ho : o.op = .call { callee := .builtin .append, args := #[s, x], argTypes := #[t, t] })
    (base : Nat) (e : TypeId) (i : TypeInfo) (z : Value) (size bytes : Nat) (ht : P.underlying t = some (.slice e)) (hi : P.info? e = some i) (hz : i.zero = some z)
    (hsize : i.size = size) (hby : i.bytes = bytes) (hzs : z.cells.size = size) (hsz : 0 < size)
    (v : Value) (n : Nat) (xs : List Value) (hs : a.eval s = v) (hown : w.ownsRow base e size v n xs)
    (ad : Addr) (m c : Nat) (news : List Value) (hx : a.eval x = .slice (some ad) m c) (hl : news.length = m * size) (hnews : ∀ j u, news[j]? = some u → w.cell? (ad.add j) = some u) (h1 : ∀ u ∈ news, u.oneCell' = true)
    (h63 : n + m ≤ maxLen) (hbytes : (n + m) * bytes ≤ 140737488355328) (hbase : base ≤ w.heap.size)
    (h : ∀ v' w', w'.ownsRow base e size v' (n + m) (xs ++ news) → w.grownBy w' v.ownBlock → (v' = .slice none 0 0 ↔ v = .slice none 0 0 ∧ m = 0) → wpList P ops Q rest (a.put o.dst v') w') : wpList P ops Q (o :: rest) a w := by
  refine wpList_step fun K hK => ?_
  rw [if_pos hgd]
  exact wp_append_own w s x t ho base e i z size bytes ht hi hz hsize hby hzs hsz v n xs hs hown ad m c news hx hl hnews h1 h63 hbytes hbase fun v' w' h2 h3 h4 => hK _ _ (h v' w' h2 h3 h4)

theorem wpList_append_own_none_g {P : Program} {w : World} {ops : Array Oper} {rest : List Oper} {o : Oper} {a : Act} {Q : Exit → Act → World → Prop} (hgd : Region.wanted o (yielded ops a.tmps) = true) (s x : Operand) (t : TypeId)
    (ho : o.op = .call { callee := .builtin .append, args := #[s, x], argTypes := #[t, t] })
    (base : Nat) (e : TypeId) (i : TypeInfo) (size : Nat) (ht : P.underlying t = some (.slice e)) (hi : P.info? e = some i)
    (v : Value) (n : Nat) (xs : List Value) (hs : a.eval s = v) (hown : w.ownsRow base e size v n xs) (hx : a.eval x = .slice none 0 0)
    (h : wpList P ops Q rest (a.put o.dst v) w) : wpList P ops Q (o :: rest) a w := by
  refine wpList_step fun K hK => ?_
  rw [if_pos hgd]
  have hrun := run_append_owned_none (P := P) (w := w) base t o.type e i size ht hi v n xs hown
  unfold Oper.wp
  simp [execOp, ho, resolve, invoke, builtin, hs, hx, hrun, Result.andThen]
  exact hK _ _ h

/-- an empty slice that the call has made owns nothing -/
theorem owns_empty (w : World) (base : Nat) (e : TypeId) (size : Nat) (hb : base ≤ w.heap.size) : (w.alloc (.cells #[] e)).ownsRow base e size (.slice (some ⟨w.heap.size, 0, none⟩) 0 0) 0 [] :=
  ⟨by simp, .inr ⟨w.heap.size, 0, #[], rfl, hb, heap_alloc_new w _, Nat.le_refl _, Nat.zero_le _, by simp, by simp⟩⟩

theorem cellsV_get (l : List Int) : ∀ j, j < l.length → (cellsV l)[j * 2]? = some (.int .i64 (l.getD j 0)) ∧ (cellsV l)[j * 2 + 1]? = some (.bool false) := by
  induction l with
  | nil => intro j h; simp at h
  | cons x l ih =>
    intro j hj
    rcases j with _ | j
    · exact ⟨rfl, rfl⟩
    · have := ih j (by simpa using hj)
      have e : cellsV (x :: l) = .int .i64 x :: .bool false :: cellsV l := rfl
      rw [e, show (j + 1) * 2 = j * 2 + 1 + 1 by omega, show j * 2 + 1 + 1 + 1 = (j * 2 + 1) + 1 + 1 by omega]
      simpa using this

end Go.Proofs.Ytdgeeoanbcbphaa.StR
