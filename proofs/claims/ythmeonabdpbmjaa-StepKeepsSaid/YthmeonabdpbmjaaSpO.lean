/- Arguments opened: an array of integers, an instruction. -/
import Derived.Test.YthmeonabdpbmjaaSpM
import Derived.Test.YthmeonabdpbmjaaFrame
import Derived.Lib.SmallJoins
namespace Go.Proofs.Ythmeonabdpbmjaa.Sp
open Go.RowKit Go.ChangeShapes Go.WideShapes Go.ChangeAt

theorem array_of_list {n : Nat} (f : Value → Int) (cs : Array Value) (hs : cs.size = n) (h : ∀ i, i < n → cs[i]? = some (.int .i64 (f (cs[i]?.getD undef)))) :
    ∃ zs : List Int, zs.length = n ∧ cs = (zs.map (Value.int .i64)).toArray := by
  refine ⟨cs.toList.map f, by simp [hs], ?_⟩
  apply Array.ext
  · simp
  · intro i h1 h2
    have := h i (by omega)
    simp [h1] at this ⊢
    exact this

theorem open_array_ints {H : Type} {enc : TypeId × Value → H} {P : Program} {W : World} {base n : Nat} {T E : TypeId} {v : Value} {d : DataW H} {p : List MemPlace}
    (hT : P.underlying T = some (.array n E)) (hE : P.underlying E = some (.int .i64)) (hc : P.cellsOf E = 1) (hC : P.cellsOf T = n)
    (hv : Value.okWide P W .any base T v) (hd : DataW.Trod enc P W 0 (fun _ => true) true T v d p) :
    ∃ zs : List Int, zs.length = n ∧ v = .agg (zs.map (Value.int .i64)).toArray ∧ ∀ z ∈ zs, (Lit.int .i64 z).wf = true := by
  obtain ⟨cs, rfl, hsz, _⟩ : ∃ cs, v = .agg cs ∧ cs.size = P.cellsOf T ∧ Row.okWide P W .any base T cs := by
    simpa [Value.okWide, hT] using hv
  rw [hC] at hsz
  obtain ⟨fuel, hf⟩ := hd
  obtain ⟨xs, m, _, _, hl, hlen, hel⟩ := DataW.trod_array hT hf
  have each : ∀ i, i < n → ∃ z, cs[i]? = some (.int .i64 z) ∧ (Lit.int .i64 z).wf = true := by
    intro i hi
    have h1 := hel i hi
    rw [hc, Nat.mul_one] at h1
    have hx : ∃ y, xs[i]? = some y := ⟨xs[i], List.getElem?_eq_getElem (by omega)⟩
    obtain ⟨y, hy⟩ := hx
    rw [hy] at h1
    obtain ⟨z, hz, _, hw⟩ := DataW.trod_int hE h1
    refine ⟨z, ?_, hw⟩
    have hi' : i < cs.size := by omega
    have : (cs.toList.drop i).take 1 = [cs[i]] := by
      rw [List.drop_eq_getElem_cons (by simpa using hi')]
      simp
    simp only [Value.cells] at hz
    rw [this] at hz
    simp only [List.cons.injEq, and_true] at hz
    rw [Array.getElem?_eq_getElem hi', hz]
  let f : Value → Int := fun | .int _ z => z | _ => 0
  have e2 : ∀ i, i < n → cs[i]? = some (.int .i64 (f (cs[i]?.getD undef))) := by
    intro i hi
    obtain ⟨z, hz, _⟩ := each i hi
    rw [hz]; rfl
  obtain ⟨zs, hzl, rfl⟩ := array_of_list f cs hsz e2
  refine ⟨zs, hzl, rfl, fun z hz => ?_⟩
  obtain ⟨i, hi, rfl⟩ := List.getElem_of_mem hz
  obtain ⟨z', hz', hw⟩ := each i (by omega)
  simp [hi] at hz'
  rw [hz']; exact hw

theorem list8 {α : Type} (l : List α) (h : l.length = 8) : ∃ a0 a1 a2 a3 a4 a5 a6 a7, l = [a0, a1, a2, a3, a4, a5, a6, a7] := by
  match l, h with
  | [a0, a1, a2, a3, a4, a5, a6, a7], _ => exact ⟨a0, a1, a2, a3, a4, a5, a6, a7, rfl⟩
theorem list4 {α : Type} (l : List α) (h : l.length = 4) : ∃ a0 a1 a2 a3, l = [a0, a1, a2, a3] := by
  match l, h with
  | [a0, a1, a2, a3], _ => exact ⟨a0, a1, a2, a3, rfl⟩

/-- eight registers that are 64-bit numbers -/
def Rg.ok (R : Rg) : Prop := ∀ n, -9223372036854775808 ≤ R.at n ∧ R.at n ≤ 9223372036854775807
theorem ok_of {R : Rg} (h : ∀ z ∈ [R.r0, R.r1, R.r2, R.r3, R.r4, R.r5, R.r6, R.r7], (Lit.int .i64 z).wf = true) : R.ok := by
  intro n
  have hb : ∀ z ∈ [R.r0, R.r1, R.r2, R.r3, R.r4, R.r5, R.r6, R.r7], -9223372036854775808 ≤ z ∧ z ≤ 9223372036854775807 := fun z hz => bounds_i64 (h z hz)
  unfold Rg.at
  rcases held_cases n with e | e | e | e | e | e | e | e <;> rw [e] <;> exact hb _ (by simp [Rg.get])

theorem open_regs {H : Type} {enc : TypeId × Value → H} {W : World} {base : Nat} {v : Value} {d : DataW H} {p : List MemPlace}
    (hv : Value.okWide Try.prog W .any base 24 v) (hd : DataW.Trod enc Try.prog W 0 (fun _ => true) true 24 v d p) :
    ∃ R : Rg, v = .agg #[.int .i64 R.r0, .int .i64 R.r1, .int .i64 R.r2, .int .i64 R.r3, .int .i64 R.r4, .int .i64 R.r5, .int .i64 R.r6, .int .i64 R.r7] ∧ R.ok := by
  obtain ⟨zs, hl, rfl, hw⟩ := open_array_ints Try.underlying24 Try.underlying3 (by kernel_rfl) (by kernel_rfl) hv hd
  obtain ⟨a0, a1, a2, a3, a4, a5, a6, a7, rfl⟩ := list8 zs hl
  exact ⟨⟨a0, a1, a2, a3, a4, a5, a6, a7⟩, by simp, ok_of hw⟩

theorem open_four {H : Type} {enc : TypeId × Value → H} {W : World} {base : Nat} {v : Value} {d : DataW H} {p : List MemPlace}
    (hv : Value.okWide Try.prog W .any base 39 v) (hd : DataW.Trod enc Try.prog W 0 (fun _ => true) true 39 v d p) :
    ∃ a b c e : Int, v = .agg #[.int .i64 a, .int .i64 b, .int .i64 c, .int .i64 e] := by
  obtain ⟨zs, hl, rfl, hw⟩ := open_array_ints Try.underlying39 Try.underlying3 (by kernel_rfl) (by kernel_rfl) hv hd
  obtain ⟨a0, a1, a2, a3, rfl⟩ := list4 zs hl
  exact ⟨a0, a1, a2, a3, by simp⟩

theorem open_ins {H : Type} {enc : TypeId × Value → H} {W : World} {base : Nat} {v : Value} {d : DataW H} {p : List MemPlace}
    (hv : Value.okWide Try.prog W .any base 23 v) (hd : DataW.Trod enc Try.prog W 0 (fun _ => true) true 23 v d p) :
    ∃ a b c e : Int, v = .agg #[.int .i64 a, .int .i64 b, .int .i64 c, .int .i64 e] := by
  obtain ⟨v0, v1, v2, v3, y0, y1, y2, y3, n, rfl, _, _, h0, h1, h2, h3⟩ := Go.Joins.open_agg4 Try.underlying23 (by kernel_rfl) (by kernel_rfl) hv hd
  obtain ⟨a0, e0, _, _⟩ := DataW.trod_int Try.underlying3 h0
  obtain ⟨a1, e1, _, _⟩ := DataW.trod_int Try.underlying3 h1
  obtain ⟨a2, e2, _, _⟩ := DataW.trod_int Try.underlying3 h2
  obtain ⟨a3, e3, _, _⟩ := DataW.trod_int Try.underlying3 h3
  simp only [List.cons.injEq, and_true] at e0 e1 e2 e3
  subst e0 e1 e2 e3
  exact ⟨a0, a1, a2, a3, rfl⟩

end Go.Proofs.Ythmeonabdpbmjaa.Sp
