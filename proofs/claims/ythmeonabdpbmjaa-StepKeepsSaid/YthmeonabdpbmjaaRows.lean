/-
  No cell of these rows narrows 'for every input' (looked for: loops, veiled, ifaces, maps, wideKeys, modest, calm, conditions, laid).
  DERIVED. THE GIVEN ROWS OF THIS SEAT. 4 by the template 'for every input the law returns true; each argument reads behind the call as it read before'; 0 by the template 'total and deterministic' (their statements: YthmeonabdpbmjaaTotals.lean).
  GIVEN WITH THE SEED: the statements are not yours to turn. If you find one false, say at which input.
  Laid BY PROGRAM, IN A SANDBOX (cutbox-rows.mjs): the forced cells as the released guide's own fill.sh prints them over the translation 42e5e4c9b8737fdc… (all of the seat's roots in one cut). By AI agents, Wed Nov 11 2026. No macro, syntax, notation, axiom, sorry.
-/
import Derived.Test.YthmeonabdpbmjaaChecked
import GoSem.Claim
import GoSem.ClaimJoined
import GoSem.ClaimMapViews
import Derived.JoinedTies
import Derived.KernelRfl
namespace Go.Proofs.Ythmeonabdpbmjaa
/- THE CELL 'sum', in the pinned program and in every row, IS THE sha256 OF THE DUMP (.gsa) THAT YthmeonabdpbmjaaProg.lean LOADS. Nothing in Lean hashes anything: it is a label: what it is worth is what the hold of that sum in a sandbox is worth. -/
noncomputable def Try.pinned : Pinned := { name := "ythmeonabdpbmjaa", sum := "42e5e4c9b8737fdcc6bcff0b0d130d896f015eff9eb19f7002a206860a246f98", checked := Try.checked }
namespace Rows
def none {H : Type} : Left H := { results := [], args := [] }

/-- 'forebaylaw08.StepDoes': WHATEVER THE INPUT: true; the input reads as it did. -/
def stepDoesSpec : ChangeSpec := { name := "stepDoes", fn := fun _ => fun
  | [d1, d2, d3] => { results := [.lit (.bool true)], args := [d1, d2, d3] }
  | _ => none }
def stepDoesRow : OpenClaim := { program := "ythmeonabdpbmjaa", sum := "42e5e4c9b8737fdcc6bcff0b0d130d896f015eff9eb19f7002a206860a246f98", func := "forebay/forebaylaw08.StepDoes", spec := "stepDoes", apart := false }
def StepDoesSaid : Prop := stepDoesRow.holds Try.pinned (OpenSpec.ofChange stepDoesSpec)

/-- ITS FALSE NEIGHBOUR: 'it returns false'. Refute it at one input. -/
def stepDoesWrong : ChangeSpec := { name := "stepDoes", fn := fun _ => fun
  | [d1, d2, d3] => { results := [.lit (.bool false)], args := [d1, d2, d3] }
  | _ => none }
def StepDoesWrongFalsely : Prop := stepDoesRow.holds Try.pinned (OpenSpec.ofChange stepDoesWrong)

/-- 'forebaylaw08.StepLeads': WHATEVER THE INPUT: true; the input reads as it did. -/
def stepLeadsSpec : ChangeSpec := { name := "stepLeads", fn := fun _ => fun
  | [d1, d2, d3] => { results := [.lit (.bool true)], args := [d1, d2, d3] }
  | _ => none }
def stepLeadsRow : OpenClaim := { program := "ythmeonabdpbmjaa", sum := "42e5e4c9b8737fdcc6bcff0b0d130d896f015eff9eb19f7002a206860a246f98", func := "forebay/forebaylaw08.StepLeads", spec := "stepLeads", apart := false }
def StepLeadsSaid : Prop := stepLeadsRow.holds Try.pinned (OpenSpec.ofChange stepLeadsSpec)

/-- ITS FALSE NEIGHBOUR: 'it returns false'. Refute it at one input. -/
def stepLeadsWrong : ChangeSpec := { name := "stepLeads", fn := fun _ => fun
  | [d1, d2, d3] => { results := [.lit (.bool false)], args := [d1, d2, d3] }
  | _ => none }
def StepLeadsWrongFalsely : Prop := stepLeadsRow.holds Try.pinned (OpenSpec.ofChange stepLeadsWrong)

/-- 'forebaylaw08.StepKeeps': WHATEVER THE INPUT: true; the input reads as it did. -/
def stepKeepsSpec : ChangeSpec := { name := "stepKeeps", fn := fun _ => fun
  | [d1, d2, d3, d4] => { results := [.lit (.bool true)], args := [d1, d2, d3, d4] }
  | _ => none }
def stepKeepsRow : OpenClaim := { program := "ythmeonabdpbmjaa", sum := "42e5e4c9b8737fdcc6bcff0b0d130d896f015eff9eb19f7002a206860a246f98", func := "forebay/forebaylaw08.StepKeeps", spec := "stepKeeps", apart := false }
def StepKeepsSaid : Prop := stepKeepsRow.holds Try.pinned (OpenSpec.ofChange stepKeepsSpec)

/-- ITS FALSE NEIGHBOUR: 'it returns false'. Refute it at one input. -/
def stepKeepsWrong : ChangeSpec := { name := "stepKeeps", fn := fun _ => fun
  | [d1, d2, d3, d4] => { results := [.lit (.bool false)], args := [d1, d2, d3, d4] }
  | _ => none }
def StepKeepsWrongFalsely : Prop := stepKeepsRow.holds Try.pinned (OpenSpec.ofChange stepKeepsWrong)

/-- 'forebaylaw08.StepTook': WHATEVER THE INPUT: true; the input reads as it did. -/
def stepTookSpec : ChangeSpec := { name := "stepTook", fn := fun _ => fun
  | [d1, d2, d3, d4] => { results := [.lit (.bool true)], args := [d1, d2, d3, d4] }
  | _ => none }
def stepTookRow : OpenClaim := { program := "ythmeonabdpbmjaa", sum := "42e5e4c9b8737fdcc6bcff0b0d130d896f015eff9eb19f7002a206860a246f98", func := "forebay/forebaylaw08.StepTook", spec := "stepTook", apart := false }
def StepTookSaid : Prop := stepTookRow.holds Try.pinned (OpenSpec.ofChange stepTookSpec)

/-- ITS FALSE NEIGHBOUR: 'it returns false'. Refute it at one input. -/
def stepTookWrong : ChangeSpec := { name := "stepTook", fn := fun _ => fun
  | [d1, d2, d3, d4] => { results := [.lit (.bool false)], args := [d1, d2, d3, d4] }
  | _ => none }
def StepTookWrongFalsely : Prop := stepTookRow.holds Try.pinned (OpenSpec.ofChange stepTookWrong)

/- THE SECOND FORM. 'bulk': how many values and letters a reading holds, each counted each time it is reached (what is shared counts as often as it is met; a slice's spare places count too). A statement '..UptoSaid' is the law's where the arguments, and the package variables that the reading takes, are together of bulk at most 1048576: NARROWER than '..Said'. Prove '..Said' where nothing that the law and all that it calls make is longer than what came in: it says more and counts as full. Else prove '..UptoSaid'. A law counts once. -/
mutual
def uptoBulk {H : Type} : DataW H → Nat
  | .lit (.string bytes) => bytes.length + 1
  | .lit _ => 1
  | .nil => 1
  | .ptr d => uptoBulk d + 1
  | .slice elems spare => uptoBulkAll elems + uptoBulkAll spare + 1
  | .agg parts => uptoBulkAll parts + 1
  | .iface _ d => uptoBulk d + 1
  | .map entries => uptoBulkEntries entries + 1
  | .held _ => 1
def uptoBulkAll {H : Type} : List (DataW H) → Nat
  | [] => 0
  | d :: r => uptoBulk d + uptoBulkAll r
def uptoBulkEntries {H : Type} : List (Lit × DataW H) → Nat
  | [] => 0
  | x :: r => uptoBulkEntry x + uptoBulkEntries r
def uptoBulkEntry {H : Type} : Lit × DataW H → Nat
  | (.string bytes, d) => bytes.length + uptoBulk d + 1
  | (_, d) => uptoBulk d + 1
 end
def uptoSmall : (H : Type) → List (DataW H) → Bool := fun _ ds => decide (uptoBulkAll ds ≤ 1048576)
def OpenSpec.upto (s : _root_.Go.ChangeSpec) : _root_.Go.OpenSpec := { _root_.Go.OpenSpec.ofChange s with cond := some uptoSmall }

/-- 'forebaylaw08.StepDoes', WHERE WHAT IT READS IS OF BULK AT MOST 1048576: true; the input reads as it did. -/
def stepDoesUptoRow : OpenClaim := { program := "ythmeonabdpbmjaa", sum := "42e5e4c9b8737fdcc6bcff0b0d130d896f015eff9eb19f7002a206860a246f98", func := "forebay/forebaylaw08.StepDoes", spec := "stepDoes", apart := false, narrowed := true }
def StepDoesUptoSaid : Prop := stepDoesUptoRow.holds Try.pinned (OpenSpec.upto stepDoesSpec)

/-- 'forebaylaw08.StepLeads', WHERE WHAT IT READS IS OF BULK AT MOST 1048576: true; the input reads as it did. -/
def stepLeadsUptoRow : OpenClaim := { program := "ythmeonabdpbmjaa", sum := "42e5e4c9b8737fdcc6bcff0b0d130d896f015eff9eb19f7002a206860a246f98", func := "forebay/forebaylaw08.StepLeads", spec := "stepLeads", apart := false, narrowed := true }
def StepLeadsUptoSaid : Prop := stepLeadsUptoRow.holds Try.pinned (OpenSpec.upto stepLeadsSpec)

/-- 'forebaylaw08.StepKeeps', WHERE WHAT IT READS IS OF BULK AT MOST 1048576: true; the input reads as it did. -/
def stepKeepsUptoRow : OpenClaim := { program := "ythmeonabdpbmjaa", sum := "42e5e4c9b8737fdcc6bcff0b0d130d896f015eff9eb19f7002a206860a246f98", func := "forebay/forebaylaw08.StepKeeps", spec := "stepKeeps", apart := false, narrowed := true }
def StepKeepsUptoSaid : Prop := stepKeepsUptoRow.holds Try.pinned (OpenSpec.upto stepKeepsSpec)

/-- 'forebaylaw08.StepTook', WHERE WHAT IT READS IS OF BULK AT MOST 1048576: true; the input reads as it did. -/
def stepTookUptoRow : OpenClaim := { program := "ythmeonabdpbmjaa", sum := "42e5e4c9b8737fdcc6bcff0b0d130d896f015eff9eb19f7002a206860a246f98", func := "forebay/forebaylaw08.StepTook", spec := "stepTook", apart := false, narrowed := true }
def StepTookUptoSaid : Prop := stepTookUptoRow.holds Try.pinned (OpenSpec.upto stepTookSpec)

end Rows
end Go.Proofs.Ythmeonabdpbmjaa
