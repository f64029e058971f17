/-
  No cell of these rows narrows 'for every input' (looked for: loops, veiled, ifaces, maps, wideKeys, modest, calm, conditions, laid).
  DERIVED. THE GIVEN ROWS OF THIS SEAT. 3 by the template 'for every input the law returns true; each argument reads behind the call as it read before'; 0 by the template 'total and deterministic' (their statements: YtdgeeoanbcbphaaTotals.lean).
  GIVEN WITH THE SEED: the statements are not yours to turn. If you find one false, say at which input.
  Laid BY PROGRAM, IN A SANDBOX (cutbox-rows.mjs): the forced cells as the released guide's own fill.sh prints them over the translation 4244b0df34ece87b… (all of the seat's roots in one cut). By AI agents, Wed Nov 11 2026. No macro, syntax, notation, axiom, sorry.
-/
import Derived.Test.YtdgeeoanbcbphaaChecked
import GoSem.Claim
import GoSem.ClaimJoined
import GoSem.ClaimMapViews
import Derived.JoinedTies
import Derived.KernelRfl
namespace Go.Proofs.Ytdgeeoanbcbphaa
/- THE CELL 'sum', in the pinned program and in every row, IS THE sha256 OF THE DUMP (.gsa) THAT YtdgeeoanbcbphaaProg.lean LOADS. Nothing in Lean hashes anything: it is a label: what it is worth is what the hold of that sum in a sandbox is worth. -/
noncomputable def Try.pinned : Pinned := { name := "ytdgeeoanbcbphaa", sum := "4244b0df34ece87bc06fabece4222de0d12cdf36da3cf54371d2f7849079bd2d", checked := Try.checked }
namespace Rows
def none {H : Type} : Left H := { results := [], args := [] }

/-- 'forebaylaw21.StageGoes': WHATEVER THE INPUT: true; the input reads as it did. -/
def stageGoesSpec : ChangeSpec := { name := "stageGoes", fn := fun _ => fun
  | [d1, d2, d3] => { results := [.lit (.bool true)], args := [d1, d2, d3] }
  | _ => none }
def stageGoesRow : OpenClaim := { program := "ytdgeeoanbcbphaa", sum := "4244b0df34ece87bc06fabece4222de0d12cdf36da3cf54371d2f7849079bd2d", func := "forebay/forebaylaw21.StageGoes", spec := "stageGoes", unfollowed := true, recurses := true, apart := false }
def StageGoesSaid : Prop := stageGoesRow.holds Try.pinned (OpenSpec.ofChange stageGoesSpec)

/-- ITS FALSE NEIGHBOUR: 'it returns false'. Refute it at one input. -/
def stageGoesWrong : ChangeSpec := { name := "stageGoes", fn := fun _ => fun
  | [d1, d2, d3] => { results := [.lit (.bool false)], args := [d1, d2, d3] }
  | _ => none }
def StageGoesWrongFalsely : Prop := stageGoesRow.holds Try.pinned (OpenSpec.ofChange stageGoesWrong)

/-- 'forebaylaw21.StageKnows': WHATEVER THE INPUT: true; the input reads as it did. -/
def stageKnowsSpec : ChangeSpec := { name := "stageKnows", fn := fun _ => fun
  | [d1, d2] => { results := [.lit (.bool true)], args := [d1, d2] }
  | _ => none }
def stageKnowsRow : OpenClaim := { program := "ytdgeeoanbcbphaa", sum := "4244b0df34ece87bc06fabece4222de0d12cdf36da3cf54371d2f7849079bd2d", func := "forebay/forebaylaw21.StageKnows", spec := "stageKnows", unfollowed := true, recurses := true, apart := false }
def StageKnowsSaid : Prop := stageKnowsRow.holds Try.pinned (OpenSpec.ofChange stageKnowsSpec)

/-- ITS FALSE NEIGHBOUR: 'it returns false'. Refute it at one input. -/
def stageKnowsWrong : ChangeSpec := { name := "stageKnows", fn := fun _ => fun
  | [d1, d2] => { results := [.lit (.bool false)], args := [d1, d2] }
  | _ => none }
def StageKnowsWrongFalsely : Prop := stageKnowsRow.holds Try.pinned (OpenSpec.ofChange stageKnowsWrong)

/-- 'forebaylaw21.StageRows': WHATEVER THE INPUT: true; the input reads as it did. -/
def stageRowsSpec : ChangeSpec := { name := "stageRows", fn := fun _ => fun
  | [d1, d2, d3] => { results := [.lit (.bool true)], args := [d1, d2, d3] }
  | _ => none }
def stageRowsRow : OpenClaim := { program := "ytdgeeoanbcbphaa", sum := "4244b0df34ece87bc06fabece4222de0d12cdf36da3cf54371d2f7849079bd2d", func := "forebay/forebaylaw21.StageRows", spec := "stageRows", unfollowed := true, recurses := true, apart := false }
def StageRowsSaid : Prop := stageRowsRow.holds Try.pinned (OpenSpec.ofChange stageRowsSpec)

/-- ITS FALSE NEIGHBOUR: 'it returns false'. Refute it at one input. -/
def stageRowsWrong : ChangeSpec := { name := "stageRows", fn := fun _ => fun
  | [d1, d2, d3] => { results := [.lit (.bool false)], args := [d1, d2, d3] }
  | _ => none }
def StageRowsWrongFalsely : Prop := stageRowsRow.holds Try.pinned (OpenSpec.ofChange stageRowsWrong)

/- THE SECOND FORM. 'bulk': how many values and letters a reading holds, each counted each time it is reached (what is shared counts as often as it is met; a slice's spare places count too). A statement '..UptoSaid' is the law's where the arguments, and the package variables that the reading takes, are together of bulk at most 1048576: NARROWER than '..Said'. Prove '..Said' where nothing that the law and all that it calls make is longer than what came in: it says more and counts as full. Else prove '..UptoSaid'. A law counts once. -/
mutual
def uptoBulk {H : Type} : DataW H → Nat
  | .lit (.string bytes) => bytes.length + 1
  | .lit _ => 1
  | .nil => 1
  | .ptr d => uptoBulk d + 1
  | .slice elems spare => uptoBulkAll elems + uptoBulkAll spare + 1
  | .agg parts => uptoBulkAll parts + 1
  | .iface _ d => uptoBulk d + 1
  | .map entries => uptoBulkEntries entries + 1
  | .held _ => 1
def uptoBulkAll {H : Type} : List (DataW H) → Nat
  | [] => 0
  | d :: r => uptoBulk d + uptoBulkAll r
def uptoBulkEntries {H : Type} : List (Lit × DataW H) → Nat
  | [] => 0
  | x :: r => uptoBulkEntry x + uptoBulkEntries r
def uptoBulkEntry {H : Type} : Lit × DataW H → Nat
  | (.string bytes, d) => bytes.length + uptoBulk d + 1
  | (_, d) => uptoBulk d + 1
 end
def uptoSmall : (H : Type) → List (DataW H) → Bool := fun _ ds => decide (uptoBulkAll ds ≤ 1048576)
def OpenSpec.upto (s : _root_.Go.ChangeSpec) : _root_.Go.OpenSpec := { _root_.Go.OpenSpec.ofChange s with cond := some uptoSmall }

/-- 'forebaylaw21.StageGoes', WHERE WHAT IT READS IS OF BULK AT MOST 1048576: true; the input reads as it did. -/
def stageGoesUptoRow : OpenClaim := { program := "ytdgeeoanbcbphaa", sum := "4244b0df34ece87bc06fabece4222de0d12cdf36da3cf54371d2f7849079bd2d", func := "forebay/forebaylaw21.StageGoes", spec := "stageGoes", unfollowed := true, recurses := true, apart := false, narrowed := true }
def StageGoesUptoSaid : Prop := stageGoesUptoRow.holds Try.pinned (OpenSpec.upto stageGoesSpec)

/-- 'forebaylaw21.StageKnows', WHERE WHAT IT READS IS OF BULK AT MOST 1048576: true; the input reads as it did. -/
def stageKnowsUptoRow : OpenClaim := { program := "ytdgeeoanbcbphaa", sum := "4244b0df34ece87bc06fabece4222de0d12cdf36da3cf54371d2f7849079bd2d", func := "forebay/forebaylaw21.StageKnows", spec := "stageKnows", unfollowed := true, recurses := true, apart := false, narrowed := true }
def StageKnowsUptoSaid : Prop := stageKnowsUptoRow.holds Try.pinned (OpenSpec.upto stageKnowsSpec)

/-- 'forebaylaw21.StageRows', WHERE WHAT IT READS IS OF BULK AT MOST 1048576: true; the input reads as it did. -/
def stageRowsUptoRow : OpenClaim := { program := "ytdgeeoanbcbphaa", sum := "4244b0df34ece87bc06fabece4222de0d12cdf36da3cf54371d2f7849079bd2d", func := "forebay/forebaylaw21.StageRows", spec := "stageRows", unfollowed := true, recurses := true, apart := false, narrowed := true }
def StageRowsUptoSaid : Prop := stageRowsUptoRow.holds Try.pinned (OpenSpec.upto stageRowsSpec)

end Rows
end Go.Proofs.Ytdgeeoanbcbphaa
