/- What an instruction does: plain definitions. No program in sight. -/
import Derived.Test.YthmeonabdpbmjaaWrM
namespace Go.Proofs.Ythmeonabdpbmjaa.Sp
open Go.RowKit Go.Proofs.Ythmeonabdpbmjaa.Wr

/-- eight registers -/
structure Rg where
  r0 : Int
  r1 : Int
  r2 : Int
  r3 : Int
  r4 : Int
  r5 : Int
  r6 : Int
  r7 : Int

def Rg.get (R : Rg) (k : Int) : Int :=
  if k = 0 then R.r0 else if k = 1 then R.r1 else if k = 2 then R.r2 else if k = 3 then R.r3 else if k = 4 then R.r4 else if k = 5 then R.r5 else if k = 6 then R.r6 else R.r7
def Rg.set (R : Rg) (k v : Int) : Rg :=
  if k = 0 then { R with r0 := v } else if k = 1 then { R with r1 := v } else if k = 2 then { R with r2 := v } else if k = 3 then { R with r3 := v }
  else if k = 4 then { R with r4 := v } else if k = 5 then { R with r5 := v } else if k = 6 then { R with r6 := v } else { R with r7 := v }
def held (n : Int) : Int := min (max n 0) 7
theorem held_cases (n : Int) : held n = 0 ∨ held n = 1 ∨ held n = 2 ∨ held n = 3 ∨ held n = 4 ∨ held n = 5 ∨ held n = 6 ∨ held n = 7 := by unfold held; omega
def Rg.at (R : Rg) (n : Int) : Int := R.get (held n)

/-- what is asked -/
structure Ef where
  kind : Int
  at_ : Int
  value : Int
  other : Int
  reg : Int

def noEf : Ef := ⟨0, 0, 0, 0, 0⟩
/-- what an instruction asks: by its operation, its first operand, what stands in the registers of its operands, and its first register -/
def ofE (op A a b c ra : Int) : Ef :=
  if op = 13 then ⟨1, b, 0, 0, ra⟩ else if op = 14 then ⟨2, a, b, 0, 0⟩ else if op = 15 then ⟨3, b, c, 0, ra⟩ else if op = 16 then ⟨4, b, a, c, ra⟩
  else if op = 17 then ⟨5, 0, a, 0, 0⟩ else if op = 20 then ⟨6, 0, A, 0, 0⟩ else if op = 21 then ⟨7, 0, 0, 0, 0⟩ else if op = 22 then ⟨8, 0, A, 0, 0⟩
  else if op = 23 then ⟨9, 0, a, 0, 0⟩ else if op = 24 then ⟨10, 0, a, 0, 0⟩ else if op = 25 then ⟨11, 0, 0, 0, 0⟩ else if op = 0 then ⟨12, 0, 0, 0, 0⟩ else noEf

end Go.Proofs.Ythmeonabdpbmjaa.Sp
