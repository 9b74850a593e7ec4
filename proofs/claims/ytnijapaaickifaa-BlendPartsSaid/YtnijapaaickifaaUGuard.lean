-- The words of the kit's print for this seat, without those that this claim does not need (trimwords.py, a program of this session). Not trusted: Lean checks it.
import Derived.Test.YtnijapaaickifaaUWords
/-! ### 58. A guarded operation whose guard is known to want it: the same goal without the guard -/
namespace Go.Proofs.YtnijapaaickifaaW.PrintWords
open Go.RowKit
section
variable {P : Program} {ops : Array Oper} {rest : List Oper} {o : Oper} {a : Act} {Q : Exit → Act → World → Prop} {W : World}
end
end Go.Proofs.YtnijapaaickifaaW.PrintWords
