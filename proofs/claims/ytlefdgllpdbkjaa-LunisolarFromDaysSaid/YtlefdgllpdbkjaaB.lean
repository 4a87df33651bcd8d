/- Plain facts on tables of months (calendars by tables). No program here. -/
import Derived.Test.YtlefdgllpdbkjaaM
import Derived.Test.YtlefdgllpdbkjaaL
import Derived.Test.YtlefdgllpdbkjaaT
namespace Go.Proofs.Ytlefdgllpdbkjaa.B
open Go.RowKit Go.Proofs.YtlefdgllpdbkjaaW.PrintWords Go.Proofs.Ytlefdgllpdbkjaa.M Go.Proofs.Ytlefdgllpdbkjaa.L Go.Proofs.Ytlefdgllpdbkjaa.T
set_option linter.unusedVariables false
def okMonths (l : List Int) : Prop := ∀ m ∈ l, m = 12 ∨ m = 13
instance (l : List Int) : Decidable (okMonths l) := by unfold okMonths; infer_instance
def prevN (l : List Int) (i : Nat) : Option Int := if i = 0 then none else some (rd l ((i : Int) - 1))
theorem prevN_succ (l : List Int) (i : Nat) (h : i < l.length) : prevN l (i + 1) = some l[i] := by
  unfold prevN
  rw [if_neg (by omega), show ((i + 1 : Nat) : Int) - 1 = (i : Int) from by omega, rd_get l i h]
end Go.Proofs.Ytlefdgllpdbkjaa.B
