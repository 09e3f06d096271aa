/- What is written into a row of the call's own beyond its end, and onto a beginning of it: what slices.Insert and slices.Delete do. Its conditions: none. -/
import Derived.Test.YtcmkdoahkncakaaClearJ
import Derived.Lib.AppendZerosOnto
import Derived.Lib.Overlaps
namespace Go.Proofs.Ytcmkdoahkncakaa
open Go.RowKit
set_option linter.unusedVariables false
section
variable {P : Program} {Q : Exit → Act → World → Prop} {M : List (Nat × Value)} {ops : Array Oper} {o : Oper} {N : Sz} {w0 w : World} {V : View} {H : List HObj} {K : Act → World → Prop}
variable {α : Type} {E : Enc α} {p : Bool} {t e : TypeId} {A : Option Addr} {c : Nat} {l : List α}

/-! ### What comes out -/
def insAt (l : List α) (k : Nat) (x : α) : List α := l.take k ++ x :: l.drop k
def delAt (l : List α) (i j : Nat) : List α := l.take i ++ l.drop j
end

/-! ### In pure functions -/
def inss {α : Type} (bytes : Nat) (l : List α) (k : Int) (x : α) : Option (List α) := if 0 ≤ k ∧ k ≤ (l.length : Int) ∧ (l.length + 1) * bytes ≤ 140737488355328 ∧ l.length + 1 ≤ maxLen then some (insAt l k.toNat x) else none
def dels {α : Type} (l : List α) (i j : Int) : Option (List α) := if 0 ≤ i ∧ i < j ∧ j ≤ (l.length : Int) then some (delAt l i.toNat j.toNat) else none
end Go.Proofs.Ytcmkdoahkncakaa
