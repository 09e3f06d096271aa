/- Plain Lean: what the laws of runs share. Its conditions: none. -/
import Derived.Test.YtdggcklddjndmaaPRunJ
import Derived.Test.YtdggcklddjndmaaPEqJ
import Derived.Test.YtdggcklddjndmaaLawJ
namespace Go.Proofs.Ytdggcklddjndmaa
set_option linter.unusedVariables false
set_option linter.unusedSimpArgs false
variable {F : Nat} [Big F]
theorem seq_self (x : ByteArray) : seq x x = true := (seq_iff x x).2 rfl
theorem eqElem_self (p : List DElem) (hp : p.length ≤ 9223372036854775807) : slices_Equal_Elem F p p = some true := by rw [eqElem p p hp, decide_eq_true rfl]
end Go.Proofs.Ytdggcklddjndmaa
