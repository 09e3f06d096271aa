/- Plain Lean: what the functions on streams compute. Its conditions: none. -/
import Derived.Test.YtdggcklddjndmaaStreamFJ
import Derived.Test.YtdggcklddjndmaaMStreamJ
import Derived.Test.YtdggcklddjndmaaPRunJ
import Derived.Test.YtdggcklddjndmaaFCodeJ
namespace Go.Proofs.Ytdggcklddjndmaa
set_option linter.unusedVariables false
set_option linter.unusedSimpArgs false
variable {F : Nat} [Big F]
def lookE (p a b : Int) : Int := if p < 0 ∨ 15 < p then 1 else if a < 0 ∨ b < a ∨ 2147483647 < b then 9 else 0
theorem stream_look_eq (p a b : Int) : stream_look p a b = some (lookE p a b) := by
 unfold stream_look lookE
 simp only [Bool.cond_eq_ite, Bool.or_eq_true, decide_eq_true_eq]
 split
 · rfl
 · split <;> rfl
theorem lookE_zero {p a b : Int} : lookE p a b = 0 ↔ 0 ≤ p ∧ p ≤ 15 ∧ 0 ≤ a ∧ a ≤ b ∧ b ≤ 2147483647 := by
 unfold lookE
 split
 · constructor
   · intro h; cases h
   · omega
 · split
   · constructor
     · intro h; cases h
     · omega
   · constructor
     · omega
     · intro _; rfl
end Go.Proofs.Ytdggcklddjndmaa
