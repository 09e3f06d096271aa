/- Plain Lean: what the laws of streams share. Its conditions: none. -/
import Derived.Test.YtiomghobbcgkdaaPFeed
import Derived.Test.YtiomghobbcgkdaaPBook
namespace Go.Proofs.Ytiomghobbcgkdaa
set_option linter.unusedVariables false
set_option linter.unusedSimpArgs false
variable {F : Nat} [Big F]

/-- A run of one record. -/
def oneE : DElem := ⟨⟨0, 0, 1⟩, 1, 0, ByteArray.mk #[97]⟩
theorem read_eq {l : List DElem} (h : Run l) {p a b : Int} (hl : lookE p a b = 0) : stream_Read F l p a b = some (ofL (strR l p a b), 0) := by
  have : readE l p a b = 0 := by unfold readE; rw [if_neg (by simpa using chkR_zero.2 h)]; exact hl
  rw [stream_Read_eq, this, if_pos rfl]; rfl
end Go.Proofs.Ytiomghobbcgkdaa
