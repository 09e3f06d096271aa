/- Equality of structs, as Go compares them: written by walkgen.py. Its conditions: none. -/
import Derived.Test.YtjhkfonoobmecaaRows
import Derived.Test.YtjhkfonoobmecaaOps
import Derived.Test.YtjhkfonoobmecaaMap
import Derived.Test.YtjhkfonoobmecaaArr
import Derived.WalkKit
namespace Go.Proofs.Ytjhkfonoobmecaa
open Go.RowKit

set_option maxHeartbeats 1000000 in
theorem exec_neq_DWrite {M : List (Nat × Value)} {o : Oper} {a b : Operand} {t : TypeId} (x y : DWrite) (w : World) (ho : o.op = .binOp .neq 29 a b t) (ha : evM M a = .agg x.cells.toArray) (hb : evM M b = .agg y.cells.toArray) :
    (execOp (evM M) o).run Try.prog w = .ok (.value (.bool (!(x == y)))) w := by
  rw [beq_DWrite]
  simp only [execOp, ho, ha, hb, DWrite.cells, seq]
  cases h0 : x.page == y.page
  · simp [go_sem, h0]
  cases h1 : x.text.toList == y.text.toList
  · simp [go_sem, h0, h1]
  simp [go_sem, h0, h1]

end Go.Proofs.Ytjhkfonoobmecaa
