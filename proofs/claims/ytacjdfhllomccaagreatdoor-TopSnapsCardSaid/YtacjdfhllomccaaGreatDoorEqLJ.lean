/- Equality of structs, as Go compares them: written by walkgen.py. Its conditions: none. -/
import Derived.Test.YtacjdfhllomccaaGreatDoorRows
import Derived.Test.YtacjdfhllomccaaGreatDoorOpsJ
import Derived.Test.YtacjdfhllomccaaGreatDoorMapJ
import Derived.Test.YtacjdfhllomccaaGreatDoorArrJ
import Derived.WalkKit
namespace Go.Proofs.YtacjdfhllomccaaGreatDoor
open Go.RowKit
set_option maxHeartbeats 1000000 in
theorem exec_eql_DKey {M : List (Nat × Value)} {o : Oper} {a b : Operand} {t : TypeId} (x y : DKey) (w : World) (ho : o.op = .binOp .eql 42 a b t) (ha : evM M a = .agg x.cells.toArray) (hb : evM M b = .agg y.cells.toArray) :
 (execOp (evM M) o).run Tryz.prog w = .ok (.value (.bool (x == y))) w := by
 rw [beq_DKey]
 simp only [execOp, ho, ha, hb, DKey.cells]
 cases h0 : x.pfs == y.pfs
 · simp [go_sem, h0]
 cases h1 : x.obj == y.obj
 · simp [go_sem, h0, h1]
 cases h2 : x.off == y.off
 · simp [go_sem, h0, h1, h2]
 simp [go_sem, h0, h1, h2]
set_option maxHeartbeats 1000000 in
theorem exec_neq_DKey {M : List (Nat × Value)} {o : Oper} {a b : Operand} {t : TypeId} (x y : DKey) (w : World) (ho : o.op = .binOp .neq 42 a b t) (ha : evM M a = .agg x.cells.toArray) (hb : evM M b = .agg y.cells.toArray) :
 (execOp (evM M) o).run Tryz.prog w = .ok (.value (.bool (!(x == y)))) w := by
 rw [beq_DKey]
 simp only [execOp, ho, ha, hb, DKey.cells]
 cases h0 : x.pfs == y.pfs
 · simp [go_sem, h0]
 cases h1 : x.obj == y.obj
 · simp [go_sem, h0, h1]
 cases h2 : x.off == y.off
 · simp [go_sem, h0, h1, h2]
 simp [go_sem, h0, h1, h2]
end Go.Proofs.YtacjdfhllomccaaGreatDoor
