/- Equality of structs, as Go compares them: written by walkgen.py. Its conditions: none. -/
import Derived.Test.YtacjdfhllomccaaGreatDoorRows
import Derived.Test.YtacjdfhllomccaaGreatDoorOpsJ
import Derived.Test.YtacjdfhllomccaaGreatDoorMapJ
import Derived.Test.YtacjdfhllomccaaGreatDoorArrJ
import Derived.WalkKit
namespace Go.Proofs.YtacjdfhllomccaaGreatDoor
open Go.RowKit
set_option maxHeartbeats 1000000 in
theorem exec_eql_DKey {M : List (Nat × Value)} {o : Oper} {a b : Operand} {t : TypeId} (x y : DKey) (w : World) (ho : o.op = .binOp .eql 42 a b t) (ha : evM M a = .agg x.cells.toArray) (hb : evM M b = .agg y.cells.toArray) :
 (execOp (evM M) o).run Tryz.prog w = .ok (.value (.bool (x == y))) w := by
 rw [beq_DKey]
 simp only [execOp, ho, ha, hb, DKey.cells]
 cases h0 : x.pfs == y.pfs
 · simp [go_sem, h0]
 cases h1 : x.obj == y.obj
 · simp [go_sem, h0, h1]
 cases h2 : x.off == y.off
 · simp [go_sem, h0, h1, h2]
 simp [go_sem, h0, h1, h2]
set_option maxHeartbeats 1000000 in
theorem exec_neq_DKey {M : List (Nat × Value)} {o : Oper} {a b : Operand} {t : TypeId} (x y : DKey) (w : World) (ho : o.op = .binOp .neq 42 a b t) (ha : evM M a = .agg x.cells.toArray) (hb : evM M b = .agg y.cells.toArray) :
 (execOp (evM M) o).run Tryz.prog w = .ok (.value (.bool (!(x == y)))) w := by
 rw [beq_DKey]
 simp only [execOp, ho, ha, hb, DKey.cells]
 cases h0 : x.pfs == y.pfs
 · simp [go_sem, h0]
 cases h1 : x.obj == y.obj
 · simp [go_sem, h0, h1]
 cases h2 : x.off == y.off
 · simp [go_sem, h0, h1, h2]
 simp [go_sem, h0, h1, h2]
set_option maxHeartbeats 1000000 in
theorem exec_neq_DElem {M : List (Nat × Value)} {o : Oper} {a b : Operand} {t : TypeId} (x y : DElem) (w : World) (ho : o.op = .binOp .neq 44 a b t) (ha : evM M a = .agg x.cells.toArray) (hb : evM M b = .agg y.cells.toArray) :
 (execOp (evM M) o).run Tryz.prog w = .ok (.value (.bool (!(x == y)))) w := by
 rw [beq_DElem, beq_DKey]
 simp only [execOp, ho, ha, hb, DElem.cells, seq]
 cases h0 : x.key.pfs == y.key.pfs
 · simp [go_sem, h0]
 cases h1 : x.key.obj == y.key.obj
 · simp [go_sem, h0, h1]
 cases h2 : x.key.off == y.key.off
 · simp [go_sem, h0, h1, h2]
 cases h3 : x.made == y.made
 · simp [go_sem, h0, h1, h2, h3]
 cases h4 : x.gone == y.gone
 · simp [go_sem, h0, h1, h2, h3, h4]
 cases h5 : x.val.toList == y.val.toList
 · simp [go_sem, h0, h1, h2, h3, h4, h5]
 simp [go_sem, h0, h1, h2, h3, h4, h5]
end Go.Proofs.YtacjdfhllomccaaGreatDoor
