/- Equality of arrays, as Go compares them: written by walkgen.py. Its conditions: none. -/
import Derived.Test.YtfbjmeehmanjnaaRows
import Derived.Test.YtfbjmeehmanjnaaEqBJ
namespace Go.Proofs.Ytfbjmeehmanjnaa
open Go.RowKit
set_option maxHeartbeats 1000000 in
theorem exec_eql_DA16 {M : List (Nat × Value)} {o : Oper} {a b : Operand} {t : TypeId} (x y : DA16) (w : World) (ho : o.op = .binOp .eql 23 a b t) (ha : evM M a = .agg x.cells.toArray) (hb : evM M b = .agg y.cells.toArray) :
 (execOp (evM M) o).run Try.prog w = .ok (.value (.bool (x == y))) w := by
 have he : (Op.equalIn 10000 23 (.agg x.cells.toArray) (.agg y.cells.toArray)).run Try.prog w = .ok (x == y) w := run_equalIn_arr (P := Try.prog) (t := 23) (e := 3) 9998 (by kernel_rfl) (by kernel_rfl) (fun w => by kernel_rfl) (fun w => by kernel_rfl) x y w
 simp only [execOp, ho, ha, hb]
 generalize x.cells.toArray = xs at he ⊢
 generalize y.cells.toArray = ys at he ⊢
 simp [go_sem, he]
end Go.Proofs.Ytfbjmeehmanjnaa
