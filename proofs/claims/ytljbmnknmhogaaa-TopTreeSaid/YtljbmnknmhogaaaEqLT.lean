/- Equality of structs, as Go compares them: written by walkgen.py. Its conditions: none. -/
import Derived.Test.YtljbmnknmhogaaaRows
import Derived.Test.YtljbmnknmhogaaaOpsT
import Derived.Test.YtljbmnknmhogaaaMapT
import Derived.Test.YtljbmnknmhogaaaArrT
import Derived.WalkKit
namespace Go.Proofs.Ytljbmnknmhogaaa
open Go.RowKit
set_option maxHeartbeats 1000000 in
theorem mP {M:List (Nat × Value)} {o:Oper} {a b:Operand} {t:TypeId} (x y:DKey) (w:World) (ho:o.op = .binOp .eql 33 a b t) (ha:evM M a = .agg x.cells.toArray) (hb:evM M b = .agg y.cells.toArray) :
 (execOp (evM M) o).run Try.prog w = .ok (.value (.bool (x == y))) w:=by
 rw [m8];simp only [execOp,ho,ha,hb,DKey.cells];cases c:x.pfs == y.pfs;simp [go_sem,c];cases d:x.obj == y.obj;simp [go_sem,c,d];cases e:x.off == y.off;simp [go_sem,c,d,e];simp [go_sem,c,d,e]
set_option maxHeartbeats 1000000 in
theorem lJ {M:List (Nat × Value)} {o:Oper} {a b:Operand} {t:TypeId} (x y:DSpot) (w:World) (ho:o.op = .binOp .eql 76 a b t) (ha:evM M a = .agg x.cells.toArray) (hb:evM M b = .agg y.cells.toArray) :
 (execOp (evM M) o).run Try.prog w = .ok (.value (.bool (x == y))) w:=by
 rw [qf,m8];simp only [execOp,ho,ha,hb,DSpot.cells];cases c:x.key.pfs == y.key.pfs;simp [go_sem,c];cases d:x.key.obj == y.key.obj;simp [go_sem,c,d];cases e:x.key.off == y.key.off;simp [go_sem,c,d,e];cases f:x.made == y.made;simp [go_sem,c,d,e,f];simp [go_sem,c,d,e,f]
set_option maxHeartbeats 1000000 in
theorem jt {M:List (Nat × Value)} {o:Oper} {a b:Operand} {t:TypeId} (x y:DKey) (w:World) (ho:o.op = .binOp .neq 33 a b t) (ha:evM M a = .agg x.cells.toArray) (hb:evM M b = .agg y.cells.toArray) :
 (execOp (evM M) o).run Try.prog w = .ok (.value (.bool (!(x == y)))) w:=by
 rw [m8];simp only [execOp,ho,ha,hb,DKey.cells];cases c:x.pfs == y.pfs;simp [go_sem,c];cases d:x.obj == y.obj;simp [go_sem,c,d];cases e:x.off == y.off;simp [go_sem,c,d,e];simp [go_sem,c,d,e]
set_option maxHeartbeats 1000000 in
theorem mA {M:List (Nat × Value)} {o:Oper} {a b:Operand} {t:TypeId} (x y:DElem) (w:World) (ho:o.op = .binOp .neq 47 a b t) (ha:evM M a = .agg x.cells.toArray) (hb:evM M b = .agg y.cells.toArray) :
 (execOp (evM M) o).run Try.prog w = .ok (.value (.bool (!(x == y)))) w:=by
 rw [qe,m8];simp only [execOp,ho,ha,hb,DElem.cells,seq];cases c:x.key.pfs == y.key.pfs;simp [go_sem,c];cases d:x.key.obj == y.key.obj;simp [go_sem,c,d];cases e:x.key.off == y.key.off;simp [go_sem,c,d,e];cases f:x.made == y.made;simp [go_sem,c,d,e,f];cases g:x.gone == y.gone;simp [go_sem,c,d,e,f,g];cases h:x.val.toList == y.val.toList;simp [go_sem,c,d,e,f,g,h];simp [go_sem,c,d,e,f,g,h]
end Go.Proofs.Ytljbmnknmhogaaa
