/- Equality of structs, as Go compares them: written by walkgen.py. Its conditions: none. -/
import Derived.Test.YtaoocidchclpnaaGreatMapY
import Derived.Test.YtaoocidchclpnaaGreatRows
import Derived.Test.YtaoocidchclpnaaGreatOpsY
import Derived.Test.YtaoocidchclpnaaGreatArrY
import Derived.WalkKit
open ByteArray renaming mk→a_
namespace Go.Proofs.YtaoocidchclpnaaGreat
set_option linter.unusedVariables false
def lQ (p0:Int) (p1:Int) : Option (Int) :=
 bif decide (p0 < p1) then
  some (-1)
 else
  bif decide (p1 < p0) then
   some 1
  else
   some 0
def nF (p0:DKey) : Option (Int) :=
 bif ((decide (p0.pfs < 0)) || ((decide ((15:Int) < p0.pfs)) || ((decide (p0.obj < 0)) || ((decide ((1048576:Int) < p0.obj)) || ((decide (p0.off < 0)) || (decide ((1073741824:Int) < p0.off))))))) then
  some 1
 else
  some 0
def qy (p0:DKey) (p1:DKey) : Option (Int) :=
 (lQ p0.pfs p1.pfs).bind fun r1 =>
 bif (r1 != 0) then
  some r1
 else
  (lQ p0.obj p1.obj).bind fun r2 =>
  bif (r2 != 0) then
   some r2
  else
   (lQ p0.off p1.off).bind fun r3 =>
   bif (r3 != 0) then
    some r3
   else
    some 0
def jp (p0:DSpot) (p1:DSpot) : Option (Int) :=
 (qy p0.key p1.key).bind fun r1 =>
 bif (r1 != 0) then
  some r1
 else
  (lQ p0.made p1.made).bind fun r2 =>
  some r2
def j7 (p0:DElem) : Option (Int) :=
 (nF p0.key).bind fun r1 =>
 bif (r1 != 0) then
  some r1
 else
  bif ((decide (p0.made < 1)) || ((decide ((2147483647:Int) < p0.made)) || ((p0.gone != 0) && ((decide (p0.gone≤p0.made)) || (decide ((2147483647:Int) < p0.gone)))))) then
   some 9
  else
   bif decide ((40:Int) < (p0.val.size:Int)) then
    some 2
   else
    some 0
def jf (p0:DElem) : Option (DSpot) :=
 some (DSpot.mk p0.key p0.made)
def nC (p0:DElem) : Option (Int) :=
 some (if p0.made < p0.gone then p0.gone else p0.made)
def ke (p0:Int) (p1:Int) : Option (Int) :=
 (qf (IntKind.u64.wrap p1)).bind fun d1 =>
 some (IntKind.i64.wrap ((IntKind.u64.wrap p0).tmod d1))
end Go.Proofs.YtaoocidchclpnaaGreat
namespace Go.Proofs.YtaoocidchclpnaaGreat
open Go.RowKit
set_option maxHeartbeats 1000000 in
theorem qk {M:List (Nat × Value)} {o:Oper} {a b:Operand} {t:TypeId} (x y:DKey) (w:World) (ho:o.op = .binOp .eql 31 a b t) (ha:evM M a = .agg x.cells.toArray) (hb:evM M b = .agg y.cells.toArray) :
 (execOp (evM M) o).run Tryz.prog w = .ok (.value (.bool (x == y))) w:=by
 rw [om];simp only [execOp,ho,ha,hb,DKey.cells];cases c:x.pfs == y.pfs;simp [go_sem,c];cases d:x.obj == y.obj;simp [go_sem,c,d];cases e:x.off == y.off;simp [go_sem,c,d,e];simp [go_sem,c,d,e]
set_option maxHeartbeats 1000000 in
theorem lY {M:List (Nat × Value)} {o:Oper} {a b:Operand} {t:TypeId} (x y:DSpot) (w:World) (ho:o.op = .binOp .eql 96 a b t) (ha:evM M a = .agg x.cells.toArray) (hb:evM M b = .agg y.cells.toArray) :
 (execOp (evM M) o).run Tryz.prog w = .ok (.value (.bool (x == y))) w:=by
 rw [sk,om];simp only [execOp,ho,ha,hb,DSpot.cells];cases c:x.key.pfs == y.key.pfs;simp [go_sem,c];cases d:x.key.obj == y.key.obj;simp [go_sem,c,d];cases e:x.key.off == y.key.off;simp [go_sem,c,d,e];cases f:x.made == y.made;simp [go_sem,c,d,e,f];simp [go_sem,c,d,e,f]
set_option maxHeartbeats 1000000 in
theorem nP {M:List (Nat × Value)} {o:Oper} {a b:Operand} {t:TypeId} (x y:DKey) (w:World) (ho:o.op = .binOp .neq 31 a b t) (ha:evM M a = .agg x.cells.toArray) (hb:evM M b = .agg y.cells.toArray) :
 (execOp (evM M) o).run Tryz.prog w = .ok (.value (.bool (!(x == y)))) w:=by
 rw [om];simp only [execOp,ho,ha,hb,DKey.cells];cases c:x.pfs == y.pfs;simp [go_sem,c];cases d:x.obj == y.obj;simp [go_sem,c,d];cases e:x.off == y.off;simp [go_sem,c,d,e];simp [go_sem,c,d,e]
set_option maxHeartbeats 1000000 in
theorem pU {M:List (Nat × Value)} {o:Oper} {a b:Operand} {t:TypeId} (x y:DElem) (w:World) (ho:o.op = .binOp .neq 52 a b t) (ha:evM M a = .agg x.cells.toArray) (hb:evM M b = .agg y.cells.toArray) :
 (execOp (evM M) o).run Tryz.prog w = .ok (.value (.bool (!(x == y)))) w:=by
 rw [sj,om];simp only [execOp,ho,ha,hb,DElem.cells,seq];cases c:x.key.pfs == y.key.pfs;simp [go_sem,c];cases d:x.key.obj == y.key.obj;simp [go_sem,c,d];cases e:x.key.off == y.key.off;simp [go_sem,c,d,e];cases f:x.made == y.made;simp [go_sem,c,d,e,f];cases g:x.gone == y.gone;simp [go_sem,c,d,e,f,g];cases h:x.val.toList == y.val.toList;simp [go_sem,c,d,e,f,g,h];simp [go_sem,c,d,e,f,g,h]
theorem i4_:∃ ti,Tryz.prog.info? 4 = some ti∧ti.zero = some (.bool false)∧ti.size = 1∧ti.bytes = 1:=info_parts (by kernel_rfl)
theorem qS:∃ ti,Tryz.prog.info? 52 = some ti∧ti.zero = some (.agg #[.int .i64 0,.int .i64 0,.int .i64 0,.int .i64 0,.int .i64 0,.string (a_ #[])])∧ti.size = 6∧ti.bytes = 56:=info_parts (by kernel_rfl)
theorem i3_:∃ ti,Tryz.prog.info? 3 = some ti∧ti.zero = some (.int .i64 0)∧ti.size = 1∧ti.bytes = 8:=info_parts (by kernel_rfl)
theorem oM:∃ ti,Tryz.prog.info? 96 = some ti∧ti.zero = some (.agg #[.int .i64 0,.int .i64 0,.int .i64 0,.int .i64 0])∧ti.size = 4∧ti.bytes = 32:=info_parts (by kernel_rfl)
theorem qT:∃ ti,Tryz.prog.info? 64 = some ti∧ti.zero = some (.agg #[.int .i64 0,.slice none 0 0,.slice none 0 0,.slice none 0 0,.slice none 0 0])∧ti.size = 5∧ti.bytes = 104:=info_parts (by kernel_rfl)
theorem tW:∃ ti,Tryz.prog.info? 167 = some ti∧ti.zero = some (.agg #[.int .i64 0,.int .i64 0,.int .i64 0,.int .i64 0,.int .i64 0])∧ti.size = 5∧ti.bytes = 40:=info_parts (by kernel_rfl)
theorem i5_:∃ ti,Tryz.prog.info? 5 = some ti∧ti.zero = some (.int .u8 0)∧ti.size = 1∧ti.bytes = 1:=info_parts (by kernel_rfl)
theorem i9_:∃ ti,Tryz.prog.info? 9 = some ti∧ti.zero = some (.string (a_ #[]))∧ti.size = 1∧ti.bytes = 16:=info_parts (by kernel_rfl)
theorem pb:∃ ti,Tryz.prog.info? 127 = some ti∧ti.zero = some (.agg #[.int .i64 0,.string (a_ #[])])∧ti.size = 2∧ti.bytes = 24:=info_parts (by kernel_rfl)
theorem mu:∃ ti,Tryz.prog.info? 41 = some ti∧ti.zero = some (.agg #[.slice none 0 0,.slice none 0 0])∧ti.size = 2∧ti.bytes = 48:=info_parts (by kernel_rfl)
end Go.Proofs.YtaoocidchclpnaaGreat
