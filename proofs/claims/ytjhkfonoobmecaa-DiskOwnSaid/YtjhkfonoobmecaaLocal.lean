/- Data of the program's inner packages. Its conditions: none. -/
import Derived.Test.YtjhkfonoobmecaaArr
namespace Go.Proofs.Ytjhkfonoobmecaa

structure Dbuild_low where
  i : Int
  s : DSpot
  deriving DecidableEq
def Dbuild_low.cells (x : Dbuild_low) : List Value := [.int .i64 x.i, .int .i64 x.s.key.pfs, .int .i64 x.s.key.obj, .int .i64 x.s.key.off, .int .i64 x.s.made]
def ebuild_low : Enc Dbuild_low := eFlat 5 Dbuild_low.cells (fun _ => rfl) (fun _ => one_of rfl)
theorem surebuild_low : Sure (vAg ebuild_low) (fun x => .agg (Dbuild_low.cells x).toArray) := Sure.flatN
end Go.Proofs.Ytjhkfonoobmecaa
