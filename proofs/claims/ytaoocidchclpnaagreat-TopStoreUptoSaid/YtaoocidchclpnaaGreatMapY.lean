/- The program logic's rules for maps from whole numbers to strings that the call has made. Its conditions: none. -/
import Derived.Test.YtaoocidchclpnaaGreatOpsY
import Derived.MapKept
namespace Go.Proofs.YtaoocidchclpnaaGreat
open Go.RowKit
section
variable {P:Program} {N:Sz} {w0:World} {V:View} {H:List HObj} {M:List (Nat × Value)} {ops:Array Oper} {Q:Exit→Act→World→Prop} {o:Oper} {K:Act→World→Prop} {t kt et:TypeId} {b:Nat} {l:List (Int × ByteArray)}
end
end Go.Proofs.YtaoocidchclpnaaGreat
