/- Pure functions of group Key. Conditions: none. -/
import Derived.Test.YtfbpiogbhkgieaaGreatRecL
namespace Go.Proofs.YtfbpiogbhkgieaaGreat
set_option linter.unusedVariables false
def lz (p0:Int) (p1:Int) : Option (Int) :=
 bif decide (p0 < p1) then
  some (-1)
 else
  bif decide (p1 < p0) then
   some 1
  else
   some 0
def mS (p0:DKey) : Option (Int) :=
 bif ((decide (p0.pfs < 0)) || ((decide ((15:Int) < p0.pfs)) || ((decide (p0.obj < 0)) || ((decide ((1048576:Int) < p0.obj)) || ((decide (p0.off < 0)) || (decide ((1073741824:Int) < p0.off))))))) then
  some 1
 else
  some 0
def pM (p0:DKey) (p1:DKey) : Option (Int) :=
 (lz p0.pfs p1.pfs).bind fun r1 =>
 bif (r1 != 0) then
  some r1
 else
  (lz p0.obj p1.obj).bind fun r2 =>
  bif (r2 != 0) then
   some r2
  else
   (lz p0.off p1.off).bind fun r3 =>
   bif (r3 != 0) then
    some r3
   else
    some 0
def jt (p0:DSpot) (p1:DSpot) : Option (Int) :=
 (pM p0.key p1.key).bind fun r1 =>
 bif (r1 != 0) then
  some r1
 else
  (lz p0.made p1.made).bind fun r2 =>
  some r2
def kz (p0:DElem) : Option (Int) :=
 (mS p0.key).bind fun r1 =>
 bif (r1 != 0) then
  some r1
 else
  bif ((decide (p0.made < 1)) || ((decide ((2147483647:Int) < p0.made)) || ((p0.gone != 0) && ((decide (p0.gone≤p0.made)) || (decide ((2147483647:Int) < p0.gone)))))) then
   some 9
  else
   bif decide ((40:Int) < (p0.val.size:Int)) then
    some 2
   else
    some 0
def jb (p0:DElem) : Option (DSpot) :=
 some (DSpot.mk p0.key p0.made)
def nQ (p0:DElem) (p1:Int) : Option (Bool) :=
 some ((decide (p0.made≤p1)) && ((p0.gone == 0) || (decide (p1 < p0.gone))))
def nP (p0:DElem) : Option (Int) :=
 some (if p0.made < p0.gone then p0.gone else p0.made)
def mz:Option (DElem) :=
 some (DElem.mk (DKey.mk 0 0 0) 77 0 (ByteArray.mk #[109,97,114,107]))
def m5 (p0:Int) (p1:ByteArray) : Option (DElem) :=
 some (DElem.mk (DKey.mk 0 0 p0) 1 0 p1)
end Go.Proofs.YtfbpiogbhkgieaaGreat
