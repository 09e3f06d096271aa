/- Pure functions, written by walkgen.py out of the Go functions of group Same. Their conditions: none. -/
import Derived.Test.YtfbjmeehmanjnaaEqsFJ
import Derived.Test.YtfbjmeehmanjnaaMapJ
namespace Go.Proofs.Ytfbjmeehmanjnaa
set_option linter.unusedVariables false
def annalref_SameBook (F : Nat) (p0 : DBook) (p1 : DBook) : Option (Bool) :=
 (
  (slices_Equal_Elem F p0.run p1.run).bind fun r1 =>
   bif r1 then
    bif (p0.roles == p1.roles) then
     some (p0.fed == p1.fed)
    else
     some false
   else
    some false : Option (Bool)).bind fun z1 =>
 some z1
end Go.Proofs.Ytfbjmeehmanjnaa
