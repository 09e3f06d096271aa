/- Pure functions, written by walkgen.py out of the Go functions of group WBookOwn. Their conditions: none. -/
import Derived.Test.YtfbjmeehmanjnaaFeedFJ
import Derived.Test.YtfbjmeehmanjnaaTurnFJ
import Derived.Test.YtfbjmeehmanjnaaSameFJ
import Derived.Test.YtfbjmeehmanjnaaEqsFJ
import Derived.Test.YtfbjmeehmanjnaaMapJ
namespace Go.Proofs.Ytfbjmeehmanjnaa
set_option linter.unusedVariables false
def annalkeep_BookOwn (F : Nat) (p0 : DBook) (p1 : DKey) (p2 : ByteArray) (p3 : Int) (p4 : ByteArray) : Option (Bool) :=
 (annalkeep_mark).bind fun r1 =>
 (makes 56 ((p0.run.length : Int) + 3)).bind fun u1 =>
 (realm_Make F p0 p1.pfs 1).bind fun r3 =>
 (realm_Put F p0 p1 p2 p3).bind fun r5 =>
 (realm_Cut F p0 p1 p3).bind fun r7 =>
 (realm_Feed F p0 p4).bind fun r9 =>
 (realm_Up F p0 p1.pfs).bind fun r11 =>
 (realm_Down F p0 p1.pfs).bind fun r13 =>
 (
  (annalref_SameBook F p0 p0).bind fun r15 =>
   bif (!r15) then
    some true
   else
    some false : Option (Bool)).bind fun z1 =>
 bif z1 then
  some false
 else
  (grow 56 ([] : List DElem) r13.1.run).bind fun _ =>
  (grow 56 ([] : List DElem) r3.1.run).bind fun _ =>
  (grow 56 ([] : List DElem) r5.1.run).bind fun _ =>
  (grow 56 ([] : List DElem) r7.1.run).bind fun _ =>
  (grow 56 ([] : List DElem) r9.1.run).bind fun _ =>
  (grow 56 ([] : List DElem) r11.1.run).bind fun _ =>
  (slices_Equal_Elem F r13.1.run r13.1.run).bind fun r23 =>
  bif (!r23) then
   some false
  else
   (slices_Equal_Elem F r3.1.run r3.1.run).bind fun r24 =>
   bif (!r24) then
    some false
   else
    (slices_Equal_Elem F r5.1.run r5.1.run).bind fun r25 =>
    bif (!r25) then
     some false
    else
     (slices_Equal_Elem F r7.1.run r7.1.run).bind fun r26 =>
     bif (!r26) then
      some false
     else
      (slices_Equal_Elem F r9.1.run r9.1.run).bind fun r27 =>
      bif (!r27) then
       some false
      else
       (slices_Equal_Elem F r11.1.run r11.1.run).bind fun r28 =>
       bif (!r28) then
        some false
       else
        (annalkeep_book).bind fun r29 =>
        (realm_Put F r29 (DKey.mk 0 0 0) (ByteArray.mk #[97]) 1).bind fun r30 =>
        some ((r30.2 == 0) && ((r30.1.run.length : Int) == 1))
end Go.Proofs.Ytfbjmeehmanjnaa
