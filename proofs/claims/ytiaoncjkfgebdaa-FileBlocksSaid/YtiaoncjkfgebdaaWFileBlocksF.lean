/- Pure functions, written by walkgen.py out of the Go functions of group WFileBlocks. Their conditions: none. -/
import Derived.Test.YtiaoncjkfgebdaaFileF
import Derived.Test.YtiaoncjkfgebdaaEqsF
import Derived.Test.YtiaoncjkfgebdaaMap
namespace Go.Proofs.Ytiaoncjkfgebdaa
set_option linter.unusedVariables false

def annalkeep_FileBlocks (F : Nat) (p0 : (List DElem)) (p1 : Int) (p2 : Int) (p3 : ByteArray) (p4 : Int) (p5 : Int) : Option (Bool) :=
  (file_Set F ([] : List DElem) 0 5 (ByteArray.mk #[48, 49, 50, 51, 52, 53, 54, 55, 56, 57, 97, 98, 99, 100, 101, 102, 88]) 1).bind fun r1 =>
  (file_Set F r1.1 0 5 (ByteArray.mk #[48, 49, 50, 51, 52, 53, 54, 55, 56, 57, 97, 98, 99, 100, 101, 102, 89]) 2).bind fun r2 =>
  (
    bif (r1.2 != 0) then
        some true
      else
        bif (r2.2 != 0) then
          some true
        else
          bif ((r2.1.length : Int) != 3) then
            some true
          else
            (idx r2.1 0).bind fun e1 =>
            (idx r1.1 0).bind fun e2 =>
            some (!(e1 == e2)) : Option (Bool)).bind fun z1 =>
  bif z1 then
    some false
  else
    (file_Set F p0 p1 p2 p3 p5).bind fun r3 =>
    bif ((r3.2 != 0) || (seq p3 (ByteArray.mk #[]))) then
      some ((r3.2 == 0) || ((r3.1.length : Int) == 0))
    else
      (annalkeep_Within p4 (p3.size : Int)).bind fun r4 =>
      (fits p3).bind fun u7 =>
      (idx (listOf p3) r4).bind fun e3 =>
      (idx (listOf p3) r4).bind fun e4 =>
      (file_Set F r3.1 p1 p2 (bytesOf ((listOf p3).set r4.toNat (IntKind.u8.wrap (e3 + 1)))) (if (2147483647 : Int) < (IntKind.i64.wrap (p5 + 1)) then 2147483647 else IntKind.i64.wrap (p5 + 1))).bind fun r6 =>
      bif (r6.2 != 0) then
        some (r6.2 == 8)
      else
        (iter (σ := Int) (ρ := (Unit) ⊕ Bool) (fun x1 =>
            bif decide (x1 ≤ 20) then
                (run_At F r3.1 (DKey.mk p1 p2 x1) 2147483647).bind fun r7 =>
                (run_At F r6.1 (DKey.mk p1 p2 x1) 2147483647).bind fun r8 =>
                bif (bif (seq r7.1.val r8.1.val) then (bif (r7.1.made == r8.1.made) then (((IntKind.i64.wrap ((r4 : Int).tdiv 16)) == (IntKind.i64.wrap (x1 - 1))) == (r7.2 == r8.2)) else (((IntKind.i64.wrap ((r4 : Int).tdiv 16)) == (IntKind.i64.wrap (x1 - 1))) == false)) else (((IntKind.i64.wrap ((r4 : Int).tdiv 16)) == (IntKind.i64.wrap (x1 - 1))) == false)) then
                  some (.inr (.inr false))
                else
                  some (.inl (IntKind.i64.wrap (x1 + 1)))
              else
                some (.inr (.inl ()))) F 1).bind fun z => match z with
          | .inl _ =>
            some true
          | .inr q => some q

end Go.Proofs.Ytiaoncjkfgebdaa
