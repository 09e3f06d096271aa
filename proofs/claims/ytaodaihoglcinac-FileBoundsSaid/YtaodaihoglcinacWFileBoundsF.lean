/- Pure functions, written by walkgen.py out of the Go functions of group WFileBounds. Their conditions: none. -/
import Derived.Test.YtaodaihoglcinacFileF
import Derived.Test.YtaodaihoglcinacRepF
import Derived.Test.YtaodaihoglcinacMap
namespace Go.Proofs.Ytaodaihoglcinac
set_option linter.unusedVariables false

def annalkeep_FileBounds (F : Nat) (p0 : ByteArray) (p1 : Int) (p2 : Int) : Option (Bool) :=
  (strings_Repeat (ByteArray.mk #[120]) 321).bind fun r1 =>
  (file_Set F ([] : List DElem) 0 1 r1 1).bind fun r2 =>
  bif (r2.2 != 2) then
    some false
  else
    (strings_Repeat (ByteArray.mk #[120]) 320).bind fun r3 =>
    (file_Set F ([] : List DElem) 0 1 r3 1).bind fun r4 =>
    bif ((r4.2 != 0) || ((r4.1.length : Int) != 20)) then
      some false
    else
      (annalkeep_Within p1 1048577).bind fun r5 =>
      (annalkeep_Within p2 1000).bind fun r6 =>
      (file_Set F ([] : List DElem) 3 r5 p0 (IntKind.i64.wrap (1 + r6))).bind fun r7 =>
      bif decide ((320 : Int) < (p0.size : Int)) then
        some ((r7.2 == 2) && ((r7.1.length : Int) == 0))
      else
        bif ((r7.2 != 0) || ((r7.1.length : Int) != (IntKind.i64.wrap ((IntKind.i64.wrap ((p0.size : Int) + 15) : Int).tdiv 16)))) then
          some false
        else
          (iter (σ := Int) (ρ := (Unit) ⊕ Bool) (fun x1 =>
              bif decide (x1 < (r7.1.length : Int)) then
                  (idx r7.1 x1).bind fun e1 =>
                  (
                    bif (!(e1.key == (DKey.mk 3 r5 (IntKind.i64.wrap (1 + x1))))) then
                        some true
                      else
                        bif (e1.made != (IntKind.i64.wrap (1 + r6))) then
                          some true
                        else
                          bif (e1.gone != 0) then
                            some true
                          else
                            (key_Check e1.key).bind fun r8 =>
                            some (r8 != 0) : Option (Bool)).bind fun z1 =>
                  bif z1 then
                    some (.inr (.inr false))
                  else
                    some (.inl (IntKind.i64.wrap (x1 + 1)))
                else
                  some (.inr (.inl ()))) F 0).bind fun z => match z with
            | .inl _ =>
              some true
            | .inr q => some q

end Go.Proofs.Ytaodaihoglcinac
