/- Pure functions, written by walkgen.py out of the Go functions of group Recd. Their conditions: none. -/
import Derived.Test.YtaccejbajgmdnaaDoorLineF
import Derived.Test.YtaccejbajgmdnaaDoorMap
namespace Go.Proofs.YtaccejbajgmdnaaDoor
set_option linter.unusedVariables false

def dump_record (F : Nat) (p0 : ByteArray) : Option (DElem × Bool) :=
  (strings_Split p0 (ByteArray.mk #[32])).bind fun r1 =>
  bif ((r1.length : Int) != 6) then
    some ((DElem.mk (DKey.mk 0 0 0) 0 0 (ByteArray.mk #[])), false)
  else
    (idx r1 0).bind fun e1 =>
    (strconv_Atoi e1).bind fun r2 =>
    bif r2.2 then
      some ((DElem.mk (DKey.mk 0 0 0) 0 0 (ByteArray.mk #[])), false)
    else
      (idx r1 1).bind fun e2 =>
      (strconv_Atoi e2).bind fun r3 =>
      bif r3.2 then
        some ((DElem.mk (DKey.mk 0 0 0) 0 0 (ByteArray.mk #[])), false)
      else
        (idx r1 2).bind fun e3 =>
        (strconv_Atoi e3).bind fun r4 =>
        bif r4.2 then
          some ((DElem.mk (DKey.mk 0 0 0) 0 0 (ByteArray.mk #[])), false)
        else
          (idx r1 3).bind fun e4 =>
          (strconv_Atoi e4).bind fun r5 =>
          bif r5.2 then
            some ((DElem.mk (DKey.mk 0 0 0) 0 0 (ByteArray.mk #[])), false)
          else
            (idx r1 4).bind fun e5 =>
            (strconv_Atoi e5).bind fun r6 =>
            bif r6.2 then
              some ((DElem.mk (DKey.mk 0 0 0) 0 0 (ByteArray.mk #[])), false)
            else
              (idx r1 5).bind fun e6 =>
              (dump_value F e6).bind fun r7 =>
              (
                bif r7.2 then
                    (scat p0 (ByteArray.mk #[10])).bind fun s1 =>
                    (dump_line F (DElem.mk (DKey.mk r2.1 r3.1 r4.1) r5.1 r6.1 r7.1)).bind fun r8 =>
                    some (seq r8 s1)
                  else
                    some false : Option (Bool)).bind fun z1 =>
              some ((DElem.mk (DKey.mk r2.1 r3.1 r4.1) r5.1 r6.1 r7.1), z1)

def dump_Read (F : Nat) (p0 : ByteArray) : Option (((List DElem)) × Int) :=
  (iter (σ := (List DElem) × ByteArray) (ρ := ((List DElem)) ⊕ (((List DElem)) × Int)) (fun x => match x with
    | (x1, x2) =>
      bif (!(seq x2 (ByteArray.mk #[]))) then
          (strings_Cut x2 (ByteArray.mk #[10])).bind fun r2 =>
          (dump_record F r2.1).bind fun r3 =>
          bif ((!r2.2.2) || (!r3.2)) then
            some (.inr (.inr ([], 3)))
          else
            (grow 56 x1 [r3.1]).bind fun _ =>
            some (.inl ((x1 ++ [r3.1]), r2.2.1))
        else
          some (.inr (.inl x1))) F ([], p0)).bind fun z => match z with
    | .inl z1 =>
      (run_Check F z1).bind fun r4 =>
      bif (r4 != 0) then
        some ([], 3)
      else
        some (z1, 0)
    | .inr q => some q

end Go.Proofs.YtaccejbajgmdnaaDoor
