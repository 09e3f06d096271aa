/- Pure functions, written by walkgen.py out of the Go functions of group Line. Their conditions: none. -/
import Derived.Test.YtaccejbajgmdnaaDoorWordF
import Derived.Test.YtaccejbajgmdnaaDoorRunF
import Derived.Test.YtaccejbajgmdnaaDoorMap
namespace Go.Proofs.YtaccejbajgmdnaaDoor
set_option linter.unusedVariables false

def dump_line (F : Nat) (p0 : DElem) : Option (ByteArray) :=
  (strconv_Itoa p0.key.pfs).bind fun r1 =>
  (scat r1 (ByteArray.mk #[32])).bind fun s1 =>
  (bgrow (ByteArray.mk #[]) s1).bind fun _ =>
  (strconv_Itoa p0.key.obj).bind fun r2 =>
  (scat r2 (ByteArray.mk #[32])).bind fun s2 =>
  (bgrow ((ByteArray.mk #[]) ++ s1) s2).bind fun _ =>
  (strconv_Itoa p0.key.off).bind fun r3 =>
  (scat r3 (ByteArray.mk #[32])).bind fun s3 =>
  (bgrow (((ByteArray.mk #[]) ++ s1) ++ s2) s3).bind fun _ =>
  (strconv_Itoa p0.made).bind fun r4 =>
  (scat r4 (ByteArray.mk #[32])).bind fun s4 =>
  (bgrow ((((ByteArray.mk #[]) ++ s1) ++ s2) ++ s3) s4).bind fun _ =>
  (strconv_Itoa p0.gone).bind fun r5 =>
  (scat r5 (ByteArray.mk #[32])).bind fun s5 =>
  (bgrow (((((ByteArray.mk #[]) ++ s1) ++ s2) ++ s3) ++ s4) s5).bind fun _ =>
  (dump_word F p0.val).bind fun r6 =>
  (scat ((((((ByteArray.mk #[]) ++ s1) ++ s2) ++ s3) ++ s4) ++ s5) r6).bind fun s6 =>
  (scat s6 (ByteArray.mk #[10])).bind fun s7 =>
  some s7

def dump_Print (F : Nat) (p0 : (List DElem)) : Option (ByteArray × Int) :=
  (run_Check F p0).bind fun r1 =>
  bif (r1 != 0) then
    some ((ByteArray.mk #[]), r1)
  else
    (iter (σ := ByteArray × Int) (ρ := ByteArray) (fun x => match x with
      | (x1, x2) =>
        bif decide (x2 < (p0.length : Int)) then
            (idx p0 x2).bind fun e1 =>
            (dump_line F e1).bind fun r2 =>
            (bgrow x1 r2).bind fun _ =>
            some (.inl ((x1 ++ r2), IntKind.i64.wrap (x2 + 1)))
          else
            some (.inr x1)) F ((ByteArray.mk #[]), 0)).bind fun z1 =>
    some (z1, 0)

end Go.Proofs.YtaccejbajgmdnaaDoor
