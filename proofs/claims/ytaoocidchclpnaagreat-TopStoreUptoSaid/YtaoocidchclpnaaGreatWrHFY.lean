/- Pure functions of group WrH. Conditions: none. -/
import Derived.Test.YtaoocidchclpnaaGreatCpFY
import Derived.Test.YtaoocidchclpnaaGreatRangeY
import Derived.Test.YtaoocidchclpnaaGreatMapY
namespace Go.Proofs.YtaoocidchclpnaaGreat
set_option linter.unusedVariables false
def nL (F:Nat) (p0:DTree) (p1:DKey) : Option (DElem × Bool) :=
 (
  (
   (ql (σ:=Bool × Int × Int × Int × Int × Int × ByteArray × Int) (ρ:=Nat × Bool × Int × Int × Int × Int × Int × ByteArray) (fun rf1 x=>match x with
    | (x1,x2,x3,x4,x5,x6,x7,x8) =>
     (idx p0.nodes x8).bind fun e1 =>
      (iter (σ:=Bool × Int × Int × Int × Int × Int × ByteArray × Int) (ρ:=(Bool × Int × Int × Int × Int × Int × ByteArray) ⊕ (Nat × Bool × Int × Int × Int × Int × Int × ByteArray)) (fun x=>match x with
       | (x9,x10,x11,x12,x13,x14,x15,x16) =>
        bif decide (x16 < (e1.elems.length:Int)) then
         (idx e1.elems x16).bind fun e2 =>
         (
          (jf e2).bind fun r1 =>
           (jp r1 (DSpot.mk p1 0)).bind fun r2 =>
           bif decide ((0:Int)≤r2) then
            (
             bif (!(e2.key == p1)) then
              some ((0 + 1),x9,x10,x11,x12,x13,x14,x15)
              else
               bif (e2.gone == 0) then
                some ((1 + 1),true,e2.key.pfs,e2.key.obj,e2.key.off,e2.made,e2.gone,e2.val)
               else
                some (0,x9,x10,x11,x12,x13,x14,x15) : Option (Nat × Bool × Int × Int × Int × Int × Int × ByteArray)).bind fun z=>match z with
             | (k4,z36,z37,z38,z39,z40,z41,z42) =>
              lw k4 (
               some (0,z36,z37,z38,z39,z40,z41,z42))
               fun k5 =>
               some ((k5 + 1),z36,z37,z38,z39,z40,z41,z42)
           else
            some (0,x9,x10,x11,x12,x13,x14,x15) : Option (Nat × Bool × Int × Int × Int × Int × Int × ByteArray)).bind fun z=>match z with
          | (k3,z29,z30,z31,z32,z33,z34,z35) =>
           lw k3 (
            some (.inl (z29,z30,z31,z32,z33,z34,z35,IntKind.i64.wrap (x16 + 1))))
            fun k6 =>
            some (.inr (.inr ((k6 + 1),z29,z30,z31,z32,z33,z34,z35)))
         else
          some (.inr (.inl (x9,x10,x11,x12,x13,x14,x15)))) F (x1,x2,x3,x4,x5,x6,x7,0)).bind fun z=>match z with
       | .inl (z22,z23,z24,z25,z26,z27,z28) =>
        bif (e1.kind == 1) then
         some (0,z22,z23,z24,z25,z26,z27,z28)
        else
         (mE F e1 (DSpot.mk p1 0)).bind fun r3 =>
         (ja e1.kids r3 (e1.kids.length:Int)).bind fun s2 =>
         (iter (σ:=Bool × Int × Int × Int × Int × Int × ByteArray × Int) (ρ:=(Bool × Int × Int × Int × Int × Int × ByteArray) ⊕ (Nat × Bool × Int × Int × Int × Int × Int × ByteArray)) (fun x=>match x with
          | (x17,x18,x19,x20,x21,x22,x23,x24) =>
           bif decide (x24 < (s2.length:Int)) then
            (idx s2 x24).bind fun e3 =>
            (
             (rf1 (x17,x18,x19,x20,x21,x22,x23,e3)).bind fun z=>match z with
              | (z57,z58,z59,z60,z61,z62,z63,z64) =>
               lw z57 (
                some (0,z58,z59,z60,z61,z62,z63,z64))
                fun k8 =>
                some ((k8 + 1),z58,z59,z60,z61,z62,z63,z64) : Option (Nat × Bool × Int × Int × Int × Int × Int × ByteArray)).bind fun z=>match z with
             | (k7,z50,z51,z52,z53,z54,z55,z56) =>
              lw k7 (
               some (.inl (z50,z51,z52,z53,z54,z55,z56,IntKind.i64.wrap (x24 + 1))))
               fun k9 =>
               some (.inr (.inr ((k9 + 1),z50,z51,z52,z53,z54,z55,z56)))
            else
             some (.inr (.inl (x17,x18,x19,x20,x21,x22,x23)))) F (z22,z23,z24,z25,z26,z27,z28,0)).bind fun z=>match z with
          | .inl (z43,z44,z45,z46,z47,z48,z49) =>
           some (0,z43,z44,z45,z46,z47,z48,z49)
          | .inr q=>some q
       | .inr q=>some q) F (false,0,0,0,0,0,(ByteArray.mk #[]),p0.root)).bind fun z=>match z with
    | (z65,z66,z67,z68,z69,z70,z71,z72) =>
     lw z65 (
      some (0,z66,z67,z68,z69,z70,z71,z72))
      fun k10 =>
      some ((k10 + 1),z66,z67,z68,z69,z70,z71,z72) : Option (Nat × Bool × Int × Int × Int × Int × Int × ByteArray)).bind fun z=>match z with
   | (k1,z8,z9,z10,z11,z12,z13,z14) =>
    lw k1 (
     some (.inl (z8,z9,z10,z11,z12,z13,z14)))
     fun k11 =>
     lw k11 (
      some (.inl (z8,z9,z10,z11,z12,z13,z14)))
      fun k12 =>
      some (.inr ((DElem.mk (DKey.mk z9 z10 z11) z12 z13 z14),z8)) : Option ((Bool × Int × Int × Int × Int × Int × ByteArray) ⊕ (DElem × Bool))).bind fun z=>match z with
  | .inl (z1,z2,z3,z4,z5,z6,z7) =>
   some ((DElem.mk (DKey.mk 0 0 0) 0 0 (ByteArray.mk #[])),false)
  | .inr q=>some q
def mU (F:Nat) (p0:DTree) (p1:Int) : Option (Bool) :=
 (
  bif decide (p1 < 1) then
   some true
   else
    bif decide ((2147483647:Int) < p1) then
     some true
    else
     (idx p0.nodes p0.root).bind fun e1 =>
     (jl F e1).bind fun r1 =>
     some (decide (p1 < r1)) : Option (Bool)).bind fun z1 =>
 some z1
def oh (F:Nat) (p0:DTree) : Option (Bool) :=
 (
  (ql (σ:=Int × Int) (ρ:=Int) (fun rf1 x=>match x with
   | (x1,x2) =>
    (idx p0.nodes x2).bind fun e1 =>
     (iter (σ:=Int × Int) (ρ:=Int) (fun x=>match x with
      | (x3,x4) =>
       bif decide (x4 < (e1.elems.length:Int)) then
        (idx e1.elems x4).bind fun e2 =>
        some (.inl (IntKind.i64.wrap (x3 + 1),IntKind.i64.wrap (x4 + 1)))
        else
         some (.inr x3)) F (x1,0)).bind fun z3 =>
     (iter (σ:=Int × Int) (ρ:=Int) (fun x=>match x with
      | (x5,x6) =>
       bif decide (x6 < (e1.kids.length:Int)) then
        (idx e1.kids x6).bind fun e3 =>
        (rf1 (x5,e3)).bind fun z5 =>
        some (.inl (z5,IntKind.i64.wrap (x6 + 1)))
        else
         some (.inr x5)) F (z3,0)).bind fun z4 =>
     some z4) F (0,p0.root)).bind fun q1 =>
   some q1:Option (Int)).bind fun z1 =>
 some (decide ((400:Int)≤z1))
end Go.Proofs.YtaoocidchclpnaaGreat
