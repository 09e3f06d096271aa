/- Pure functions of group PastA. Conditions: none. -/
import Derived.Test.YtljbmnknmhogaaaPastCFT
import Derived.Test.YtljbmnknmhogaaaRangeT
import Derived.Test.YtljbmnknmhogaaaMapT
namespace Go.Proofs.Ytljbmnknmhogaaa
set_option linter.unusedVariables false
def oY (F:Nat) (p0:DTree) (p1:DKey) (p2:Int) : Option (DElem × Int) :=
 (kX F p0).bind fun r1 =>
 bif (r1 != 0) then
  some ((DElem.mk (DKey.mk 0 0 0) 0 0 (ByteArray.mk #[])),r1)
 else
  (kV p1).bind fun r2 =>
  bif (r2 != 0) then
   some ((DElem.mk (DKey.mk 0 0 0) 0 0 (ByteArray.mk #[])),r2)
  else
   (
    (
     (nN (σ:=Int × Int × Int × Int × Int × ByteArray × Int) (ρ:=Nat × Int × Int × Int × Int × Int × ByteArray) (fun rf1 x=>match x with
      | (x1,x2,x3,x4,x5,x6,x7) =>
       (idx p0.nodes x7).bind fun e1 =>
        (iter (σ:=Int × Int × Int × Int × Int × ByteArray × Int) (ρ:=(Int × Int × Int × Int × Int × ByteArray) ⊕ (Nat × Int × Int × Int × Int × Int × ByteArray)) (fun x=>match x with
         | (x8,x9,x10,x11,x12,x13,x14) =>
          bif decide (x14 < (e1.elems.length:Int)) then
           (idx e1.elems x14).bind fun e2 =>
           (
            (ji e2).bind fun r3 =>
             (jo r3 (DSpot.mk p1 0)).bind fun r4 =>
             bif decide ((0:Int)≤r4) then
              (
               bif (!(e2.key == p1)) then
                some ((0 + 1),x8,x9,x10,x11,x12,x13)
                else
                 (mc e2 p2).bind fun r5 =>
                 bif r5 then
                  some ((1 + 1),e2.key.pfs,e2.key.obj,e2.key.off,e2.made,e2.gone,e2.val)
                 else
                  some (0,x8,x9,x10,x11,x12,x13) : Option (Nat × Int × Int × Int × Int × Int × ByteArray)).bind fun z=>match z with
               | (k4,z31,z32,z33,z34,z35,z36) =>
                jJ k4 (
                 some (0,z31,z32,z33,z34,z35,z36))
                 fun k5 =>
                 some ((k5 + 1),z31,z32,z33,z34,z35,z36)
             else
              some (0,x8,x9,x10,x11,x12,x13) : Option (Nat × Int × Int × Int × Int × Int × ByteArray)).bind fun z=>match z with
            | (k3,z25,z26,z27,z28,z29,z30) =>
             jJ k3 (
              some (.inl (z25,z26,z27,z28,z29,z30,IntKind.i64.wrap (x14 + 1))))
              fun k6 =>
              some (.inr (.inr ((k6 + 1),z25,z26,z27,z28,z29,z30)))
           else
            some (.inr (.inl (x8,x9,x10,x11,x12,x13)))) F (x1,x2,x3,x4,x5,x6,0)).bind fun z=>match z with
         | .inl (z19,z20,z21,z22,z23,z24) =>
          bif (e1.kind == 1) then
           some (0,z19,z20,z21,z22,z23,z24)
          else
           (lL F e1 (DSpot.mk p1 0)).bind fun r6 =>
           (je e1.kids r6 (e1.kids.length:Int)).bind fun s2 =>
           (iter (σ:=Int × Int × Int × Int × Int × ByteArray × Int) (ρ:=(Int × Int × Int × Int × Int × ByteArray) ⊕ (Nat × Int × Int × Int × Int × Int × ByteArray)) (fun x=>match x with
            | (x15,x16,x17,x18,x19,x20,x21) =>
             bif decide (x21 < (s2.length:Int)) then
              (idx s2 x21).bind fun e3 =>
              (
               (rf1 (x15,x16,x17,x18,x19,x20,e3)).bind fun z=>match z with
                | (z49,z50,z51,z52,z53,z54,z55) =>
                 jJ z49 (
                  some (0,z50,z51,z52,z53,z54,z55))
                  fun k8 =>
                  some ((k8 + 1),z50,z51,z52,z53,z54,z55) : Option (Nat × Int × Int × Int × Int × Int × ByteArray)).bind fun z=>match z with
               | (k7,z43,z44,z45,z46,z47,z48) =>
                jJ k7 (
                 some (.inl (z43,z44,z45,z46,z47,z48,IntKind.i64.wrap (x21 + 1))))
                 fun k9 =>
                 some (.inr (.inr ((k9 + 1),z43,z44,z45,z46,z47,z48)))
              else
               some (.inr (.inl (x15,x16,x17,x18,x19,x20)))) F (z19,z20,z21,z22,z23,z24,0)).bind fun z=>match z with
            | .inl (z37,z38,z39,z40,z41,z42) =>
             some (0,z37,z38,z39,z40,z41,z42)
            | .inr q=>some q
         | .inr q=>some q) F (0,0,0,0,0,(ByteArray.mk #[]),p0.root)).bind fun z=>match z with
      | (z56,z57,z58,z59,z60,z61,z62) =>
       jJ z56 (
        some (0,z57,z58,z59,z60,z61,z62))
        fun k10 =>
        some ((k10 + 1),z57,z58,z59,z60,z61,z62) : Option (Nat × Int × Int × Int × Int × Int × ByteArray)).bind fun z=>match z with
     | (k1,z7,z8,z9,z10,z11,z12) =>
      jJ k1 (
       some (.inl (z7,z8,z9,z10,z11,z12)))
       fun k11 =>
       jJ k11 (
        some (.inl (z7,z8,z9,z10,z11,z12)))
        fun k12 =>
        some (.inr ((DElem.mk (DKey.mk z7 z8 z9) z10 z11 z12),0)) : Option ((Int × Int × Int × Int × Int × ByteArray) ⊕ (DElem × Int))).bind fun z=>match z with
    | .inl (z1,z2,z3,z4,z5,z6) =>
     some ((DElem.mk (DKey.mk 0 0 0) 0 0 (ByteArray.mk #[])),4)
    | .inr q=>some q
end Go.Proofs.Ytljbmnknmhogaaa
