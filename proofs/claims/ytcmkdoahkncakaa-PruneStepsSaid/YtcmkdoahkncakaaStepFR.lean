/- Pure functions, written by walkgen.py out of the Go functions of group Step. Their conditions: none. -/
import Derived.Test.YtcmkdoahkncakaaPastCFR
import Derived.Test.YtcmkdoahkncakaaPruneFR
import Derived.Test.YtcmkdoahkncakaaCpFR
import Derived.Test.YtcmkdoahkncakaaTreeOR
import Derived.Test.YtcmkdoahkncakaaInsR
import Derived.Test.YtcmkdoahkncakaaRangeR
import Derived.Test.YtcmkdoahkncakaaMapR
namespace Go.Proofs.Ytcmkdoahkncakaa
set_option linter.unusedVariables false
def prune_Step (F : Nat) (p0 : DTree) (p1 : (List Int)) (p2 : Int) : Option (DTree × Int × Int) :=
 (past_Check F p0).bind fun r1 =>
 bif (r1 != 0) then
  some ((DTree.mk 0 []), 0, r1)
 else
  (prune_times F p1).bind fun r2 =>
  bif (r2 != 0) then
   some ((DTree.mk 0 []), 0, r2)
  else
   bif decide (p2 < 0) then
    some ((DTree.mk 0 []), 0, 1)
   else
    (
     (
      (fixD (σ := (List DSpot) × Int) (ρ := (List DSpot) × Nat) (fun rf2 x => match x with
       | (x1, x2) =>
        (idx p0.nodes x2).bind fun e1 =>
         (iter (σ := (List DSpot) × Int) (ρ := ((List DSpot)) ⊕ ((List DSpot) × Nat)) (fun x => match x with
          | (x3, x4) =>
           bif decide (x4 < (e1.elems.length : Int)) then
            (idx e1.elems x4).bind fun e2 =>
            (
             (
              bif ((x3.length : Int) == p2) then
               some (x3, (0 + 1))
               else
                (prune_stays F e2 p1).bind fun r4 =>
                bif (!r4) then
                 (elem_Spot e2).bind fun r5 =>
                 (grow 32 x3 [r5]).bind fun _ =>
                 some ((x3 ++ [r5]), 0)
                else
                 some (x3, 0) : Option ((List DSpot) × Nat)).bind fun z => match z with
              | (z6, k4) =>
               natCase k4 (
                some (z6, 0))
                fun k5 =>
                some (z6, (k5 + 1)) : Option ((List DSpot) × Nat)).bind fun z => match z with
             | (z5, k3) =>
              natCase k3 (
               some (.inl (z5, IntKind.i64.wrap (x4 + 1))))
               fun k6 =>
               some (.inr (.inr (z5, (k6 + 1))))
            else
             some (.inr (.inl x3))) F (x1, 0)).bind fun z => match z with
          | .inl z4 =>
           (iter (σ := (List DSpot) × Int) (ρ := ((List DSpot)) ⊕ ((List DSpot) × Nat)) (fun x => match x with
            | (x5, x6) =>
             bif decide (x6 < (e1.kids.length : Int)) then
              (idx e1.kids x6).bind fun e3 =>
              (
               (rf2 (x5, e3)).bind fun z => match z with
                | (z9, z10) =>
                 natCase z10 (
                  some (z9, 0))
                  fun k8 =>
                  some (z9, (k8 + 1)) : Option ((List DSpot) × Nat)).bind fun z => match z with
               | (z8, k7) =>
                natCase k7 (
                 some (.inl (z8, IntKind.i64.wrap (x6 + 1))))
                 fun k9 =>
                 some (.inr (.inr (z8, (k9 + 1))))
              else
               some (.inr (.inl x5))) F (z4, 0)).bind fun z => match z with
            | .inl z7 =>
             some (z7, 0)
            | .inr q => some q
          | .inr q => some q) F ([], p0.root)).bind fun z => match z with
       | (z11, z12) =>
        natCase z12 (
         some (z11, 0))
         fun k10 =>
         some (z11, (k10 + 1)) : Option ((List DSpot) × Nat)).bind fun z => match z with
      | (z2, k1) =>
       natCase k1 (
        some z2)
        fun k11 =>
        some z2 : Option ((List DSpot))).bind fun z1 =>
    (tree_Copy F p0).bind fun r6 =>
    (iter (σ := Int × (List (Int ⊕ DNode)) × Int) (ρ := Int × (List (Int ⊕ DNode))) (fun x => match x with
     | (x7, x8, x9) =>
      bif decide (x9 < (z1.length : Int)) then
       (idx z1 x9).bind fun e4 =>
       (
        (fixD (σ := (List (Int ⊕ DNode)) × Int) (ρ := (List (Int ⊕ DNode))) (fun rf3 x => match x with
         | (x10, x11) =>
          (nodeAt x10 x11).bind fun n1 =>
           bif (n1.kind == 1) then
            (
             (
              (iter (σ := Int) (ρ := (Unit) ⊕ Int) (fun x12 =>
               bif decide (x12 < (n1.elems.length : Int)) then
                (idx n1.elems x12).bind fun e5 =>
                (
                 (elem_Spot e5).bind fun r12 =>
                  some (r12 == e4) : Option (Bool)).bind fun z20 =>
                bif z20 then
                 some (.inr (.inr x12))
                else
                 some (.inl (IntKind.i64.wrap (x12 + 1)))
                else
                 some (.inr (.inl ()))) F 0).bind fun z => match z with
               | .inl _ =>
                some (-1)
               | .inr q => some q : Option (Int)).bind fun z19 =>
              bif (z19 == (-1)) then
               some n1.elems
              else
               (iter (σ := (List DElem) × Int × Int) (ρ := (List DElem) × Int) (fun x => match x with
                | (x13, x14, x15) =>
                 bif decide (x15 < (x13.length : Int)) then
                  (
                   (idx x13 x15).bind fun e6 =>
                    (
                     (elem_Spot e6).bind fun r13 =>
                      some (r13 == e4) : Option (Bool)).bind fun z25 =>
                    bif (!z25) then
                     (idx x13 x14).bind fun e7 =>
                     some ((x13.set x14.toNat e6), IntKind.i64.wrap (x14 + 1))
                    else
                     some (x13, x14) : Option ((List DElem) × Int)).bind fun z => match z with
                   | (z23, z24) =>
                    some (.inl (z23, z24, IntKind.i64.wrap (x15 + 1)))
                  else
                   some (.inr (x13, x14))) F (n1.elems, z19, IntKind.i64.wrap (z19 + 1))).bind fun z => match z with
                | (z21, z22) =>
                 (lslice z21 z22 (z21.length : Int)).bind fun s5 =>
                 (lslice (over z21 z22.toNat (List.replicate s5.length ((DElem.mk (DKey.mk 0 0 0) 0 0 (ByteArray.mk #[])) : DElem))) 0 z22).bind fun s6 =>
                 some s6 : Option ((List DElem))).bind fun z18 =>
            (hasAt (outAt x10 x11) x11).bind fun u1 =>
            some (putAt (outAt x10 x11) x11 (DNode.mk n1.kind z18 n1.kids n1.seps n1.tids))
           else
            (node_Way F n1 e4).bind fun r14 =>
            (idx n1.kids r14).bind fun e9 =>
            (rf3 ((outAt x10 x11), e9)).bind fun z26 =>
            (idx n1.kids r14).bind fun e10 =>
            (nodeAt z26 e10).bind fun n4 =>
            (node_Greatest F n4).bind fun r15 =>
            (idx n1.tids r14).bind fun e11 =>
            (
             bif decide ((IntKind.i64.wrap ((n4.elems.length : Int) + (n4.kids.length : Int))) < 4) then
              (
               (
                bif (r14 == (IntKind.i64.wrap ((n1.kids.length : Int) - 1))) then
                 some (IntKind.i64.wrap (r14 - 1))
                 else
                  some r14 : Option (Int)).bind fun z35 =>
                (idx n1.kids z35).bind fun e12 =>
                (idx n1.kids (IntKind.i64.wrap (z35 + 1))).bind fun e13 =>
                (nodeAt z26 e12).bind fun n7 =>
                (nodeAt (outAt z26 e12) e13).bind fun n8 =>
                (idx n1.seps z35).bind fun e14 =>
                (
                 (grow 56 n7.elems n8.elems).bind fun _ =>
                  (
                   bif (n7.kind == 2) then
                    (grow 32 n7.seps [e14]).bind fun y8 =>
                    (grow 32 (n7.seps ++ [e14]) n8.seps).bind fun y9 =>
                    some ((n7.seps ++ [e14]) ++ n8.seps)
                    else
                     some n7.seps : Option ((List DSpot))).bind fun z37 =>
                  (grow 8 n7.kids n8.kids).bind fun _ =>
                  (grow 8 n7.tids n8.tids).bind fun _ =>
                  some z37 : Option ((List DSpot))).bind fun z36 =>
                (
                 bif decide ((8 : Int) < (IntKind.i64.wrap (((n7.elems ++ n8.elems).length : Int) + ((n7.kids ++ n8.kids).length : Int)))) then
                  (
                   bif (n7.kind == 1) then
                    (lslice (n7.elems ++ n8.elems) 4 ((n7.elems ++ n8.elems).length : Int)).bind fun s7 =>
                    (grow 56 ([] : List DElem) s7).bind fun _ =>
                    (lslice (n7.elems ++ n8.elems) 0 4).bind fun s8 =>
                    (idx s7 0).bind fun e15 =>
                    (elem_Spot e15).bind fun r21 =>
                    some ([], [], [], s7, s8, (n7.kids ++ n8.kids), z36, (n7.tids ++ n8.tids), r21.key.pfs, r21.key.obj, r21.key.off, r21.made, 1)
                    else
                     (lslice (n7.kids ++ n8.kids) 4 ((n7.kids ++ n8.kids).length : Int)).bind fun s9 =>
                     (lslice z36 4 (z36.length : Int)).bind fun s10 =>
                     (lslice (n7.tids ++ n8.tids) 4 ((n7.tids ++ n8.tids).length : Int)).bind fun s11 =>
                     (grow 8 ([] : List Int) s9).bind fun y27 =>
                     (grow 32 ([] : List DSpot) s10).bind fun y28 =>
                     (grow 8 ([] : List Int) s11).bind fun y29 =>
                     (idx z36 3).bind fun e16 =>
                     (lslice (n7.kids ++ n8.kids) 0 4).bind fun s12 =>
                     (lslice z36 0 3).bind fun s13 =>
                     (lslice (n7.tids ++ n8.tids) 0 4).bind fun s14 =>
                     some (s11, s10, s9, [], (n7.elems ++ n8.elems), s12, s13, s14, e16.key.pfs, e16.key.obj, e16.key.off, e16.made, 2) : Option ((List Int) × (List DSpot) × (List Int) × (List DElem) × (List DElem) × (List Int) × (List DSpot) × (List Int) × Int × Int × Int × Int × Int)).bind fun z => match z with
                   | (z42, z43, z44, z45, z46, z47, z48, z49, z50, z51, z52, z53, z54) =>
                    (hasAt (outAt z26 e12) e12).bind fun u2 =>
                    (hasAt (putAt (outAt z26 e12) e12 (DNode.mk n7.kind z46 z47 z48 z49)) e13).bind fun u3 =>
                    (idx n1.seps z35).bind fun e19 =>
                    (node_Greatest F (DNode.mk z54 z45 z44 z43 z42)).bind fun r29 =>
                    (idx (n1.tids.set r14.toNat r15) (IntKind.i64.wrap (z35 + 1))).bind fun e20 =>
                    some (n1.kids, (n1.seps.set z35.toNat (DSpot.mk (DKey.mk z50 z51 z52) z53)), ((n1.tids.set r14.toNat r15).set ((IntKind.i64.wrap (z35 + 1)).toNat) r29), (putAt (putAt (outAt z26 e12) e12 (DNode.mk n7.kind z46 z47 z48 z49)) e13 (DNode.mk z54 z45 z44 z43 z42)))
                  else
                   (hasAt (outAt z26 e12) e12).bind fun u4 =>
                   (hasAt (putAt (outAt z26 e12) e12 (DNode.mk n7.kind (n7.elems ++ n8.elems) (n7.kids ++ n8.kids) z36 (n7.tids ++ n8.tids))) e13).bind fun u5 =>
                   (dels n1.kids (IntKind.i64.wrap (z35 + 1)) (IntKind.i64.wrap (z35 + 2))).bind fun _ =>
                   (dels n1.seps z35 (IntKind.i64.wrap (z35 + 1))).bind fun _ =>
                   (dels (n1.tids.set r14.toNat r15) (IntKind.i64.wrap (z35 + 1)) (IntKind.i64.wrap (z35 + 2))).bind fun _ =>
                   some ((delAt n1.kids (IntKind.i64.wrap (z35 + 1)).toNat (IntKind.i64.wrap (z35 + 2)).toNat), (delAt n1.seps z35.toNat (IntKind.i64.wrap (z35 + 1)).toNat), (delAt (n1.tids.set r14.toNat r15) (IntKind.i64.wrap (z35 + 1)).toNat (IntKind.i64.wrap (z35 + 2)).toNat), (putAt (putAt (outAt z26 e12) e12 (DNode.mk n7.kind (n7.elems ++ n8.elems) (n7.kids ++ n8.kids) z36 (n7.tids ++ n8.tids))) e13 (DNode.mk 0 [] [] [] []))) : Option ((List Int) × (List DSpot) × (List Int) × (List (Int ⊕ DNode)))).bind fun z => match z with
                 | (z38, z39, z40, z41) =>
                  (nodeAt z41 e12).bind fun n15 =>
                  (node_Greatest F n15).bind fun r34 =>
                  (idx z40 z35).bind fun e23 =>
                  some (z38, z39, (z40.set z35.toNat r34), z41) : Option ((List Int) × (List DSpot) × (List Int) × (List (Int ⊕ DNode)))).bind fun z => match z with
               | (z31, z32, z33, z34) =>
                some (z31, z32, z33, z34)
              else
               some (n1.kids, n1.seps, (n1.tids.set r14.toNat r15), z26) : Option ((List Int) × (List DSpot) × (List Int) × (List (Int ⊕ DNode)))).bind fun z => match z with
             | (z27, z28, z29, z30) =>
              (hasAt z30 x11).bind fun u6 =>
              some (putAt z30 x11 (DNode.mk n1.kind n1.elems z27 z28 z29))) F (x8, x7)).bind fun q11 =>
         (
          (nodeAt q11 x7).bind fun n17 =>
           bif ((n17.kids.length : Int) == 1) then
            (hasAt (outAt q11 x7) x7).bind fun u7 =>
            (idx n17.kids 0).bind fun e26 =>
            some (e26, (putAt (outAt q11 x7) x7 (DNode.mk 0 [] [] [] [])))
           else
            some (x7, (putAt (outAt q11 x7) x7 n17)) : Option (Int × (List (Int ⊕ DNode)))).bind fun z => match z with
          | (z55, z56) =>
           some (z56, z55) : Option ((List (Int ⊕ DNode)) × Int)).bind fun z => match z with
        | (z15, z16) =>
         some (.inl (z16, z15, IntKind.i64.wrap (x9 + 1)))
       else
        some (.inr (x7, x8))) F (r6.root, (r6.nodes.map Sum.inr), 0)).bind fun z => match z with
     | (z13, z14) =>
      (allN z14).bind fun l2 =>
      some ((DTree.mk z13 l2), (z1.length : Int), 0)
end Go.Proofs.Ytcmkdoahkncakaa
