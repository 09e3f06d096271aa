/- Pure functions, written by walkgen.py out of the Go functions of group GrowS. Their conditions: none. -/
import Derived.Test.YtcmkdoahkncakaaLookFJ
import Derived.Test.YtcmkdoahkncakaaCpFJ
import Derived.Test.YtcmkdoahkncakaaTreeOJ
import Derived.Test.YtcmkdoahkncakaaRecJ
import Derived.Test.YtcmkdoahkncakaaMapJ
namespace Go.Proofs.Ytcmkdoahkncakaa
set_option linter.unusedVariables false

def grow_Set (F : Nat) (p0 : DTree) (p1 : DElem) : Option (DTree × Int) :=
  (grow_look F p0 p1).bind fun r1 =>
  bif (r1.2.2 != 0) then
    some ((DTree.mk 0 []), r1.2.2)
  else
    bif (!r1.2.1) then
      some ((DTree.mk 0 []), 4)
    else
      (tree_Copy F p0).bind fun r2 =>
      (fixD (σ := (List (Int ⊕ DNode)) × Int) (ρ := (List (Int ⊕ DNode))) (fun rf1 x => match x with
        | (x1, x2) =>
          (nodeAt x1 x2).bind fun n1 =>
            bif (n1.kind == 1) then
              (iter (σ := (List DElem) × Int) (ρ := (List DElem)) (fun x => match x with
                | (x3, x4) =>
                  bif decide (x4 < (n1.elems.length : Int)) then
                      (
                        (idx x3 x4).bind fun e1 =>
                          (elem_Spot e1).bind fun r8 =>
                          (elem_Spot p1).bind fun r9 =>
                          bif (r8 == r9) then
                            (idx x3 x4).bind fun e2 =>
                            some (x3.set x4.toNat p1)
                          else
                            some x3 : Option ((List DElem))).bind fun z3 =>
                      some (.inl (z3, IntKind.i64.wrap (x4 + 1)))
                    else
                      some (.inr x3)) F (n1.elems, 0)).bind fun z2 =>
              (fitN n1 (DNode.mk n1.kind z2 n1.kids n1.seps n1.tids)).bind fun u1 =>
              some (putAt (outAt x1 x2) x2 (DNode.mk n1.kind z2 n1.kids n1.seps n1.tids))
            else
              (elem_Spot p1).bind fun r10 =>
              (node_Way F n1 r10).bind fun r11 =>
              (idx n1.kids r11).bind fun e3 =>
              (rf1 ((outAt x1 x2), e3)).bind fun z4 =>
              (idx n1.kids r11).bind fun e4 =>
              (nodeAt z4 e4).bind fun n2 =>
              (node_Greatest F n2).bind fun r12 =>
              (idx n1.tids r11).bind fun e5 =>
              (fitN n1 (DNode.mk n1.kind n1.elems n1.kids n1.seps (n1.tids.set r11.toNat r12))).bind fun u2 =>
              some (putAt z4 x2 (DNode.mk n1.kind n1.elems n1.kids n1.seps (n1.tids.set r11.toNat r12)))) F ((r2.nodes.map Sum.inr), r2.root)).bind fun q1 =>
      (allN q1).bind fun l1 =>
      some ((DTree.mk r2.root l1), 0)

end Go.Proofs.Ytcmkdoahkncakaa
