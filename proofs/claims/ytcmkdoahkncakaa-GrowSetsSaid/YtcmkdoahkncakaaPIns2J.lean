/- Plain Lean: a record is put into a part of a tree. Its conditions: none. -/
import Derived.Test.YtcmkdoahkncakaaMInsJ
namespace Go.Proofs.Ytcmkdoahkncakaa
set_option linter.unusedVariables false
set_option linter.unusedSimpArgs false

/-! ### The code, in pieces -/
def takeX (F : Nat) (N : NL) (n : DNode) : Option ((List (Int ⊕ DNode)) × Int) :=
                              (iter (σ := Int) (ρ := (Unit) ⊕ ((List (Int ⊕ DNode)) × Int)) (fun x16 =>
                                    bif decide (x16 < (N.length : Int)) then
                                        (kindAt N x16).bind fun kd4 =>
                                        bif (kd4 == 0) then
                                          (hasAt N x16).bind fun u15 =>
                                          some (.inr (.inr ((putAt N x16 n), x16)))
                                        else
                                          some (.inl (IntKind.i64.wrap (x16 + 1)))
                                      else
                                        some (.inr (.inl ()))) F 0).bind fun z => match z with
                                  | .inl _ =>
                                    (roomN 104 (N.length + 1)).bind fun u16 =>
                                    some ((N ++ [(Sum.inr n : Int ⊕ DNode)]), IntKind.i64.wrap (((N ++ [(Sum.inr n : Int ⊕ DNode)]).length : Int) - 1))
                                  | .inr q => some q
def posX (F : Nat) (l : List DElem) (e : DElem) : Option Int :=
                        iter (σ := Int) (ρ := Int) (fun x15 =>
                            (
                                bif decide (x15 < (l.length : Int)) then
                                    (idx l x15).bind fun e28 =>
                                    (elem_Spot e28).bind fun r68 =>
                                    (elem_Spot e).bind fun r69 =>
                                    (key_CmpSpot r68 r69).bind fun r70 =>
                                    some (decide (r70 < 0))
                                  else
                                    some false : Option (Bool)).bind fun z131 =>
                              bif z131 then
                                some (.inl (IntKind.i64.wrap (x15 + 1)))
                              else
                                some (.inr x15)) F 0
abbrev InsT := (List (Int ⊕ DNode)) × Int × Int × Int × Int × Int × Bool
def insM (F : Nat) (e : DElem) (rf4 : NL × Int → Option InsT) (x13 : NL) (x14 : Int) (n31 : DNode) : Option ((List DElem) × (List Int) × (List DSpot) × (List Int) × (List (Int ⊕ DNode))) :=
                    bif (n31.kind == 1) then
                        (posX F n31.elems e).bind fun z130 =>
                        (inss 56 n31.elems z130 e).bind fun _ =>
                        some ((insAt n31.elems z130.toNat e), n31.kids, n31.seps, n31.tids, (outAt x13 x14))
                      else
                        (elem_Spot e).bind fun r71 =>
                        (node_Way F n31 r71).bind fun r72 =>
                        (idx n31.kids r72).bind fun e29 =>
                        (rf4 ((outAt x13 x14), e29)).bind fun z => match z with
                          | (z132, z133, z134, z135, z136, z137, z138) =>
                            (idx n31.kids r72).bind fun e30 =>
                            (nodeAt z132 e30).bind fun n32 =>
                            (node_Greatest F n32).bind fun r73 =>
                            (idx n31.tids r72).bind fun e31 =>
                            bif z138 then
                              (inss 8 n31.kids (IntKind.i64.wrap (r72 + 1)) z137).bind fun _ =>
                              (inss 32 n31.seps r72 (DSpot.mk (DKey.mk z133 z134 z135) z136)).bind fun _ =>
                              (nodeAt z132 z137).bind fun n33 =>
                              (node_Greatest F n33).bind fun r74 =>
                              (inss 8 (n31.tids.set r72.toNat r73) (IntKind.i64.wrap (r72 + 1)) r74).bind fun _ =>
                              some (n31.elems, (insAt n31.kids (IntKind.i64.wrap (r72 + 1)).toNat z137), (insAt n31.seps r72.toNat (DSpot.mk (DKey.mk z133 z134 z135) z136)), (insAt (n31.tids.set r72.toNat r73) (IntKind.i64.wrap (r72 + 1)).toNat r74), z132)
                            else
                              some (n31.elems, n31.kids, n31.seps, (n31.tids.set r72.toNat r73), z132)
def halfX (k : Int) (z125 : List DElem) (z126 : List Int) (z127 : List DSpot) (z128 : List Int) : Option ((List Int) × (List DSpot) × (List Int) × (List DElem) × (List DElem) × (List Int) × (List DSpot) × (List Int) × Int × Int × Int × Int × Int) :=
                          bif (k == 1) then
                              (lslice z125 4 (z125.length : Int)).bind fun s25 =>
                              (grow 56 ([] : List DElem) s25).bind fun _ =>
                              (lslice z125 0 4).bind fun s26 =>
                              (idx s25 0).bind fun e33 =>
                              (elem_Spot e33).bind fun r76 =>
                              some ([], [], [], s25, s26, z126, z127, z128, r76.key.pfs, r76.key.obj, r76.key.off, r76.made, 1)
                            else
                              (lslice z126 4 (z126.length : Int)).bind fun s27 =>
                              (lslice z127 4 (z127.length : Int)).bind fun s28 =>
                              (lslice z128 4 (z128.length : Int)).bind fun s29 =>
                              (grow 8 ([] : List Int) s27).bind fun y37 =>
                              (grow 32 ([] : List DSpot) s28).bind fun y38 =>
                              (grow 8 ([] : List Int) s29).bind fun y39 =>
                              (idx z127 3).bind fun e34 =>
                              (lslice z126 0 4).bind fun s30 =>
                              (lslice z127 0 3).bind fun s31 =>
                              (lslice z128 0 4).bind fun s32 =>
                              some (s29, s28, s27, [], z125, s30, s31, s32, e34.key.pfs, e34.key.obj, e34.key.off, e34.made, 2)
def insB (F : Nat) (e : DElem) (rf4 : NL × Int → Option InsT) (x : NL × Int) : Option InsT :=
  match x with
              | (x13, x14) =>
                (nodeAt x13 x14).bind fun n31 =>
                  (insM F e rf4 x13 x14 n31).bind fun z => match z with
                    | (z125, z126, z127, z128, z129) =>
                      bif decide ((IntKind.i64.wrap ((z125.length : Int) + (z126.length : Int))) ≤ 8) then
                        (hasAt z129 x14).bind fun u13 =>
                        some ((putAt z129 x14 (DNode.mk n31.kind z125 z126 z127 z128)), 0, 0, 0, 0, 0, false)
                      else
                        (halfX n31.kind z125 z126 z127 z128).bind fun z => match z with
                          | (z139, z140, z141, z142, z143, z144, z145, z146, z147, z148, z149, z150, z151) =>
                            (hasAt z129 x14).bind fun u14 =>
                            (takeX F (putAt z129 x14 (DNode.mk n31.kind z143 z144 z145 z146)) (DNode.mk z151 z142 z141 z140 z139)).bind fun z => match z with
                              | (z152, z153) =>
                                some (z152, z147, z148, z149, z150, z153, true)
def addX (F : Nat) (e : DElem) (N : NL) (root : Int) : Option (Int × NL) :=
          (fixD (σ := (List (Int ⊕ DNode)) × Int) (ρ := InsT) (insB F e) F (N, root)).bind fun z => match z with
              | (z39, z40, z41, z42, z43, z44, z45) =>
                bif (!z45) then
                  some (root, z39)
                else
                  (nodeAt z39 root).bind fun n41 =>
                  (nodeAt z39 z44).bind fun n42 =>
                  (node_Greatest F n41).bind fun r84 =>
                  (node_Greatest F n42).bind fun r85 =>
                  (takeX F z39 (DNode.mk 2 [] [root, z44] [(DSpot.mk (DKey.mk z40 z41 z42) z43)] [r84, r85])).bind fun z => match z with
                    | (z154, z155) =>
                      some (z155, z154)
variable {F : Nat} [Big F]

/-! ### What is done beneath a node -/
structure InsPost (e : DElem) (N N' : NL) (h : Nat) (i : Int) (s : Span) (m : Nat) (R : List Int) (X : List DSpot) : Prop where
  fr : Fr2 N N' (ids (fN N) h i) (R.flatMap (ids (fN N') h)) (h + 1)
  ch : Ch (fun k t s' => SubT (fN N') h k m s' ∧ greatR (nd (fN N') k) = t) X s R (R.map fun k => greatR (nd (fN N') k))
  elems : ∀ x, x ∈ R.flatMap (elemsAt (fN N') h) ↔ x = e ∨ x ∈ elemsAt (fN N) h i
end Go.Proofs.Ytcmkdoahkncakaa
/- Plain Lean: what the recursion that puts a record into a tree makes of it. Its conditions: none. -/
namespace Go.Proofs.Ytcmkdoahkncakaa
set_option linter.unusedVariables false
set_option linter.unusedSimpArgs false
variable {F : Nat} [Big F]

/-- What a node's recursion yields. -/
def InsOut (F : Nat) (e : DElem) (N : NL) (h mf : Nat) (i : Int) (s : Span) (m : Nat) : Prop :=
  ∃ (N' : NL) (sp : DSpot) (r : Int) (b : Bool), fixD (insB F e) mf (N, i) = some (N', sp.key.pfs, sp.key.obj, sp.key.off, sp.made, r, b) ∧
    ((b = false ∧ InsPost e N N' h i s m [i] []) ∨ (b = true ∧ chkE (zE sp) = 0 ∧ InsPost e N N' h i s 4 [i, r] [sp]))
def z0 : DSpot := ⟨⟨0, 0, 0⟩, 0⟩
end Go.Proofs.Ytcmkdoahkncakaa
