/- Pure functions of group Cp. Conditions: none. -/
import Derived.Test.YtaoocidchclpnaaGreatTreeFY
import Derived.Test.YtaoocidchclpnaaGreatRunFY
import Derived.Test.YtaoocidchclpnaaGreatMapY
import Derived.Test.YtaoocidchclpnaaGreatZY
import Derived.Test.YtaoocidchclpnaaGreatShAY
import Derived.Test.YtaoocidchclpnaaGreatTreeLY
import Derived.Test.YtaoocidchclpnaaGreatRunLY
import Derived.Test.YtaoocidchclpnaaGreatEqLY
import Derived.Test.YtaoocidchclpnaaGreatTreeOY
namespace Go.Proofs.YtaoocidchclpnaaGreat
set_option linter.unusedVariables false
def lr (F:Nat) (p0:DTree) : Option (Int) :=
 (me F p0).bind fun r1 =>
 bif (r1.2 != 0) then
  some r1.2
 else
  (nI F r1.1).bind fun r2 =>
  some r2
end Go.Proofs.YtaoocidchclpnaaGreat
namespace Go.Proofs.YtaoocidchclpnaaGreat
open IntKind (i64)
set_option maxRecDepth 100000
set_option maxHeartbeats 4000000
set_option linter.unusedVariables false
theorem lK (F:Nat) (b:DTree) (r:Int) (a:lr F b=some r) (w:World) (d:Option Addr) (e:Nat) (q:hJ (vw w) iH d e b.nodes) :
 Calls Tryz.prog 28 #[.agg #[.int .i64 b.root,.slice d b.nodes.length e]] w (jB (vSc hO) r w):=by
 unfold lr at a;refine T.iA (l:=[.agg #[vi b.root,sl d b.nodes e]]) Tryz.func28 rfl rfl rfl ?_;refine au1 ?_;refine T.N1 fun z=>?_;refine au1 ?_;refine oc a fun f n a=>(T.ia (W1.w1 (vT2 (vSc (kU eElem)) (vSc hO)) f 30 #[.agg #[vi b.root,sl d b.nodes e]] (fun i g=>mg F b f n i d e (hJ.mono q g.view)) ?_));intro u x A h;obtain⟨C,D,rfl,t,v⟩:=jc h;obtain⟨j,k,rfl,s⟩:=jO t;obtain rfl:=ic _ _ _ v;refine au2 ?_;revert a;refine T.c (fun p a=>?_) (fun p a=>?_);refine au1 ?_
 cases a;exact il;refine au1 ?_;refine oc a fun m o a=>(T.ia (W1.w1 (vSc hO) m 41 #[sl j f.1 k] (fun i g=>pi F f.1 m o i j k (hJ.mono (hJ.mono s (io _ _)) g.view)) ?_));intro u y B h;obtain rfl:=ic _ _ _ h;refine au0 ?_;cases a;exact il
end Go.Proofs.YtaoocidchclpnaaGreat
namespace Go.Proofs.YtaoocidchclpnaaGreat
set_option linter.unusedVariables false
def oN (p0:DNode) : Option (DNode) :=
 (jT 56 ([] : List DElem) p0.elems).bind fun _ =>
 (jT 8 ([] : List Int) p0.kids).bind fun _ =>
 (jT 32 ([] : List DSpot) p0.seps).bind fun _ =>
 (jT 8 ([] : List Int) p0.tids).bind fun _ =>
 some (DNode.mk p0.kind (([] : List DElem) ++ p0.elems) (([] : List Int) ++ p0.kids) (([] : List DSpot) ++ p0.seps) (([] : List Int) ++ p0.tids))
def mI (F:Nat) (p0:DTree) : Option (DTree) :=
 (iter (σ:=(List (Int ⊕ DNode)) × Int) (ρ:=(List (Int ⊕ DNode))) (fun x=>match x with
  | (x1,x2) =>
   bif decide (x2 < (p0.nodes.length:Int)) then
    (idx p0.nodes x2).bind fun e1 =>
    (oN e1).bind fun r2 =>
    (rY 104 (x1.length + 1)).bind fun u1 =>
    some (.inl ((x1 ++ [(Sum.inr r2:Int ⊕ DNode)]),IntKind.i64.wrap (x2 + 1)))
    else
     some (.inr x1)) F ([],0)).bind fun z1 =>
 (qt z1).bind fun l1 =>
 some (DTree.mk p0.root l1)
end Go.Proofs.YtaoocidchclpnaaGreat
