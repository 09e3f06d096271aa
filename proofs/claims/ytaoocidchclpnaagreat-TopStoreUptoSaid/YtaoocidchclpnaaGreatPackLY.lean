/- The Go functions of group Pack compute its pure functions, where these yield a result. -/
import Derived.Test.YtaoocidchclpnaaGreatBuildFY
import Derived.Test.YtaoocidchclpnaaGreatTreeFY
import Derived.Test.YtaoocidchclpnaaGreatMapY
import Derived.Test.YtaoocidchclpnaaGreatZY
import Derived.Test.YtaoocidchclpnaaGreatShAY
import Derived.Test.YtaoocidchclpnaaGreatBuildLY
import Derived.Test.YtaoocidchclpnaaGreatTreeLY
import Derived.Test.YtaoocidchclpnaaGreatEqLY
namespace Go.Proofs.YtaoocidchclpnaaGreat
set_option linter.unusedVariables false
def nT (F:Nat) (p0:DTree) : Option (DTree × Int) :=
 (me F p0).bind fun r1 =>
 bif (r1.2 != 0) then
  some ((DTree.mk 0 []),r1.2)
 else
  (pK F r1.1).bind fun r2 =>
  some (r2.1,r2.2)
end Go.Proofs.YtaoocidchclpnaaGreat
namespace Go.Proofs.YtaoocidchclpnaaGreat
open IntKind (i64)
set_option maxRecDepth 100000
set_option maxHeartbeats 4000000
set_option linter.unusedVariables false
theorem qu (F:Nat) (b:DTree) (r:DTree × Int) (a:nT F b=some r) (w:World) (d:Option Addr) (e:Nat) (s:hJ (vw w) iH d e b.nodes) :
 Calls Tryz.prog 46 #[.agg #[.int .i64 b.root,.slice d b.nodes.length e]] w (jB (vT2 (vAg nO) (vSc hO)) r w):=by
 unfold nT at a;refine T.iA (l:=[.agg #[vi b.root,sl d b.nodes e]]) Tryz.func46 rfl rfl rfl ?_;refine au1 ?_;refine T.N1 fun D=>?_;refine T.N1 fun E=>?_;refine au1 ?_;refine oc a fun f n a=>(T.ia (W1.w1 (vT2 (vSc (kU eElem)) (vSc hO)) f 30 #[.agg #[vi b.root,sl d b.nodes e]] (fun i g=>mg F b f n i d e (hJ.mono s g.view)) ?_));intro u B I h;obtain⟨L,M,rfl,v,x⟩:=jc h;obtain⟨j,k,rfl,t⟩:=jO v;obtain rfl:=ic _ _ _ x;refine au2 ?_;revert a
 refine T.c (fun p a=>?_) (fun p a=>?_);refine au1 ?_;cases a;exact il;refine au1 ?_;refine oc a fun m o a=>(T.ia (W1.w1 (vT2 (vAg nO) (vSc hO)) m 76 #[sl j f.1 k] (fun i g=>rx F f.1 m o i j k (hJ.mono (hJ.mono t (io _ _)) g.view)) ?_));intro u C J h;obtain⟨N,O,rfl,y,z⟩:=jc h;obtain⟨H,rfl,q⟩:=jz y;obtain⟨A,G,rfl,K⟩:=q;obtain rfl:=ic _ _ _ z;refine au0 ?_;cases a;exact il
end Go.Proofs.YtaoocidchclpnaaGreat
