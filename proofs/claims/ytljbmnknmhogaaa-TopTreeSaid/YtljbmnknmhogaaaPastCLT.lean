/- The Go functions of group PastC compute its pure functions, where these yield a result. -/
import Derived.Test.YtljbmnknmhogaaaShAT
import Derived.Test.YtljbmnknmhogaaaTreeLT
import Derived.Test.YtljbmnknmhogaaaRunLT
import Derived.Test.YtljbmnknmhogaaaEqsLT
import Derived.Test.YtljbmnknmhogaaaPastCFT
import Derived.Test.YtljbmnknmhogaaaEqLT
namespace Go.Proofs.Ytljbmnknmhogaaa
open IntKind (i64)
set_option maxRecDepth 100000
set_option maxHeartbeats 4000000
set_option linter.unusedVariables false
theorem lu (F:Nat) (d:DTree) (r:Int) (b:kX F d=some r) (w:World) (h:Option Addr) (i:Nat) (t:ib (vw w) ju h i d.nodes) :
 Calls Try.prog 19 #[.agg #[.int .i64 d.root,.slice h d.nodes.length i]] w (jZ (vSc ic) r w):=by
 unfold kX at b;let m:Value:=.agg #[vi d.root,sl h d.nodes i];refine T.i9 (l:=[m]) Try.func19 rfl rfl rfl ?_;refine T.sr ?_;let z:=[vi d.root,sl h d.nodes i];refine T.gZ (W1.np 27 z (fun C=>(T.k (vi 0) (T.gO (T.sr (T.l m (ldN 0) ?_))))));obtain⟨a,p,b⟩:=ob b;refine T.gZ (W1.w1 (vT2 (vSc (lf eElem)) (vSc ic)) a 16 #[m] (fun j e=>ml F d a p j h i (ib.mono t e.view)) ?_);intro u A D n;obtain⟨G,H,rfl,x,y⟩:=kr n;obtain⟨f,g,rfl,v⟩:=ka x;obtain rfl:=il _ _ _ y
 refine T.k5 (.tuple #[sl f a.1 g,vi a.2]) (sl f a.1 g) (vi a.2) (sl f a.1 g) (vi a.2) (T.gO (T.ie (T.sr (T.k2 (vi a.2) (.bool (a.2 != 0)) (T.gO ?_)))));revert b;refine T.c (fun s b=>?_) (fun s b=>?_);refine T.sr (T.k2 (vi a.2) (vi a.2) (T.gO ?_));cases b;refine T.ik rfl ?_;exact T.ir rfl (rT rfl) fun j e=>⟨_,rfl,e.below,(show _ from rfl)⟩;refine T.hJ (T.sr (T.k (sl f a.1 g) ?_));obtain⟨o,q,b⟩:=ob b
 refine T.gZ (W1.w1 (vSc ic) o 27 #[sl f a.1 g] (fun j e=>lh F a.1 o q j f g (ib.mono (ib.mono v (vt (iP _ _) vr)) e.view)) ?_);intro u B E n;obtain rfl:=il _ _ _ n;refine T.k (vi o) (T.gO ?_);cases b;refine T.ik rfl ?_;exact T.ir rfl (rT rfl) fun j e=>⟨_,rfl,e.below,(show _ from rfl)⟩
end Go.Proofs.Ytljbmnknmhogaaa
