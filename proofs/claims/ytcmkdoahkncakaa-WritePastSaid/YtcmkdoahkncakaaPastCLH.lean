/- The Go functions of group PastC compute its pure functions, where these yield a result. -/
import Derived.Test.YtcmkdoahkncakaaShAH
import Derived.Test.YtcmkdoahkncakaaTreeLH
import Derived.Test.YtcmkdoahkncakaaRunLH
import Derived.Test.YtcmkdoahkncakaaPastCFH
import Derived.Test.YtcmkdoahkncakaaEqLH
namespace Go.Proofs.Ytcmkdoahkncakaa
open IntKind (i64)
set_option maxRecDepth 100000
set_option maxHeartbeats 4000000
set_option linter.unusedVariables false
theorem yW (F:Nat) (d:DTree) (r:Int) (b:yC F d=some r) (w:World) (h:Option Addr) (i:Nat) (t:vc (vw w) wY h i d.nodes) :
 Calls Try.prog 53 #[.agg #[.int .i64 d.root,.slice h d.nodes.length i]] w (xF (vSc va) r w):=by
 unfold yC at b;let m:Value:=.agg #[vi d.root,sl h d.nodes i];refine T.wC (l:=[m]) Try.func53 rfl rfl rfl ?_;refine T.sr ?_;let z:=[vi d.root,sl h d.nodes i];refine T.uY (W1.np 24 z (fun C=>(T.k (vi 0) (T.uX (T.sr (T.l m (ldN 0) ?_))))));obtain⟨a,p,b⟩:=ob b;refine T.uY (W1.w1 (vT2 (vSc (yF eElem)) (vSc va)) a 17 #[m] (fun j e=>yE F d a p j h i (vc.mono t e.view)) ?_);intro u A D n;obtain⟨G,H,rfl,x,y⟩:=xA n;obtain⟨f,g,rfl,v⟩:=xE x;obtain rfl:=vE _ _ _ y
 refine T.k5 (.tuple #[sl f a.1 g,vi a.2]) (sl f a.1 g) (vi a.2) (sl f a.1 g) (vi a.2) (T.uX (T.vd (T.sr (T.k2 (vi a.2) (.bool (a.2 != 0)) (T.uX ?_)))));revert b;refine T.c (fun s b=>?_) (fun s b=>?_);refine T.sr (T.k2 (vi a.2) (vi a.2) (T.uX ?_));cases b;refine T.vD rfl ?_;exact T.vH rfl (rT rfl) fun j e=>⟨_,rfl,e.below,(show _ from rfl)⟩;refine T.uZ (T.sr (T.k (sl f a.1 g) ?_));obtain⟨o,q,b⟩:=ob b
 refine T.uY (W1.w1 (vSc va) o 35 #[sl f a.1 g] (fun j e=>yJ F a.1 o q j f g (vc.mono (vc.mono v (vt (wd _ _) vr)) e.view)) ?_);intro u B E n;obtain rfl:=vE _ _ _ n;refine T.k (vi o) (T.uX ?_);cases b;refine T.vD rfl ?_;exact T.vH rfl (rT rfl) fun j e=>⟨_,rfl,e.below,(show _ from rfl)⟩
end Go.Proofs.Ytcmkdoahkncakaa
