/- The Go functions of group Pack compute its pure functions, where these yield a result. -/
import Derived.Test.YtljbmnknmhogaaaShAT
import Derived.Test.YtljbmnknmhogaaaBuildLT
import Derived.Test.YtljbmnknmhogaaaTreeLT
import Derived.Test.YtljbmnknmhogaaaEqsLT
import Derived.Test.YtljbmnknmhogaaaPackFT
import Derived.Test.YtljbmnknmhogaaaEqLT
namespace Go.Proofs.Ytljbmnknmhogaaa
open IntKind (i64)
set_option maxRecDepth 100000
set_option maxHeartbeats 4000000
set_option linter.unusedVariables false
theorem oQ (F:Nat) (d:DTree) (r:DTree × Int) (b:mT F d=some r) (w:World) (i:Option Addr) (j:Nat) (D:ib (vw w) ju i j d.nodes) :
 Calls Try.prog 18 #[.agg #[.int .i64 d.root,.slice i d.nodes.length j]] w (jZ (vT2 (vAg mq) (vSc ic)) r w):=by
 unfold mT at b;let o:Value:=.agg #[vi d.root,sl i d.nodes j];refine T.i9 (l:=[o]) Try.func18 rfl rfl rfl ?_;refine T.sr ?_;let q:=[vi d.root,sl i d.nodes j];refine T.gZ (W1.np 27 q (fun v=>?_));let n:=[vi 0,sN];refine T.gZ (W1.np 27 n (fun x=>(T.k (vi 0) (T.gO (T.sr (T.l o (ldN 1) ?_))))));obtain⟨a,z,b⟩:=ob b;refine T.gZ (W1.w1 (vT2 (vSc (lf eElem)) (vSc ic)) a 16 #[o] (fun m e=>ml F d a z m i j (ib.mono D e.view)) ?_);intro u L O p;obtain⟨Q,R,rfl,H,I⟩:=kr p
 obtain⟨g,h,rfl,E⟩:=ka H;obtain rfl:=il _ _ _ I;refine T.k5 (.tuple #[sl g a.1 h,vi a.2]) (sl g a.1 h) (vi a.2) (sl g a.1 h) (vi a.2) (T.gO (T.ie (T.sr (T.k2 (vi a.2) (.bool (a.2 != 0)) (T.gO ?_)))));revert b;refine T.c (fun B b=>?_) (fun B b=>?_);refine T.sr (T.k2 (.agg #[vi 0,sN]) (vi a.2) (T.gZ (W1.st 0 n ((box x 27 n)::(box v 27 q)::[]) n (T.k (vi a.2) (T.gO ?_)))));cases b;refine T.ik rfl ?_
 exact T.jf rfl (rN 0) (rT rfl) fun m e=>⟨_,rfl,e.below,(vT2.mk (vAg.mk ⟨_,_,rfl,(ib.nil _ _)⟩) (show _ from rfl))⟩;refine T.hJ (T.sr (T.k (sl g a.1 h) ?_));obtain⟨f,A,b⟩:=ob b;refine T.gZ (W1.w1 (vT2 (vAg mq) (vSc ic)) f 40 #[sl g a.1 h] (fun m e=>pG F a.1 f A m g h (ib.mono (ib.mono E (vt (iP _ _) vr)) e.view)) ?_);intro u M P p;obtain⟨S,U,rfl,J,K⟩:=kr p;obtain⟨N,rfl,C⟩:=lE J;obtain⟨t,y,rfl,G⟩:=C;obtain rfl:=il _ _ _ K
 refine T.k2 (.agg #[vi f.1.root,sl t f.1.nodes y]) (vi f.2) ?_;let s:=[vi f.1.root,sl t f.1.nodes y];refine T.gZ (W1.st 0 s ((box x 27 s)::(box v 27 q)::[]) s (T.k (vi f.2) (T.gO ?_)));cases b;refine T.ik rfl ?_;exact T.jf rfl (rN 0) (rT rfl) fun m e=>⟨_,rfl,e.below,(vT2.mk (vAg.mk ⟨_,_,rfl,(ib.mono G (vt (iK vr) (kB e)))⟩) (show _ from rfl))⟩
end Go.Proofs.Ytljbmnknmhogaaa
