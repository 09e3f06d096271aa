/- The Go functions of group GrowI compute its pure functions, where these yield a result. -/
import Derived.Test.YtfbpiogbhkgieaaGreatLookFL
import Derived.Test.YtfbpiogbhkgieaaGreatCpFL
import Derived.Test.YtfbpiogbhkgieaaGreatFrFL
import Derived.Test.YtfbpiogbhkgieaaGreatTreeOL
import Derived.Test.YtfbpiogbhkgieaaGreatRecL
import Derived.Test.YtfbpiogbhkgieaaGreatShAL
import Derived.Test.YtfbpiogbhkgieaaGreatLookLL
import Derived.Test.YtfbpiogbhkgieaaGreatCpLL
import Derived.Test.YtfbpiogbhkgieaaGreatFrLL
import Derived.Test.YtfbpiogbhkgieaaGreatSpoilL
import Derived.Test.YtfbpiogbhkgieaaGreatClearL
import Derived.Test.YtfbpiogbhkgieaaGreatEqLL
namespace Go.Proofs.YtfbpiogbhkgieaaGreat
set_option linter.unusedVariables false
def mE (F:Nat) (p0:DTree) (p1:DElem) : Option (DTree × Int) :=
 (mQ F p0 p1).bind fun r1 =>
 bif (r1.2.2 != 0) then
  some ((DTree.mk 0 []),r1.2.2)
 else
  bif r1.2.1 then
   some ((DTree.mk 0 []),5)
  else
   bif decide ((400:Int)≤r1.1) then
    some ((DTree.mk 0 []),8)
   else
    (kG F p0).bind fun r5 =>
    (km F r5.root (r5.nodes.map Sum.inr) p1).bind fun r7 =>
    (mW r7.2).bind fun l1 =>
    some ((DTree.mk r7.1 l1),0)
end Go.Proofs.YtfbpiogbhkgieaaGreat
namespace Go.Proofs.YtfbpiogbhkgieaaGreat
open IntKind (i64)
set_option maxRecDepth 100000
set_option maxHeartbeats 4000000
set_option linter.unusedVariables false
theorem pu (F:Nat) (j:DTree) (b:DElem) (r:DTree × Int) (a:mE F j b=some r) (w:World) (q:Option Addr) (t:Nat) (N:ia (vw w) j9 q t j.nodes) :
 Calls Tryz.prog 5 #[.agg #[.int .i64 j.root,.slice q j.nodes.length t],.agg #[.int .i64 b.key.pfs,.int .i64 b.key.obj,.int .i64 b.key.off,.int .i64 b.made,.int .i64 b.gone,.string b.val]] w (fun e g=>∃ p:Option Addr × Nat × List DHdr,e = .returned (.tuple #[.agg #[.int .i64 r.1.root,.slice p.1 p.2.2.length p.2.1],.int .i64 r.2])∧p.2.2.length=r.1.nodes.length∧kZ w g [row 55 eHdr p.1 p.2.1 p.2.2,il (TreeTy.mk 28 3 36) p.2.2 (r.1.nodes.map Sum.inr)]):=by
 unfold mE at a;let y:Value:=.agg #[vi j.root,sl q j.nodes t];let E:Value:=.agg #[vi b.key.pfs,vi b.key.obj,vi b.key.off,vi b.made,vi b.gone,.string b.val];refine T.iV (l:=[y,E]) Tryz.func5 rfl rfl rfl ?_;refine T.sr ?_;let C:=[vi j.root,sl q j.nodes t];refine T.gO (W1.np 24 C (fun G=>?_));let B:=[vi b.key.pfs,vi b.key.obj,vi b.key.off,vi b.made,vi b.gone,.string b.val];refine T.gO (W1.np 28 B (fun H=>?_));let i:=[vi 0,sN]
 refine T.gO (W1.np 24 i (fun z=>(T.k (vi 0) (T.gN (T.sr (T.l y (ldN 2) (T.l E (ldN 1) ?_)))))));obtain⟨d,W,a⟩:=ob a;refine T.gO (W1.w1 (vT3 (vSc hO) (vSc eBool) (vSc hO)) d 23 #[y,E] (fun g f=>oe F j b d W g q t (ia.mono N f.view)) ?_);intro u U V hu;obtain rfl:=(lc.t3 ir jS ir) _ _ _ hu
 refine T.k7 (.tuple #[vi d.1,.bool d.2.1,vi d.2.2]) (vi d.1) (.bool d.2.1) (vi d.2.2) (vi d.1) (.bool d.2.1) (vi d.2.2) (T.gN (T.gR (T.ic (T.sr (T.k3 (vi d.2.2) (.bool (d.2.2 != 0)) (.bool (d.2.2 != 0)) (T.gN ?_))))));revert a;refine T.c (fun aa a=>?_) (fun aa a=>?_);refine T.sr (T.k2 (.agg #[vi 0,sN]) (vi d.2.2) (T.gO (W1.st 0 i ((box z 24 i)::(box H 28 B)::(box G 24 C)::[]) i (T.k (vi d.2.2) (T.gN ?_)))));refine T.jj (TreeTy.mk 28 3 36) ?_;refine T.iA 55 eHdr ?_;cases a;refine T.ii rfl ?_
 (repeat first | refine T.ij ?_ | refine T.ig ?_);exact T.jy rfl (rN 2) (rT rfl) fun g f=>⟨(none,0,[]),rfl,rfl,iP (X:=((row 55 eHdr none 0 ([] : List DHdr))::(il (TreeTy.mk 28 3 36) [] [])::[])) (f.u) ⟨iG (fun _ _ _ _ h=>h),iO _ _ _,trivial⟩⟩;refine T.sr (T.k2 (.bool d.2.1) (.bool d.2.1) (T.gN ?_));revert a;refine T.c (fun ab a=>?_) (fun ab a=>?_);refine T.sr (T.k (.agg #[vi 0,sN]) (T.gO (W1.st 0 i ((box z 24 i)::(box H 28 B)::(box G 24 C)::[]) i (T.k (vi 5) (T.gN ?_)))))
 refine T.jj (TreeTy.mk 28 3 36) ?_;refine T.iA 55 eHdr ?_;cases a;refine T.ii rfl ?_;(repeat first | refine T.ij ?_ | refine T.ig ?_);exact T.jy rfl (rN 2) (rT rfl) fun g f=>⟨(none,0,[]),rfl,rfl,iP (X:=((row 55 eHdr none 0 ([] : List DHdr))::(il (TreeTy.mk 28 3 36) [] [])::[])) (f.u) ⟨iG (fun _ _ _ _ h=>h),iO _ _ _,trivial⟩⟩;refine T.sr (T.k3 (vi d.1) (.bool (decide ((400:Int)≤d.1))) (.bool (decide ((400:Int)≤d.1))) (T.gN ?_));revert a;refine T.c (fun ac a=>?_) (fun ac a=>?_)
 refine T.sr (T.k (.agg #[vi 0,sN]) (T.gO (W1.st 0 i ((box z 24 i)::(box H 28 B)::(box G 24 C)::[]) i (T.k (vi 8) (T.gN ?_)))));refine T.jj (TreeTy.mk 28 3 36) ?_;refine T.iA 55 eHdr ?_;cases a;refine T.ii rfl ?_;(repeat first | refine T.ij ?_ | refine T.ig ?_);exact T.jy rfl (rN 2) (rT rfl) fun g f=>⟨(none,0,[]),rfl,rfl,iP (X:=((row 55 eHdr none 0 ([] : List DHdr))::(il (TreeTy.mk 28 3 36) [] [])::[])) (f.u) ⟨iG (fun _ _ _ _ h=>h),iO _ _ _,trivial⟩⟩;refine T.gP (T.sr (T.l y (ldN 2) ?_))
 obtain⟨n,Y,a⟩:=ob a;refine T.gO (W1.jO 24 #[y] (fun p:Option Addr × Nat × List DHdr=>.agg #[vi n.root,sl p.1 p.2.2 p.2.1]) (fun p=>((row 55 eHdr p.1 p.2.1 p.2.2)::(il (TreeTy.mk 28 3 36) p.2.2 (n.nodes.map Sum.inr))::[])) (fun p=>p.2.2.length=n.nodes.length) (by kernel_rfl) (fun _=>by kernel_rfl) (fun g f=>kB F j n Y g q t (ia.mono (ia.mono N V) f.view)) ?_);rintro⟨D,I,A⟩ al;let ag:=box z 24 i;let ah:=box H 28 B;let ai:=box G 24 C;let L:=ah::ai::[];let S:=ag::L
 refine T.iH (H':=((row 55 eHdr D I A)::(il (TreeTy.mk 28 3 36) A (n.nodes.map Sum.inr))::S)) (by rfl) ?_;refine T.k (.agg #[vi n.root,sl D A I]) (T.gO (W1.np 64 [vi n.root,sl D A I] (fun o=>(T.k (pB o 0) (T.gN (T.gR ?_))))));refine T.iL 2 (by rfl) (fun am=>?_);refine T.gQ (T.k (pB o 0) (T.l E (ldN 4) ?_));obtain⟨J,Z,a⟩:=ob a;refine T.gO (W1.cj (fun g f=>lg F n.root (n.nodes.map Sum.inr) b J Z w o D I A U S g (f.u)) ?_);rintro v g ⟨m,s,x,V2,ak,rfl,f⟩;refine⟨_,_,f,?_⟩;clear f
 refine T.gN (T.sr (T.k3 (pB o 0) (pB o 0) (pB o 0) ?_));let K:=[vi J.1,sl s m x];refine T.l (.agg #[vi J.1,sl s m x]) (ldN 0) ?_;let O:=box o 64 K;let P:=box z 24 K;refine T.gO (W1.st 3 K (O::(row 55 eHdr s x m)::(il (TreeTy.mk 28 3 36) m J.2)::P::L) K (T.k (vi 0) (T.gN ?_)));obtain⟨R,M,a⟩:=ob a;refine T.iL 2 (by rfl) (fun ae=>?_);have ad:m.length=R.length:=by have:=ae.len;rwa [jd M,List.length_map] at this
 let Q:=il (TreeTy.mk 28 3 36) m (R.map Sum.inr);refine T.iH (H':=(O::(row 55 eHdr s x m)::Q::P::L)) (by simp +zetaDelta only [sl,jd M]) ?_;cases a;refine T.ii rfl ?_;(repeat first | refine T.ij ?_ | refine T.ig ?_);exact T.jy rfl (rN 3) (rT rfl) fun g f=>⟨(s,x,m),rfl,ad,iP (X:=((row 55 eHdr s x m)::Q::[])) (f.u) ⟨iG (fun _ _ _ _ h=>h),iO _ _ _,trivial⟩⟩
end Go.Proofs.YtfbpiogbhkgieaaGreat
