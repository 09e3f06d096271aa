/- Pure functions of group Prune. Conditions: none. -/
import Derived.Test.YtfbpiogbhkgieaaGreatBuildFL
import Derived.Test.YtfbpiogbhkgieaaGreatTreeFL
import Derived.Test.YtfbpiogbhkgieaaGreatTreeOL
import Derived.Test.YtfbpiogbhkgieaaGreatRecL
import Derived.Test.YtfbpiogbhkgieaaGreatShAL
import Derived.Test.YtfbpiogbhkgieaaGreatBuildLL
import Derived.Test.YtfbpiogbhkgieaaGreatTreeLL
import Derived.Test.YtfbpiogbhkgieaaGreatSpoilL
import Derived.Test.YtfbpiogbhkgieaaGreatClearL
import Derived.Test.YtfbpiogbhkgieaaGreatEqLL
import Derived.Test.YtfbpiogbhkgieaaGreatRunFL
namespace Go.Proofs.YtfbpiogbhkgieaaGreat
set_option linter.unusedVariables false
def ni (F:Nat) (p0:DTree) : Option (DTree × Int) :=
 (mL F p0).bind fun r1 =>
 bif (r1.2 != 0) then
  some ((DTree.mk 0 []),r1.2)
 else
  (nC F r1.1).bind fun r3 =>
  (mW (r3.1.nodes.map Sum.inr)).bind fun l1 =>
  some ((DTree.mk r3.1.root l1),r3.2)
end Go.Proofs.YtfbpiogbhkgieaaGreat
namespace Go.Proofs.YtfbpiogbhkgieaaGreat
open IntKind (i64)
set_option maxRecDepth 100000
set_option maxHeartbeats 4000000
set_option linter.unusedVariables false
theorem pJ (F:Nat) (g:DTree) (r:DTree × Int) (b:ni F g=some r) (w:World) (s:Option Addr) (t:Nat) (N:ia (vw w) j9 s t g.nodes) :
 Calls Tryz.prog 11 #[.agg #[.int .i64 g.root,.slice s g.nodes.length t]] w (fun e n=>∃ p:Option Addr × Nat × List DHdr,e = .returned (.tuple #[.agg #[.int .i64 r.1.root,.slice p.1 p.2.2.length p.2.1],.int .i64 r.2])∧p.2.2.length=r.1.nodes.length∧kZ w n [row 55 eHdr p.1 p.2.1 p.2.2,il (TreeTy.mk 28 3 36) p.2.2 (r.1.nodes.map Sum.inr)]):=by
 unfold ni at b;let x:Value:=.agg #[vi g.root,sl s g.nodes t];refine T.iV (l:=[x]) Tryz.func11 rfl rfl rfl ?_;refine T.sr ?_;let A:=[vi g.root,sl s g.nodes t];refine T.gO (W1.np 24 A (fun C=>?_));let v:=[vi 0,sN];refine T.gO (W1.np 24 v (fun y=>(T.k (vi 0) (T.gN (T.sr (T.l x (ldN 1) ?_))))));obtain⟨a,J,b⟩:=ob b;refine T.gO (W1.w1 (vT2 (vSc (oc eElem)) (vSc hO)) a 16 #[x] (fun n m=>nt F g a J n s t (ia.mono N m.view)) ?_);intro u U V Q;obtain⟨Y,Z,rfl,R,S⟩:=po Q
 obtain⟨o,q,rfl,O⟩:=lL R;obtain rfl:=ir _ _ _ S;refine T.k5 (.tuple #[sl o a.1 q,vi a.2]) (sl o a.1 q) (vi a.2) (sl o a.1 q) (vi a.2) (T.gN (T.gR (T.sr (T.k2 (vi a.2) (.bool (a.2 != 0)) (T.gN ?_)))));revert b;refine T.c (fun L b=>?_) (fun L b=>?_);refine T.sr (T.k2 (.agg #[vi 0,sN]) (vi a.2) (T.gO (W1.st 0 v ((box y 24 v)::(box C 24 A)::[]) v (T.k (vi a.2) (T.gN ?_)))));refine T.jj (TreeTy.mk 28 3 36) ?_;refine T.iA 55 eHdr ?_;cases b;refine T.ii rfl ?_
 (repeat first | refine T.ij ?_ | refine T.ig ?_);exact T.jy rfl (rN 2) (rT rfl) fun n m=>⟨(none,0,[]),rfl,rfl,iP (X:=((row 55 eHdr none 0 ([] : List DHdr))::(il (TreeTy.mk 28 3 36) [] [])::[])) (m.u) ⟨iG (fun _ _ _ _ h=>h),iO _ _ _,trivial⟩⟩;refine T.gP (T.sr (T.k (sl o a.1 q) ?_));obtain⟨f,K,b⟩:=ob b
 refine T.gO (W1.jO 36 #[sl o a.1 q] (fun p:Option Addr × Nat × List DHdr=>.tuple #[.agg #[vi f.1.root,sl p.1 p.2.2 p.2.1],vi f.2]) (fun p=>((row 55 eHdr p.1 p.2.1 p.2.2)::(il (TreeTy.mk 28 3 36) p.2.2 (f.1.nodes.map Sum.inr))::[])) (fun p=>p.2.2.length=f.1.nodes.length) (by kernel_rfl) (fun _=>by kernel_rfl) (fun n m=>oN F a.1 f K n o q (ia.mono (ia.mono O (vt (kw _ _) vr)) m.view)) ?_);rintro⟨i,j,d⟩ W;let E:=il (TreeTy.mk 28 3 36) d (f.1.nodes.map Sum.inr);let z:=box C 24 A
 refine T.iH (H':=((row 55 eHdr i j d)::E::(box y 24 v)::z::[])) (by rfl) ?_;refine T.k2 (.agg #[vi f.1.root,sl i d j]) (vi f.2) ?_;let B:=[vi f.1.root,sl i d j];let G:=box y 24 B;refine T.gO (W1.st 2 B ((row 55 eHdr i j d)::E::G::z::[]) B (T.k (vi f.2) (T.gN ?_)));obtain⟨I,D,b⟩:=ob b;refine T.iL 1 (by rfl) (fun P=>?_);have M:d.length=I.length:=by have:=P.len;rwa [jd D,List.length_map] at this
 let H:=il (TreeTy.mk 28 3 36) d (I.map Sum.inr);refine T.iH (H':=((row 55 eHdr i j d)::H::G::z::[])) (by simp +zetaDelta only [sl,jd D]) ?_;cases b;refine T.ii rfl ?_;(repeat first | refine T.ij ?_ | refine T.ig ?_);exact T.jy rfl (rN 2) (rT rfl) fun n m=>⟨(i,j,d),rfl,M,iP (X:=((row 55 eHdr i j d)::H::[])) (m.u) ⟨iG (fun _ _ _ _ h=>h),iO _ _ _,trivial⟩⟩
end Go.Proofs.YtfbpiogbhkgieaaGreat
namespace Go.Proofs.YtfbpiogbhkgieaaGreat
set_option linter.unusedVariables false
def mJ (F:Nat) (p0:(List Int)) : Option (Int) :=
 bif decide ((20:Int) < (p0.length:Int)) then
  some 2
 else
  (iter (σ:=Int) (ρ:=(Unit) ⊕ Int) (fun x1 =>
   bif decide (x1 < (p0.length:Int)) then
    (idx p0 x1).bind fun e1 =>
    bif ((decide (e1 < 0)) || (decide ((2147483647:Int) < e1))) then
     some (.inr (.inr 9))
    else
     some (.inl (IntKind.i64.wrap (x1 + 1)))
    else
     some (.inr (.inl ()))) F 0).bind fun z=>match z with
   | .inl _ =>
    some 0
   | .inr q=>some q
def mI (F:Nat) (p0:DElem) (p1:(List Int)) : Option (Bool) :=
 bif (p0.gone == 0) then
  some true
 else
  (iter (σ:=Int) (ρ:=(Unit) ⊕ Bool) (fun x1 =>
   bif decide (x1 < (p1.length:Int)) then
    (idx p1 x1).bind fun e1 =>
    (nQ p0 e1).bind fun r1 =>
    bif r1 then
     some (.inr (.inr true))
    else
     some (.inl (IntKind.i64.wrap (x1 + 1)))
    else
     some (.inr (.inl ()))) F 0).bind fun z=>match z with
   | .inl _ =>
    some false
   | .inr q=>some q
end Go.Proofs.YtfbpiogbhkgieaaGreat
