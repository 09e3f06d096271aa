/- Pure functions of group Run. Conditions: none. -/
import Derived.Test.YtfbpiogbhkgieaaGreatFindSFL
import Derived.Test.YtfbpiogbhkgieaaGreatCpFL
import Derived.Test.YtfbpiogbhkgieaaGreatFrFL
import Derived.Test.YtfbpiogbhkgieaaGreatTreeOL
import Derived.Test.YtfbpiogbhkgieaaGreatRecL
import Derived.Test.YtfbpiogbhkgieaaGreatShAL
import Derived.Test.YtfbpiogbhkgieaaGreatFindSLL
import Derived.Test.YtfbpiogbhkgieaaGreatCpLL
import Derived.Test.YtfbpiogbhkgieaaGreatFrLL
import Derived.Test.YtfbpiogbhkgieaaGreatAnyLL
import Derived.Test.YtfbpiogbhkgieaaGreatSpoilL
import Derived.Test.YtfbpiogbhkgieaaGreatClearL
import Derived.Test.YtfbpiogbhkgieaaGreatEqLL
import Derived.Test.YtfbpiogbhkgieaaGreatKeyFL
namespace Go.Proofs.YtfbpiogbhkgieaaGreat
set_option linter.unusedVariables false
def lY (F:Nat) (p0:DTree) (p1:DSpot) : Option (DTree × Int) :=
 (nR F p0 p1).bind fun r1 =>
 bif (r1.2 != 0) then
  some ((DTree.mk 0 []),r1.2)
 else
  (kG F p0).bind fun r3 =>
  (kM F r3.root (r3.nodes.map Sum.inr) p1).bind fun r5 =>
  (mW r5.1).bind fun l1 =>
  some ((DTree.mk r5.2 l1),0)
end Go.Proofs.YtfbpiogbhkgieaaGreat
namespace Go.Proofs.YtfbpiogbhkgieaaGreat
open IntKind (i64)
set_option maxRecDepth 100000
set_option maxHeartbeats 4000000
set_option linter.unusedVariables false
theorem lj (F:Nat) (j:DTree) (f:DSpot) (r:DTree × Int) (g:lY F j f=some r) (w:World) (x:Option Addr) (y:Nat) (N:ia (vw w) j9 x y j.nodes) :
 Calls Tryz.prog 7 #[.agg #[.int .i64 j.root,.slice x j.nodes.length y],.agg #[.int .i64 f.key.pfs,.int .i64 f.key.obj,.int .i64 f.key.off,.int .i64 f.made]] w (fun e m=>∃ p:Option Addr × Nat × List DHdr,e = .returned (.tuple #[.agg #[.int .i64 r.1.root,.slice p.1 p.2.2.length p.2.1],.int .i64 r.2])∧p.2.2.length=r.1.nodes.length∧kZ w m [row 55 eHdr p.1 p.2.1 p.2.2,il (TreeTy.mk 28 3 36) p.2.2 (r.1.nodes.map Sum.inr)]):=by
 unfold lY at g;let z:Value:=.agg #[vi j.root,sl x j.nodes y];let A:Value:=.agg #[vi f.key.pfs,vi f.key.obj,vi f.key.off,vi f.made];refine T.iV (l:=[z,A]) Tryz.func7 rfl rfl rfl ?_;refine T.sr ?_;let U:=[vi j.root,sl x j.nodes y];refine T.gO (W1.np 24 U (fun Y=>?_));let V:=[vi f.key.pfs,vi f.key.obj,vi f.key.off,vi f.made];refine T.gO (W1.np 36 V (fun Z=>?_));let D:=[vi 0,sN];refine T.gO (W1.np 24 D (fun L=>(T.k (vi 0) (T.gN (T.gR (T.sr (T.l z (ldN 2) (T.l A (ldN 1) ?_))))))))
 obtain⟨b,ac,g⟩:=ob g;refine T.gO (W1.w1 (vT2 (vAg eElem) (vSc hO)) b 27 #[z,A] (fun m i=>qg F j f b ac m x y (ia.mono N i.view)) ?_);intro u W B hu;obtain rfl:=(lc.t2 mg ir) _ _ _ hu;refine T.k3 (.tuple #[.agg #[vi b.1.key.pfs,vi b.1.key.obj,vi b.1.key.off,vi b.1.made,vi b.1.gone,.string b.1.val],vi b.2]) (.agg #[vi b.1.key.pfs,vi b.1.key.obj,vi b.1.key.off,vi b.1.made,vi b.1.gone,.string b.1.val]) (vi b.2) (T.gO (W1.np 28 [vi 0,vi 0,vi 0,vi 0,vi 0,.string (ByteArray.mk #[])] (fun b4=>?_)))
 let J:=[vi b.1.key.pfs,vi b.1.key.obj,vi b.1.key.off,vi b.1.made,vi b.1.gone,.string b.1.val];let G:=box b4 28 J;let aj:=box L 24 D;let ak:=box Z 36 V;let al:=box Y 24 U;let I:=ak::al::[];let S:=aj::I;let C:=G::S;refine T.gO (W1.st 0 J C J (T.k (vi b.2) (T.gN (T.sr (T.k2 (vi b.2) (.bool (b.2 != 0)) (T.gN ?_))))));revert g;refine T.c (fun af g=>?_) (fun af g=>?_);refine T.sr (T.k2 (.agg #[vi 0,sN]) (vi b.2) (T.gO (W1.st 1 D C D (T.k (vi b.2) (T.gN ?_)))))
 refine T.jj (TreeTy.mk 28 3 36) ?_;refine T.iA 55 eHdr ?_;cases g;refine T.ii rfl ?_;(repeat first | refine T.ij ?_ | refine T.ig ?_);exact T.jy rfl (rN 3) (rT rfl) fun m i=>⟨(none,0,[]),rfl,rfl,iP (X:=((row 55 eHdr none 0 ([] : List DHdr))::(il (TreeTy.mk 28 3 36) [] [])::[])) (i.u) ⟨iG (fun _ _ _ _ h=>h),iO _ _ _,trivial⟩⟩;refine T.gP (T.gR ?_);refine T.jr 4 S (by kernel_rfl) ?_;refine TL.ju (Hp.q vr B) fun R=>?_
 refine TL.tk 0 z [] rfl R (ldN 2) (TL.tk 2 A [] rfl R (ldN 1) (TL.a [1] ⟨?_,trivial⟩));obtain⟨t,ad,g⟩:=ob g;refine TL.br rfl (W1.jO 24 #[z] (fun p:Option Addr × Nat × List DHdr=>.agg #[vi t.root,sl p.1 p.2.2 p.2.1]) (fun p=>((row 55 eHdr p.1 p.2.1 p.2.2)::(il (TreeTy.mk 28 3 36) p.2.2 (t.nodes.map Sum.inr))::[])) (fun p=>p.2.2.length=t.nodes.length) (by kernel_rfl) (fun _=>by kernel_rfl) (fun m i=>kB F j t ad m x y (ia.mono (ia.mono N B) i.view)) ?_);rintro⟨o,s,E⟩ an
 refine T.iH (H':=((row 55 eHdr o s E)::(il (TreeTy.mk 28 3 36) E (t.nodes.map Sum.inr))::C)) (by rfl) ?_;refine TL.on (Hp.q vr B) (TL.a [3] ⟨?_,trivial⟩);obtain⟨H,ae,g⟩:=ob g;refine TL.br rfl (W1.cj (fun m i=>li F t.root (t.nodes.map Sum.inr) f H ae w o s E W C m (i.u)) ?_);rintro v m ⟨n,V2,ab,rfl,i⟩;refine⟨_,_,i,?_⟩;clear i;refine TL.on (Hp.q ab B) (TL.a [4] ⟨?_,trivial⟩);let K:=[vi H.2,sl o n s];let O:=box L 24 K
 refine TL.br rfl (W1.st 3 K ((row 55 eHdr o s n)::(il (TreeTy.mk 28 3 36) n H.1)::G::O::I) K ?_);refine TL.jp (by kernel_rfl) ?_;refine TL.j4 5 (vi 0) rfl (by kernel_rfl) (by kernel_rfl) (by kernel_rfl) (fun _ _ _ h=>h) (by kernel_rfl) (by kernel_rfl) (by kernel_rfl) (fun _=>by kernel_rfl) ?_;refine TL.d ?_;obtain⟨Q,M,g⟩:=ob g;refine T.iL 1 (by rfl) (fun ah=>?_);have ag:n.length=Q.length:=by have:=ah.len;rwa [jd M,List.length_map] at this
 let P:=il (TreeTy.mk 28 3 36) n (Q.map Sum.inr);refine T.iH (H':=((row 55 eHdr o s n)::P::G::O::I)) (by simp +zetaDelta only [sl,jd M]) ?_;cases g;refine T.ii rfl ?_;(repeat first | refine T.ij ?_ | refine T.ig ?_);exact T.jy rfl (rN 3) (rT rfl) fun m i=>⟨(o,s,n),rfl,ag,iP (X:=((row 55 eHdr o s n)::P::[])) (i.u) ⟨iG (fun _ _ _ _ h=>h),iO _ _ _,trivial⟩⟩
end Go.Proofs.YtfbpiogbhkgieaaGreat
namespace Go.Proofs.YtfbpiogbhkgieaaGreat
set_option linter.unusedVariables false
def nY (F:Nat) (p0:(List DElem)) : Option (Int) :=
 bif decide ((400:Int) < (p0.length:Int)) then
  some 2
 else
  (iter (σ:=Int) (ρ:=(Unit) ⊕ Int) (fun x1 =>
   bif decide (x1 < (p0.length:Int)) then
    (
     (idx p0 x1).bind fun e1 =>
      (kz e1).bind fun r1 =>
      bif (r1 != 0) then
       some (.inr (.inr (.inr r1)))
      else
       bif (x1 == 0) then
        some (.inl ())
       else
        (idx p0 (IntKind.i64.wrap (x1 - 1))).bind fun e2 =>
        (
         (jb e2).bind fun r2 =>
          (jb e1).bind fun r3 =>
          (jt r2 r3).bind fun r4 =>
          bif decide ((0:Int)≤r4) then
           some true
          else
           bif (e2.key == e1.key) then
            bif (e2.gone == 0) then
             some true
            else
             some (decide (e1.made < e2.gone))
           else
            some false:Option (Bool)).bind fun z1 =>
        bif z1 then
         some (.inr (.inr (.inr 3)))
        else
         some (.inl ()) : Option ((Unit) ⊕ ((Int) ⊕ ((Unit) ⊕ Int)))).bind fun z=>match z with
     | .inl _ =>
      some (.inl (IntKind.i64.wrap (x1 + 1)))
     | .inr q=>some q
    else
     some (.inr (.inl ()))) F 0).bind fun z=>match z with
   | .inl _ =>
    some 0
   | .inr q=>some q
end Go.Proofs.YtfbpiogbhkgieaaGreat
