/- The Go functions of group WrC compute its pure functions, where these yield a result. -/
import Derived.Test.YtaoocidchclpnaaGreatWrHFY
import Derived.Test.YtaoocidchclpnaaGreatFrFY
import Derived.Test.YtaoocidchclpnaaGreatTreeOY
import Derived.Test.YtaoocidchclpnaaGreatMapY
import Derived.Test.YtaoocidchclpnaaGreatZY
import Derived.Test.YtaoocidchclpnaaGreatShAY
import Derived.Test.YtaoocidchclpnaaGreatWrHLY
import Derived.Test.YtaoocidchclpnaaGreatFrLY
import Derived.Test.YtaoocidchclpnaaGreatAnyLY
import Derived.Test.YtaoocidchclpnaaGreatEqLY
open Sum renaming inr→a_
namespace Go.Proofs.YtaoocidchclpnaaGreat
set_option linter.unusedVariables false
def oU (F:Nat) (p0:DTree) (p1:DKey) (p2:Int) : Option (DTree × Int) :=
 (lr F p0).bind fun r1 =>
 bif (r1 != 0) then
  some ((DTree.mk 0 []),r1)
 else
  (nF p1).bind fun r2 =>
  bif (r2 != 0) then
   some ((DTree.mk 0 []),r2)
  else
   (mU F p0 p2).bind fun r3 =>
   bif r3 then
    some ((DTree.mk 0 []),9)
   else
    (nL F p0 p1).bind fun r4 =>
    bif (!r4.2) then
     some ((DTree.mk 0 []),4)
    else
     bif (r4.1.made == p2) then
      (mI F p0).bind fun r5 =>
      (jf r4.1).bind fun r7 =>
      (mw F r5.root (r5.nodes.map a_) r7).bind fun r8 =>
      (qt r8.1).bind fun l1 =>
      some ((DTree.mk r8.2 l1),0)
     else
      (mI F p0).bind fun r9 =>
      (jL F r9.root (r9.nodes.map a_) r9.root (DElem.mk r4.1.key r4.1.made p2 r4.1.val)).bind fun r11 =>
      (qt r11).bind fun l2 =>
      some ((DTree.mk r9.root l2),0)
end Go.Proofs.YtaoocidchclpnaaGreat
namespace Go.Proofs.YtaoocidchclpnaaGreat
open IntKind (i64)
set_option maxRecDepth 100000
set_option maxHeartbeats 4000000
set_option linter.unusedVariables false
theorem rk (F:Nat) (i:DTree) (j:DKey) (B:Int) (r:DTree × Int) (b:oU F i j B=some r) (w:World) (m:Option Addr) (n:Nat) (H:hJ (vw w) iH m n i.nodes) :
 Calls Tryz.prog 23 #[.agg #[.int .i64 i.root,.slice m i.nodes.length n],.agg #[.int .i64 j.pfs,.int .i64 j.obj,.int .i64 j.off],.int .i64 B] w (jB (vT2 (vAg nO) (vSc hO)) r w):=by
 unfold oU at b;let D:Value:=.agg #[vi i.root,sl m i.nodes n];let V:Value:=.agg #[vi j.pfs,vi j.obj,vi j.off];refine T.iA (l:=[D,V,vi B]) Tryz.func23 rfl rfl rfl ?_;refine au1 ?_;refine T.N1 fun b1=>?_;refine T.N1 fun b2=>?_;refine T.N1 fun G=>?_;refine au2 ?_;refine oc b fun r1 aB b=>(T.ia (W1.w1 (vSc hO) r1 28 #[D] (fun g f=>lK F i r1 aB g m n (hJ.mono H f.view)) ?_));intro u V1 N t;obtain rfl:=ic _ _ _ t;refine au1 ?_;revert b;refine T.c (fun aM b=>?_) (fun aM b=>?_);refine au1 ?_
 cases b;exact il;refine au2 ?_;refine oc b fun r2 aE b=>(T.ia (W1.w1 (vSc hO) r2 53 #[V] (fun g f=>pc j r2 aE g) ?_));intro u V2 O t;obtain rfl:=ic _ _ _ t;refine au1 ?_;revert b;refine T.c (fun aN b=>?_) (fun aN b=>?_);refine au1 ?_;cases b;exact il;refine au2 ?_;refine oc b fun r3 aF b=>(T.ia (W1.w1 (vSc eBool) r3 47 #[D,vi B] (fun g f=>oG F i B r3 aF g m n (hJ.mono (hJ.mono H (vt N O)) f.view)) ?_));intro u V3 Y t;obtain rfl:=lg _ _ _ t;refine au0 ?_;revert b
 refine T.c (fun aO b=>?_) (fun aO b=>?_);refine au1 ?_;cases b;exact il;refine au1 ?_;refine oc b fun e aG b=>(T.ia (W1.w1 (vT2 (vAg eElem) (vSc eBool)) e 48 #[D,V] (fun g f=>pm F i j e aG g m n (hJ.mono (hJ.mono H (vt (vt N O) Y)) f.view)) ?_));intro u V4 ai t;obtain rfl:=(jV.t2 oD lg) _ _ _ t;refine au0 ?_;refine T.N1 fun X=>?_;refine au2 ?_;revert b;refine T.c (fun aP b=>?_) (fun aP b=>?_);refine au1 ?_;cases b;exact il;refine au2 ?_;revert b;refine T.c (fun aQ b=>?_) (fun aQ b=>?_)
 refine T.ik ?_;let aY:=[vi e.1.key.pfs,vi e.1.key.obj,vi e.1.key.off,vi e.1.made,vi e.1.gone,.string e.1.val];let R:=box X 52 aY;let am:=box G 56 [vi 0,sN];let aZ:=[vi i.root,sl m i.nodes n];let an:=box b1 56 aZ;refine T.jE 5 (R::am::an::[]) k_ ?_;have M:=vt (vt (vt N O) Y) ai;refine TL.jF (Hp.q vr M) fun ao=>?_;refine TL.tk 0 D [] rfl ao (ldN 2) ?_;let af:Value:=.agg #[vi e.1.key.pfs,vi e.1.key.obj,vi e.1.key.off,vi e.1.made,vi e.1.gone,.string e.1.val]
 refine TL.tk 2 af [] rfl ao (ldN 0) (TL.a [1] ⟨?_,trivial⟩);refine oc b fun C aH b=>(TL.br rfl (W1.ol 49 #[D] (fun p:Option Addr × Nat × List DHdr=>.agg #[vi C.root,sl p.1 p.2.2 p.2.1]) (fun p=>((row 64 eHdr p.1 p.2.1 p.2.2)::(iz (TreeTy.mk 52 3 96) p.2.2 (C.nodes.map a_))::[])) (fun p=>p.2.2.length=C.nodes.length) k_ (fun _=>k_) (fun g f=>nq F i C aH g m n (hJ.mono (hJ.mono H M) f.view)) ?_));rintro⟨x,z,Q⟩ bb;let aT:=box b2 31 [vi j.pfs,vi j.obj,vi j.off]
 let ad:=aT::an::[];let aW:=am::ad;let av:=R::aW;refine T.iV (H':=((row 64 eHdr x z Q)::(iz (TreeTy.mk 52 3 96) Q (C.nodes.map a_))::av)) b_ ?_;refine TL.on (Hp.q vr M) (TL.a [3] ⟨?_,trivial⟩);refine oc b fun r7 aI b=>(TL.br rfl (W1.w1 (vAg eSpot) r7 55 #[af] (fun g f=>iM e.1 r7 aI g) ?_));intro u V5 aj t;obtain rfl:=jr _ _ _ t;refine TL.on (Hp.q aj M) (TL.a [4] ⟨?_,trivial⟩)
 refine oc b fun L aJ b=>(TL.br rfl (W1.cj (fun g f=>pr F C.root (C.nodes.map a_) r7 L aJ w x z Q V5 av g (f.u)) ?_));rintro v g ⟨I,V6,aA,rfl,f⟩;refine⟨_,_,f,?_⟩;clear f;refine TL.on (Hp.q (vt aj aA) M) (TL.a [5] ⟨?_,trivial⟩);let ae:=[vi L.2,sl x I z];let aU:=box G 56 ae;let aX:=aU::ad;let ac:=R::aX;refine TL.br rfl (W1.st 3 ae ((row 64 eHdr x z I)::(iz (TreeTy.mk 52 3 96) I L.1)::ac) ae ?_);refine TL.jG k_ ?_
 refine TL.kY 6 (vi 0) rfl k_ k_ k_ (fun _ _ _ h=>h) k_ k_ k_ (fun _=>k_) ?_;refine TL.d ?_;refine oc b fun S aK b=>?_;refine T.iV (H':=((row 64 eHdr x z I)::(iz (TreeTy.mk 52 3 96) I (S.map a_))::ac)) (by simp +zetaDelta only [sl,lj aK]) ?_;refine T.lD (ty:=(TreeTy.mk 52 3 96)) (tn:=64) (l:=S) (H':=ac) pz (fun V7 a8 bd Z=>?_);refine T.ii 43 (.agg #[vi C.root,sl x Q z]) rfl (by first | rfl | simp +zetaDelta only [sl,Z]) ?_
 refine T.ii 46 (.agg #[vi L.2,sl x S z]) rfl (by first | rfl | simp +zetaDelta only [sl,Z]) ?_;refine T.iV (H':=(R::(box G 56 [vi L.2,sl x S z])::ad)) (by first | rfl | simp +zetaDelta only [sl,Z]) ?_;cases b;exact il;refine au1 ?_;refine oc b fun k aL b=>?_;have aw:=vt (vt (vt N O) Y) ai
 refine T.ia (W1.ol 49 #[D] (fun p:Option Addr × Nat × List DHdr=>.agg #[vi k.root,sl p.1 p.2.2 p.2.1]) (fun p=>((row 64 eHdr p.1 p.2.1 p.2.2)::(iz (TreeTy.mk 52 3 96) p.2.2 (k.nodes.map a_))::[])) (fun p=>p.2.2.length=k.nodes.length) k_ (fun _=>k_) (fun g f=>nq F i k aL g m n (hJ.mono (hJ.mono H aw) f.view)) ?_);rintro⟨o,s,A⟩ bc;let ak:=box G 56 [vi 0,sN];let aR:=box b2 31 [vi j.pfs,vi j.obj,vi j.off];let aS:=box b1 56 [vi i.root,sl m i.nodes n];let U:=aR::aS::[]
 let au:=ak::U;refine T.iV (H':=((row 64 eHdr o s A)::(iz (TreeTy.mk 52 3 96) A (k.nodes.map a_))::(box X 52 [vi e.1.key.pfs,vi e.1.key.obj,vi e.1.key.off,vi e.1.made,vi e.1.gone,.string e.1.val])::au)) b_ ?_;refine au0 ?_;refine T.N1 fun y=>?_;refine au1 ?_;refine T.ik ?_;refine T.jd 2 b_ (fun bf=>?_);let aa:=box y 109 [vi k.root,sl o A s];let a0:=[vi e.1.key.pfs,vi e.1.key.obj,vi e.1.key.off,vi e.1.made,vi B,.string e.1.val];let J:=box X 52 a0
 refine T.jE 7 (aa::(row 64 eHdr o s A)::J::ak::[]) k_ ?_;refine TL.jF (Hp.q vr aw) fun E=>?_;refine TL.tv 0 (pB y 0) rfl E (TL.tv 1 (pB y 0) rfl E (TL.tv 2 (pB y 0) rfl E (TL.tv 3 (pB y 0) rfl E (TL.tv 4 (pB y 0) rfl E (TL.tk 5 (vi k.root) [] rfl E (ld1 0) ?_)))));let az:Value:=.agg #[vi e.1.key.pfs,vi e.1.key.obj,vi e.1.key.off,vi e.1.made,vi B,.string e.1.val];refine TL.tk 6 az [] rfl E (ldN 2) (TL.a [7] ⟨?_,trivial⟩)
 refine oc b fun aV aC b=>(TL.br rfl (W1.cj (fun g f=>kf F k.root (k.nodes.map a_) k.root (DElem.mk e.1.key e.1.made B e.1.val) aV aC w y o s A V4 (J::au) g (f.u)) ?_));rintro v g ⟨V8,a9,rfl,f⟩;refine⟨_,_,f,?_⟩;clear f;refine TL.jG k_ ?_;refine TL.d ?_;refine au1 ?_;refine oc b fun K aD b=>?_;let al:=box G 56 [vi k.root,sl o A s]
 refine T.iV (H':=(aa::(row 64 eHdr o s A)::(iz (TreeTy.mk 52 3 96) A (K.map a_))::J::al::U)) (by simp +zetaDelta only [sl,lj aD]) ?_;refine T.lD (ty:=(TreeTy.mk 52 3 96)) (tn:=64) (l:=K) (H':=(aa::J::al::U)) (pt sw0 (pc1 (pt sw0 pz))) (fun V9 ba be P=>?_);let W:Value:=.agg #[vi k.root,sl o K s];refine T.ii 48 W rfl (by first | rfl | simp +zetaDelta only [sl,P]) ?_;refine T.ii 49 W rfl (by first | rfl | simp +zetaDelta only [sl,P]) ?_
 refine T.ii 64 W rfl (by first | rfl | simp +zetaDelta only [sl,P]) ?_;refine T.iV (H':=((box y 109 [vi k.root,sl o K s])::J::(box G 56 [vi k.root,sl o K s])::U)) (by first | rfl | simp +zetaDelta only [sl,P]) ?_;cases b;exact il
end Go.Proofs.YtaoocidchclpnaaGreat
