/- Pure functions of group FindS. Conditions: none. -/
import Derived.Test.YtfbpiogbhkgieaaGreatLookFL
import Derived.Test.YtfbpiogbhkgieaaGreatCpFL
import Derived.Test.YtfbpiogbhkgieaaGreatFrFL
import Derived.Test.YtfbpiogbhkgieaaGreatTreeOL
import Derived.Test.YtfbpiogbhkgieaaGreatRecL
import Derived.Test.YtfbpiogbhkgieaaGreatShAL
import Derived.Test.YtfbpiogbhkgieaaGreatLookLL
import Derived.Test.YtfbpiogbhkgieaaGreatCpLL
import Derived.Test.YtfbpiogbhkgieaaGreatFrLL
import Derived.Test.YtfbpiogbhkgieaaGreatAnyLL
import Derived.Test.YtfbpiogbhkgieaaGreatSpoilL
import Derived.Test.YtfbpiogbhkgieaaGreatClearL
import Derived.Test.YtfbpiogbhkgieaaGreatEqLL
import Derived.Test.YtfbpiogbhkgieaaGreatTreeFL
import Derived.Test.YtfbpiogbhkgieaaGreatRangeL
namespace Go.Proofs.YtfbpiogbhkgieaaGreat
set_option linter.unusedVariables false
def oU (F:Nat) (p0:DTree) (p1:DElem) : Option (DTree × Int) :=
 (mQ F p0 p1).bind fun r1 =>
 bif (r1.2.2 != 0) then
  some ((DTree.mk 0 []),r1.2.2)
 else
  bif (!r1.2.1) then
   some ((DTree.mk 0 []),4)
  else
   (kG F p0).bind fun r4 =>
   (jC F r4.root (r4.nodes.map Sum.inr) r4.root p1).bind fun r6 =>
   (mW r6).bind fun l1 =>
   some ((DTree.mk r4.root l1),0)
end Go.Proofs.YtfbpiogbhkgieaaGreat
namespace Go.Proofs.YtfbpiogbhkgieaaGreat
open IntKind (i64)
set_option maxRecDepth 100000
set_option maxHeartbeats 4000000
set_option linter.unusedVariables false
theorem qF (F:Nat) (x:DTree) (b:DElem) (r:DTree × Int) (g:oU F x b=some r) (w:World) (A:Option Addr) (B:Nat) (P:ia (vw w) j9 A B x.nodes) :
 Calls Tryz.prog 6 #[.agg #[.int .i64 x.root,.slice A x.nodes.length B],.agg #[.int .i64 b.key.pfs,.int .i64 b.key.obj,.int .i64 b.key.off,.int .i64 b.made,.int .i64 b.gone,.string b.val]] w (fun e o=>∃ p:Option Addr × Nat × List DHdr,e = .returned (.tuple #[.agg #[.int .i64 r.1.root,.slice p.1 p.2.2.length p.2.1],.int .i64 r.2])∧p.2.2.length=r.1.nodes.length∧kZ w o [row 55 eHdr p.1 p.2.1 p.2.2,il (TreeTy.mk 28 3 36) p.2.2 (r.1.nodes.map Sum.inr)]):=by
 unfold oU at g;let C:Value:=.agg #[vi x.root,sl A x.nodes B];let E:Value:=.agg #[vi b.key.pfs,vi b.key.obj,vi b.key.off,vi b.made,vi b.gone,.string b.val];refine T.iV (l:=[C,E]) Tryz.func6 rfl rfl rfl ?_;refine T.sr ?_;let H:=[vi x.root,sl A x.nodes B];refine T.gO (W1.np 24 H (fun J=>?_));let I:=[vi b.key.pfs,vi b.key.obj,vi b.key.off,vi b.made,vi b.gone,.string b.val];refine T.gO (W1.np 28 I (fun K=>?_));let y:=[vi 0,sN]
 refine T.gO (W1.np 24 y (fun G=>(T.k (vi 0) (T.gN (T.sr (T.l C (ldN 2) (T.l E (ldN 1) ?_)))))));obtain⟨f,aa,g⟩:=ob g;refine T.gO (W1.w1 (vT3 (vSc hO) (vSc eBool) (vSc hO)) f 23 #[C,E] (fun o i=>oe F x b f aa o A B (ia.mono P i.view)) ?_);intro u Z N hu;obtain rfl:=(lc.t3 ir jS ir) _ _ _ hu
 refine T.k7 (.tuple #[vi f.1,.bool f.2.1,vi f.2.2]) (vi f.1) (.bool f.2.1) (vi f.2.2) (vi f.1) (.bool f.2.1) (vi f.2.2) (T.gN (T.gR (T.ic (T.sr (T.k3 (vi f.2.2) (.bool (f.2.2 != 0)) (.bool (f.2.2 != 0)) (T.gN ?_))))));revert g;refine T.c (fun ad g=>?_) (fun ad g=>?_);refine T.sr (T.k2 (.agg #[vi 0,sN]) (vi f.2.2) (T.gO (W1.st 0 y ((box G 24 y)::(box K 28 I)::(box J 24 H)::[]) y (T.k (vi f.2.2) (T.gN ?_)))));refine T.jj (TreeTy.mk 28 3 36) ?_;refine T.iA 55 eHdr ?_;cases g;refine T.ii rfl ?_
 (repeat first | refine T.ij ?_ | refine T.ig ?_);exact T.jy rfl (rN 2) (rT rfl) fun o i=>⟨(none,0,[]),rfl,rfl,iP (X:=((row 55 eHdr none 0 ([] : List DHdr))::(il (TreeTy.mk 28 3 36) [] [])::[])) (i.u) ⟨iG (fun _ _ _ _ h=>h),iO _ _ _,trivial⟩⟩;refine T.sr (T.k3 (.bool f.2.1) (.bool (!f.2.1)) (.bool (!f.2.1)) (T.gN ?_));revert g;refine T.c (fun ae g=>?_) (fun ae g=>?_);refine T.sr (T.k (.agg #[vi 0,sN]) (T.gO (W1.st 0 y ((box G 24 y)::(box K 28 I)::(box J 24 H)::[]) y (T.k (vi 4) (T.gN ?_)))))
 refine T.jj (TreeTy.mk 28 3 36) ?_;refine T.iA 55 eHdr ?_;cases g;refine T.ii rfl ?_;(repeat first | refine T.ij ?_ | refine T.ig ?_);exact T.jy rfl (rN 2) (rT rfl) fun o i=>⟨(none,0,[]),rfl,rfl,iP (X:=((row 55 eHdr none 0 ([] : List DHdr))::(il (TreeTy.mk 28 3 36) [] [])::[])) (i.u) ⟨iG (fun _ _ _ _ h=>h),iO _ _ _,trivial⟩⟩;refine T.gP (T.sr (T.l C (ldN 2) ?_));obtain⟨m,ab,g⟩:=ob g
 refine T.gO (W1.jO 24 #[C] (fun p:Option Addr × Nat × List DHdr=>.agg #[vi m.root,sl p.1 p.2.2 p.2.1]) (fun p=>((row 55 eHdr p.1 p.2.1 p.2.2)::(il (TreeTy.mk 28 3 36) p.2.2 (m.nodes.map Sum.inr))::[])) (fun p=>p.2.2.length=m.nodes.length) (by kernel_rfl) (fun _=>by kernel_rfl) (fun o i=>kB F x m ab o A B (ia.mono (ia.mono P N) i.view)) ?_);rintro⟨s,t,j⟩ am;let Q:=box G 24 y;let R:=box K 28 I;let ai:=box J 24 H;let M:=R::ai::[];let Y:=Q::M
 refine T.iH (H':=((row 55 eHdr s t j)::(il (TreeTy.mk 28 3 36) j (m.nodes.map Sum.inr))::Y)) (by rfl) ?_;refine T.k (.agg #[vi m.root,sl s j t]) ?_;let D:=[vi m.root,sl s j t];refine T.gO (W1.np 64 D (fun n=>(T.k (pB n 0) (T.gN (T.gR ?_)))));refine T.iL 2 (by rfl) (fun an=>?_);let L:=box n 64 D;refine T.jr 7 (L::(row 55 eHdr s t j)::Q::R::[]) (by kernel_rfl) ?_;refine TL.ju (Hp.q vr N) fun z=>?_
 refine TL.tv 0 (pB n 0) rfl z (TL.tv 1 (pB n 0) rfl z (TL.tv 2 (pB n 0) rfl z (TL.tv 3 (pB n 0) rfl z (TL.tv 4 (pB n 0) rfl z (TL.tk 5 (vi m.root) [] rfl z (ld1 0) (TL.tk 6 E [] rfl z (ldN 3) (TL.a [7] ⟨?_,trivial⟩)))))));obtain⟨W,ac,g⟩:=ob g;let aj:=il (TreeTy.mk 28 3 36) j W;refine TL.br rfl (W1.cj (fun o i=>jQ F m.root (m.nodes.map Sum.inr) m.root b W ac w n s t j Z Y o (i.u)) ?_);rintro v o ⟨V2,al,rfl,i⟩;refine⟨_,_,i,?_⟩;clear i;refine TL.jp (by kernel_rfl) ?_;refine TL.d ?_
 refine T.sr (T.k3 (pB n 0) (pB n 0) (pB n 0) (T.l (.agg #[vi m.root,sl s j t]) (ldN 0) ?_));let S:=box G 24 D;refine T.gO (W1.st 3 D (L::(row 55 eHdr s t j)::aj::S::M) D (T.k (vi 0) (T.gN ?_)));obtain⟨V,O,g⟩:=ob g;refine T.iL 2 (by rfl) (fun ag=>?_);have af:j.length=V.length:=by have:=ag.len;rwa [jd O,List.length_map] at this
 let U:=il (TreeTy.mk 28 3 36) j (V.map Sum.inr);refine T.iH (H':=(L::(row 55 eHdr s t j)::U::S::M)) (by simp +zetaDelta only [sl,jd O]) ?_;cases g;refine T.ii rfl ?_;(repeat first | refine T.ij ?_ | refine T.ig ?_);exact T.jy rfl (rN 3) (rT rfl) fun o i=>⟨(s,t,j),rfl,af,iP (X:=((row 55 eHdr s t j)::U::[])) (i.u) ⟨iG (fun _ _ _ _ h=>h),iO _ _ _,trivial⟩⟩
end Go.Proofs.YtfbpiogbhkgieaaGreat
namespace Go.Proofs.YtfbpiogbhkgieaaGreat
set_option linter.unusedVariables false
def nR (F:Nat) (p0:DTree) (p1:DSpot) : Option (DElem × Int) :=
 (lK F p0).bind fun r1 =>
 bif (r1 != 0) then
  some ((DElem.mk (DKey.mk 0 0 0) 0 0 (ByteArray.mk #[])),r1)
 else
  (
   (
    (nS (σ:=Int × Int × Int × Int × Int × ByteArray × Int) (ρ:=Nat × Int × Int × Int × Int × Int × ByteArray) (fun rf1 x=>match x with
     | (x1,x2,x3,x4,x5,x6,x7) =>
      (idx p0.nodes x7).bind fun e1 =>
       (iter (σ:=Int × Int × Int × Int × Int × ByteArray × Int) (ρ:=(Int × Int × Int × Int × Int × ByteArray) ⊕ (Nat × Int × Int × Int × Int × Int × ByteArray)) (fun x=>match x with
        | (x8,x9,x10,x11,x12,x13,x14) =>
         bif decide (x14 < (e1.elems.length:Int)) then
          (idx e1.elems x14).bind fun e2 =>
          (
           (jb e2).bind fun r2 =>
            (jt r2 p1).bind fun r3 =>
            bif decide ((0:Int)≤r3) then
             (
              (jb e2).bind fun r4 =>
               bif (r4 == p1) then
                some (0,e2.key.pfs,e2.key.obj,e2.key.off,e2.made,e2.gone,e2.val)
               else
                some (1,x8,x9,x10,x11,x12,x13) : Option (Nat × Int × Int × Int × Int × Int × ByteArray)).bind fun z=>match z with
              | (k4,z31,z32,z33,z34,z35,z36) =>
               some ((k4 + 1),z31,z32,z33,z34,z35,z36)
            else
             some (0,x8,x9,x10,x11,x12,x13) : Option (Nat × Int × Int × Int × Int × Int × ByteArray)).bind fun z=>match z with
           | (k3,z25,z26,z27,z28,z29,z30) =>
            jK k3 (
             some (.inl (z25,z26,z27,z28,z29,z30,IntKind.i64.wrap (x14 + 1))))
             fun k5 =>
             some (.inr (.inr ((k5 + 1),z25,z26,z27,z28,z29,z30)))
          else
           some (.inr (.inl (x8,x9,x10,x11,x12,x13)))) F (x1,x2,x3,x4,x5,x6,0)).bind fun z=>match z with
        | .inl (z19,z20,z21,z22,z23,z24) =>
         bif (e1.kind == 1) then
          some (0,z19,z20,z21,z22,z23,z24)
         else
          (lE F e1 p1).bind fun r4 =>
          (i9 e1.kids r4 (e1.kids.length:Int)).bind fun s2 =>
          (iter (σ:=Int × Int × Int × Int × Int × ByteArray × Int) (ρ:=(Int × Int × Int × Int × Int × ByteArray) ⊕ (Nat × Int × Int × Int × Int × Int × ByteArray)) (fun x=>match x with
           | (x15,x16,x17,x18,x19,x20,x21) =>
            bif decide (x21 < (s2.length:Int)) then
             (idx s2 x21).bind fun e3 =>
             (
              (rf1 (x15,x16,x17,x18,x19,x20,e3)).bind fun z=>match z with
               | (z49,z50,z51,z52,z53,z54,z55) =>
                jK z49 (
                 some (0,z50,z51,z52,z53,z54,z55))
                 fun k7 =>
                 some ((k7 + 1),z50,z51,z52,z53,z54,z55) : Option (Nat × Int × Int × Int × Int × Int × ByteArray)).bind fun z=>match z with
              | (k6,z43,z44,z45,z46,z47,z48) =>
               jK k6 (
                some (.inl (z43,z44,z45,z46,z47,z48,IntKind.i64.wrap (x21 + 1))))
                fun k8 =>
                some (.inr (.inr ((k8 + 1),z43,z44,z45,z46,z47,z48)))
             else
              some (.inr (.inl (x15,x16,x17,x18,x19,x20)))) F (z19,z20,z21,z22,z23,z24,0)).bind fun z=>match z with
           | .inl (z37,z38,z39,z40,z41,z42) =>
            some (0,z37,z38,z39,z40,z41,z42)
           | .inr q=>some q
        | .inr q=>some q) F (0,0,0,0,0,(ByteArray.mk #[]),p0.root)).bind fun z=>match z with
     | (z56,z57,z58,z59,z60,z61,z62) =>
      jK z56 (
       some (0,z57,z58,z59,z60,z61,z62))
       fun k9 =>
       some ((k9 + 1),z57,z58,z59,z60,z61,z62) : Option (Nat × Int × Int × Int × Int × Int × ByteArray)).bind fun z=>match z with
    | (k1,z7,z8,z9,z10,z11,z12) =>
     jK k1 (
      some (.inl (z7,z8,z9,z10,z11,z12)))
      fun k10 =>
      jK k10 (
       some (.inr ((DElem.mk (DKey.mk z7 z8 z9) z10 z11 z12),0)))
       fun k11 =>
       some (.inl (z7,z8,z9,z10,z11,z12)) : Option ((Int × Int × Int × Int × Int × ByteArray) ⊕ (DElem × Int))).bind fun z=>match z with
   | .inl (z1,z2,z3,z4,z5,z6) =>
    some ((DElem.mk (DKey.mk 0 0 0) 0 0 (ByteArray.mk #[])),4)
   | .inr q=>some q
end Go.Proofs.YtfbpiogbhkgieaaGreat
