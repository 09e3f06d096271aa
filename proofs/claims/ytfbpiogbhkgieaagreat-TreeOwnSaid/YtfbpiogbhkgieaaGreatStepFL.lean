/- Pure functions of group Step. Conditions: none. -/
import Derived.Test.YtfbpiogbhkgieaaGreatShAL
import Derived.Test.YtfbpiogbhkgieaaGreatRunLL
import Derived.Test.YtfbpiogbhkgieaaGreatPruneFL
import Derived.Test.YtfbpiogbhkgieaaGreatEqLL
import Derived.Test.YtfbpiogbhkgieaaGreatWrHFL
import Derived.Test.YtfbpiogbhkgieaaGreatCpFL
import Derived.Test.YtfbpiogbhkgieaaGreatFrFL
import Derived.Test.YtfbpiogbhkgieaaGreatTreeOL
import Derived.Test.YtfbpiogbhkgieaaGreatRangeL
import Derived.Test.YtfbpiogbhkgieaaGreatRecL
namespace Go.Proofs.YtfbpiogbhkgieaaGreat
open IntKind (i64)
set_option maxRecDepth 100000
set_option maxHeartbeats 4000000
set_option linter.unusedVariables false
theorem pw (F:Nat) (g:(List Int)) (r:Int) (n:mJ F g=some r) (w:World) (o:Option Addr) (q:Nat) (v:ia (vw w) hO o q g) :
 Calls Tryz.prog 37 #[.slice o g.length q] w (ko (vSc hO) r w):=by
 unfold mJ at n;refine T.iV (l:=[sl o g q]) Tryz.func37 rfl rfl rfl ?_;refine T.sr (T.k (vi 0) (T.gN (T.gR (T.sr (T.k3 (sl o g q) (vi (g.length:Int)) (.bool (decide ((20:Int) < (g.length:Int)))) (T.gN ?_))))));revert n;refine T.c (fun y n=>?_) (fun y n=>?_);refine T.sr (T.k (vi 2) (T.gN ?_));cases n;refine T.ii rfl ?_;exact T.ik rfl (rT rfl) fun d b=>⟨_,rfl,b.below,(show _ from rfl)⟩;refine T.gP (T.gR (T.sr (T.k3 (sl o g q) (vi (g.length:Int)) (vi 0) (T.gN ?_))));obtain⟨H,G,n⟩:=ob n
 refine T.jf (fun a d=>H=Sum.inl ()∧Fr 21 [] a∧Hp w (vw w) [] d) ?_ ?_;refine T.ic ?_;refine T.jh (fun p a d=>Fr 21 [(8,sl o g q),(9,vi (g.length:Int)),(10,vi p)] a∧Hp w (vw w) [] d) G ?_ ?_;exact fun a d f b=>⟨(Fr.s f),(b.sub List.Sublist.slnil)⟩;rintro p J j u a d ⟨f,b⟩;revert f b;refine T.i ?_;(try dsimp only at j);refine T.sr (T.k (.bool (decide (p < (g.length:Int)))) (T.gN (T.gR ?_)));revert j;refine T.c (fun A j=>?_) (fun A j=>?_);refine T.gP (T.gR (T.ic (T.sr ?_)));obtain⟨m,x,j⟩:=ob j
 obtain⟨C,D,t⟩:=iq x;refine T.l (.pointer (some ((iC o).add (p.toNat * 1)))) (fun d b=>ib (e:=3) (s:=1) rfl rfl rfl (by kernel_rfl) (by kernel_rfl) C D (v.some_ t (by decide))) (T.l (vi m) (fun d b=>iB rfl rfl (by kernel_rfl) (b.cell_view (ia.cellF0 (E:=hO) v t (fun _ _ _ h=>h) rfl))) (T.k (vi m) (T.gN ?_)));refine T.ji (fun a d=>Fr 21 [(8,sl o g q),(9,vi (g.length:Int)),(10,vi p),(19,.bool ((decide (m < 0)) || (decide ((2147483647:Int) < m))))] a∧Hp w (vw w) [] d) ?_ ?_
 refine T.gQ (T.k3 (vi m) (.bool (decide (m < 0))) (.bool (decide (m < 0))) ?_);cases I:decide (m < 0);refine T.k3 (vi m) (.bool (decide ((2147483647:Int) < m))) (.bool (decide ((2147483647:Int) < m))) (T.gN ?_);exact fun a d f b=>⟨(Fr.s f),(b.sub List.Sublist.slnil)⟩;refine T.z (T.z (T.k (.bool true) (T.gN ?_)));exact fun a d f b=>⟨(Fr.s f),(b.sub List.Sublist.slnil)⟩;rintro a d ⟨f,b⟩;revert f b;refine T.i ?_;revert j;refine T.c (fun B j=>?_) (fun B j=>?_);refine T.sr (T.k (vi 9) (T.gN ?_));cases j;cases (u _ rfl)
 (try dsimp only at n);cases n;refine T.ii rfl ?_;exact T.ik rfl (rT rfl) fun d b=>⟨_,rfl,b.below,(show _ from rfl)⟩;refine T.gP (T.gQ (T.k2 (vi (i64.wrap (p + 1))) (vi (i64.wrap (p + 1))) (T.gN ?_)));cases j;exact fun a d f b=>⟨(i64.wrap (p + 1)),rfl,(Fr.s f),(b.sub List.Sublist.slnil)⟩;refine T.iE ?_;cases j;cases (u _ rfl);exact fun a d f b=>⟨rfl,(Fr.nil f),(b.sub List.Sublist.slnil)⟩;rintro a d ⟨rfl,f,b⟩;(try dsimp only at n);revert f b;refine T.i ?_;refine T.sr (T.k (vi 0) (T.gN ?_));cases n;refine T.ii rfl ?_
 exact T.ik rfl (rT rfl) fun d b=>⟨_,rfl,b.below,(show _ from rfl)⟩
theorem pv (F:Nat) (b:DElem) (n:(List Int)) (r:Bool) (j:mI F b n=some r) (w:World) (p:Option Addr) (q:Nat) (D:ia (vw w) hO p q n) :
 Calls Tryz.prog 39 #[.agg #[.int .i64 b.key.pfs,.int .i64 b.key.obj,.int .i64 b.key.off,.int .i64 b.made,.int .i64 b.gone,.string b.val],.slice p n.length q] w (ko (vSc eBool) r w):=by
 unfold mI at j;let z:Value:=.agg #[vi b.key.pfs,vi b.key.obj,vi b.key.off,vi b.made,vi b.gone,.string b.val];refine T.iV (l:=[z,sl p n q]) Tryz.func39 rfl rfl rfl ?_;refine T.sr ?_;let H:=[vi b.key.pfs,vi b.key.obj,vi b.key.off,vi b.made,vi b.gone,.string b.val];refine T.gO (W1.np 28 H (fun A=>(T.k (.bool false) (T.gN (T.gR (T.sr (T.k (pB A 4) (T.l (vi b.gone) (ld1 0) (T.k (.bool (b.gone == 0)) (T.gN ?_))))))))));revert j;refine T.c (fun M j=>?_) (fun M j=>?_);refine T.sr (T.k (.bool true) (T.gN ?_));cases j
 refine T.ii rfl ?_;exact T.ik rfl (rT rfl) fun f d=>⟨_,rfl,d.below,(show _ from rfl)⟩;refine T.gP (T.gR (T.sr (T.k3 (sl p n q) (vi (n.length:Int)) (vi 0) (T.gN ?_))));obtain⟨V,S,j⟩:=ob j;refine T.jf (fun a f=>V=Sum.inl ()∧∃(y:View),View.le (vw w) y∧Fr 20 [] a∧Hp w y [] f) ?_ ?_;refine T.ic ?_;let U:=box A 28 H;refine T.jh (fun o a f=>∃(v:View),View.le (vw w) v∧Fr 20 [(2,pB A 0),(10,sl p n q),(11,vi (n.length:Int)),(12,vi o)] a∧Hp w v (U::[]) f) S ?_ ?_
 exact fun a f m d=>⟨(vw w),vr,(Fr.s m),(d.u)⟩;rintro o X g C a f ⟨v,x,m,d⟩;revert m d;refine T.i ?_;(try dsimp only at g);refine T.sr (T.k (.bool (decide (o < (n.length:Int)))) (T.gN (T.gR ?_)));revert g;refine T.c (fun N g=>?_) (fun N g=>?_);refine T.gP (T.gR (T.ic (T.sr ?_)));obtain⟨t,K,g⟩:=ob g;obtain⟨P,Q,B⟩:=iq K
 refine T.l (.pointer (some ((iC p).add (o.toNat * 1)))) (fun f d=>ib (e:=3) (s:=1) rfl rfl rfl (by kernel_rfl) (by kernel_rfl) P Q ((ia.mono D x).some_ B (by decide))) (T.l (vi t) (fun f d=>iB rfl rfl (by kernel_rfl) (d.cell_view (ia.cellF0 (E:=hO) (ia.mono D x) B (fun _ _ _ h=>h) rfl))) (T.k (vi t) (T.gN (T.sr (T.l z (ldN 0) (T.k (vi t) ?_))))));obtain⟨G,L,g⟩:=ob g;refine T.gO (W1.w1 (vSc eBool) G 63 #[z,vi t] (fun f d=>qe b t G L f) ?_);intro u I J R
 obtain rfl:=jS _ _ _ R;refine T.gN ?_;revert g;refine T.c (fun O g=>?_) (fun O g=>?_);refine T.sr (T.k (.bool true) (T.gN ?_));cases g;cases (C _ rfl);(try dsimp only at j);cases j;refine T.ii rfl ?_;exact T.ik rfl (rT rfl) fun f d=>⟨_,rfl,d.below,(show _ from rfl)⟩;refine T.gP (T.gQ (T.k2 (vi (i64.wrap (o + 1))) (vi (i64.wrap (o + 1))) (T.gN ?_)));cases g;exact fun a f m d=>⟨(i64.wrap (o + 1)),rfl,I,(vt x J),(Fr.s m),(d.u)⟩;refine T.iE ?_;cases g;cases (C _ rfl)
 exact fun a f m d=>⟨rfl,v,x,(Fr.nil m),(d.u)⟩;rintro a f ⟨rfl,y,W,m,d⟩;(try dsimp only at j);revert m d;refine T.i ?_;refine T.sr (T.k (.bool false) (T.gN ?_));cases j;refine T.ii rfl ?_;exact T.ik rfl (rT rfl) fun f d=>⟨_,rfl,d.below,(show _ from rfl)⟩
end Go.Proofs.YtfbpiogbhkgieaaGreat
namespace Go.Proofs.YtfbpiogbhkgieaaGreat
set_option linter.unusedVariables false
def nq (F:Nat) (p0:DTree) (p1:(List Int)) (p2:Int) : Option (DTree × Int × Int) :=
 (lH F p0).bind fun r1 =>
 bif (r1 != 0) then
  some ((DTree.mk 0 []),0,r1)
 else
  (mJ F p1).bind fun r3 =>
  bif (r3 != 0) then
   some ((DTree.mk 0 []),0,r3)
  else
   bif decide (p2 < 0) then
    some ((DTree.mk 0 []),0,1)
   else
    (
     (
      (nS (σ:=(List DSpot) × Int) (ρ:=(List DSpot) × Nat) (fun rf2 x=>match x with
       | (x1,x2) =>
        (idx p0.nodes x2).bind fun e1 =>
         (iter (σ:=(List DSpot) × Int) (ρ:=((List DSpot)) ⊕ ((List DSpot) × Nat)) (fun x=>match x with
          | (x3,x4) =>
           bif decide (x4 < (e1.elems.length:Int)) then
            (idx e1.elems x4).bind fun e2 =>
            (
             (
              bif ((x3.length:Int) == p2) then
               some (x3,(0 + 1))
               else
                (mI F e2 p1).bind fun r7 =>
                bif (!r7) then
                 (jb e2).bind fun r8 =>
                 (lf 32 x3 [r8]).bind fun _ =>
                 some ((x3 ++ [r8]),0)
                else
                 some (x3,0) : Option ((List DSpot) × Nat)).bind fun z=>match z with
              | (z6,k4) =>
               jK k4 (
                some (z6,0))
                fun k5 =>
                some (z6,(k5 + 1)) : Option ((List DSpot) × Nat)).bind fun z=>match z with
             | (z5,k3) =>
              jK k3 (
               some (.inl (z5,IntKind.i64.wrap (x4 + 1))))
               fun k6 =>
               some (.inr (.inr (z5,(k6 + 1))))
            else
             some (.inr (.inl x3))) F (x1,0)).bind fun z=>match z with
          | .inl z4 =>
           (iter (σ:=(List DSpot) × Int) (ρ:=((List DSpot)) ⊕ ((List DSpot) × Nat)) (fun x=>match x with
            | (x5,x6) =>
             bif decide (x6 < (e1.kids.length:Int)) then
              (idx e1.kids x6).bind fun e3 =>
              (
               (rf2 (x5,e3)).bind fun z=>match z with
                | (z9,z10) =>
                 jK z10 (
                  some (z9,0))
                  fun k8 =>
                  some (z9,(k8 + 1)) : Option ((List DSpot) × Nat)).bind fun z=>match z with
               | (z8,k7) =>
                jK k7 (
                 some (.inl (z8,IntKind.i64.wrap (x6 + 1))))
                 fun k9 =>
                 some (.inr (.inr (z8,(k9 + 1))))
              else
               some (.inr (.inl x5))) F (z4,0)).bind fun z=>match z with
            | .inl z7 =>
             some (z7,0)
            | .inr q=>some q
          | .inr q=>some q) F ([],p0.root)).bind fun z=>match z with
       | (z11,z12) =>
        jK z12 (
         some (z11,0))
         fun k10 =>
         some (z11,(k10 + 1)) : Option ((List DSpot) × Nat)).bind fun z=>match z with
      | (z2,k1) =>
       jK k1 (
        some z2)
        fun k11 =>
        some z2:Option ((List DSpot))).bind fun z1 =>
    (kG F p0).bind fun r9 =>
    (iter (σ:=Int × (List (Int ⊕ DNode)) × Int) (ρ:=Int × (List (Int ⊕ DNode))) (fun x=>match x with
     | (x7,x8,x9) =>
      bif decide (x9 < (z1.length:Int)) then
       (idx z1 x9).bind fun e4 =>
       (kM F x7 x8 e4).bind fun r11 =>
       some (.inl (r11.2,r11.1,IntKind.i64.wrap (x9 + 1)))
       else
        some (.inr (x7,x8))) F (r9.root,(r9.nodes.map Sum.inr),0)).bind fun z=>match z with
     | (z13,z14) =>
      (mW z14).bind fun l2 =>
      some ((DTree.mk z13 l2),(z1.length:Int),0)
end Go.Proofs.YtfbpiogbhkgieaaGreat
