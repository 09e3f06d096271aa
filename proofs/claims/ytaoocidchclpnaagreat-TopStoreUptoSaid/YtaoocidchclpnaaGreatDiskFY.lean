/- Pure functions of group Disk. Conditions: none. -/
import Derived.Test.YtaoocidchclpnaaGreatEqLY
import Derived.Test.YtaoocidchclpnaaGreatMapY
import Derived.Test.YtaoocidchclpnaaGreatZY
import Derived.Test.YtaoocidchclpnaaGreatShAY
import Derived.Test.YtaoocidchclpnaaGreatKeyLY
namespace Go.Proofs.YtaoocidchclpnaaGreat
set_option linter.unusedVariables false
def kz (F:Nat) (p0:(List DElem)) (p1:(List DElem)) : Option (Bool) :=
 bif ((p0.length:Int) != (p1.length:Int)) then
  some false
 else
  (iter (σ:=Int) (ρ:=(Unit) ⊕ Bool) (fun x1 =>
   bif decide (x1 < (p0.length:Int)) then
    (idx p0 x1).bind fun e1 =>
    (idx p1 x1).bind fun e2 =>
    bif (!(e1 == e2)) then
     some (.inr (.inr false))
    else
     some (.inl (IntKind.i64.wrap (x1 + 1)))
    else
     some (.inr (.inl ()))) F 0).bind fun z=>match z with
   | .inl _ =>
    some true
   | .inr q=>some q
end Go.Proofs.YtaoocidchclpnaaGreat
namespace Go.Proofs.YtaoocidchclpnaaGreat
open IntKind (i64)
set_option maxRecDepth 100000
set_option maxHeartbeats 4000000
set_option linter.unusedVariables false
theorem lC (F:Nat) (o:(List DElem)) (t:(List DElem)) (r:Bool) (d:kz F o t=some r) (w:World) (p:Option Addr) (x:Nat) (D:hJ (vw w) eElem p x o) (q:Option Addr) (y:Nat) (G:hJ (vw w) eElem q y t) :
 Calls Tryz.prog 15 #[.slice p o.length x,.slice q t.length y] w (jB (vSc eBool) r w):=by
 unfold kz at d;refine T.iA (l:=[sl p o x,sl q t y]) Tryz.func15 rfl rfl rfl ?_;refine au3 ?_;revert d;refine T.c (fun J d=>?_) (fun J d=>?_);refine au1 ?_;cases d;exact il;refine au2 ?_;refine oc d fun R Q d=>?_;refine T.iK (fun a f=>R=Sum.inl ()∧Fr 26 [] a∧Hp w (vw w) [] f) ?_ ?_;refine au1 ?_;refine T.iI (fun v a f=>Fr 26 [(0,sl p o x),(1,sl q t y),(12,vi (o.length:Int)),(13,vi v)] a∧Hp w (vw w) [] f) Q ?_ ?_;exact ie;rintro v S b C a f ⟨z,g⟩;revert z g;refine T.i ?_;(try dsimp only at b)
 refine au1 ?_;refine T.ik ?_;revert b;refine T.c (fun K b=>?_) (fun K b=>?_);refine au3 ?_;refine T.ik ?_;refine T.jt k_ k_ ?_;refine TQ.k (sl p o x) (TQ.k (vi v) (oc b fun m H b=>?_));obtain⟨M,N,A⟩:=ig H
 refine TQ.l (.pointer (some ((iy p).add (v.toNat * 6)))) (fun f g=>ib (e:=52) (s:=6) rfl rfl rfl k_ k_ M N (D.some_ A (by decide))) (TQ.l (.agg #[vi m.key.pfs,vi m.key.obj,vi m.key.off,vi m.made,vi m.gone,.string m.val]) (fun f g=>lN (fun j u hj=>(g.cell_view (hJ.cellF (E:=eElem) D A j (fun _ _ _ h=>h) hj)))) (TQ.k (sl q t y) (TQ.k (vi v) (oc b fun n I b=>?_))));obtain⟨O,P,B⟩:=ig I
 refine TQ.l (.pointer (some ((iy q).add (v.toNat * 6)))) (fun f g=>ib (e:=52) (s:=6) rfl rfl rfl k_ k_ O P (G.some_ B (by decide))) (TQ.l (.agg #[vi n.key.pfs,vi n.key.obj,vi n.key.off,vi n.made,vi n.gone,.string n.val]) (fun f g=>lN (fun j u hj=>(g.cell_view (hJ.cellF (E:=eElem) G B j (fun _ _ _ h=>h) hj)))) (TQ.l (.bool (!(m == n))) (fun f g=>pU m n f rfl rfl rfl) ?_));refine TQ.jm ?_;revert b;refine T.c (fun L b=>?_) (fun L b=>?_);refine au1 ?_;cases b
 cases (C _ rfl);(try dsimp only at d);cases d;exact il;refine au1 ?_;cases b;exact ie;refine au0 ?_;cases b;cases (C _ rfl);exact ie;rintro a f ⟨rfl,z,g⟩;(try dsimp only at d);revert z g;refine T.i ?_;refine au1 ?_;cases d;exact il
end Go.Proofs.YtaoocidchclpnaaGreat
namespace Go.Proofs.YtaoocidchclpnaaGreat
set_option linter.unusedVariables false
def oy (p0:DDisk) (p1:Int) (p2:ByteArray) : Option (Int) :=
 bif ((decide (p1 < 0)) || (decide ((p0.pages.length:Int)≤p1))) then
  some 1
 else
  bif decide ((3500:Int) < (p2.size:Int)) then
   some 2
  else
   some 0
def kR (F:Nat) (p0:DDisk) : Option (Int) :=
 bif ((decide ((201:Int) < (p0.pages.length:Int))) || (decide ((400:Int) < (p0.writes.length:Int)))) then
  some 2
 else
  (iter (σ:=Int) (ρ:=(Unit) ⊕ Int) (fun x1 =>
   bif decide (x1 < (p0.pages.length:Int)) then
    (idx p0.pages x1).bind fun e1 =>
    bif decide ((3500:Int) < (e1.size:Int)) then
     some (.inr (.inr 2))
    else
     some (.inl (IntKind.i64.wrap (x1 + 1)))
    else
     some (.inr (.inl ()))) F 0).bind fun z=>match z with
   | .inl _ =>
    (iter (σ:=Int) (ρ:=(Unit) ⊕ Int) (fun x2 =>
     bif decide (x2 < (p0.writes.length:Int)) then
      (idx p0.writes x2).bind fun e2 =>
      (oy p0 e2.page e2.text).bind fun r1 =>
      bif (r1 != 0) then
       some (.inr (.inr r1))
      else
       some (.inl (IntKind.i64.wrap (x2 + 1)))
      else
       some (.inr (.inl ()))) F 0).bind fun z=>match z with
     | .inl _ =>
      some 0
     | .inr q=>some q
   | .inr q=>some q
def mz (F:Nat) (p0:DDisk) (p1:Int) : Option (ByteArray) :=
 (iter (σ:=Int) (ρ:=(Unit) ⊕ ByteArray) (fun x1 =>
  bif decide ((0:Int)≤x1) then
   (idx p0.writes x1).bind fun e1 =>
   bif (e1.page == p1) then
    (idx p0.writes x1).bind fun e2 =>
    some (.inr (.inr e2.text))
   else
    some (.inl (IntKind.i64.wrap (x1 - 1)))
   else
    some (.inr (.inl ()))) F (IntKind.i64.wrap ((p0.writes.length:Int) - 1))).bind fun z=>match z with
  | .inl _ =>
   (idx p0.pages p1).bind fun e3 =>
   some e3
  | .inr q=>some q
def m7 (F:Nat) (p0:DDisk) (p1:Int) (p2:ByteArray) : Option (DDisk × Int) :=
 (kR F p0).bind fun r1 =>
 bif (r1 != 0) then
  some ((DDisk.mk [] []),r1)
 else
  (oy p0 p1 p2).bind fun r2 =>
  bif (r2 != 0) then
   some ((DDisk.mk [] []),r2)
  else
   bif ((p0.writes.length:Int) == 400) then
    some ((DDisk.mk [] []),8)
   else
    (
     (jT 16 ([] : List ByteArray) p0.pages).bind fun _ =>
      (jT 24 ([] : List DWrite) p0.writes).bind fun _ =>
      some () : Option (Unit)).bind fun _ =>
    (jT 24 (([] : List DWrite) ++ p0.writes) [(DWrite.mk p1 p2)]).bind fun _ =>
    some ((DDisk.mk (([] : List ByteArray) ++ p0.pages) ((([] : List DWrite) ++ p0.writes) ++ [(DWrite.mk p1 p2)])),0)
def lO (F:Nat) (p0:DDisk) : Option (DDisk × Int) :=
 (kR F p0).bind fun r1 =>
 bif (r1 != 0) then
  some ((DDisk.mk [] []),r1)
 else
  (
   (jT 16 ([] : List ByteArray) p0.pages).bind fun _ =>
    (iter (σ:=(List ByteArray) × Int) (ρ:=(List ByteArray)) (fun x=>match x with
     | (x1,x2) =>
      bif decide (x2 < (p0.writes.length:Int)) then
       (idx p0.writes x2).bind fun e1 =>
       (idx x1 e1.page).bind fun e2 =>
       some (.inl ((x1.set e1.page.toNat e1.text),IntKind.i64.wrap (x2 + 1)))
       else
        some (.inr x1)) F ((([] : List ByteArray) ++ p0.pages),0)).bind fun z2 =>
    some z2:Option ((List ByteArray))).bind fun z1 =>
  some ((DDisk.mk z1 []),0)
def nU (F:Nat) (p0:DDisk) (p1:(List Bool)) : Option (DDisk × Int) :=
 (kR F p0).bind fun r1 =>
 bif (r1 != 0) then
  some ((DDisk.mk [] []),r1)
 else
  (
   (jT 16 ([] : List ByteArray) p0.pages).bind fun _ =>
    (iter (σ:=(List ByteArray) × Int) (ρ:=(List ByteArray)) (fun x=>match x with
     | (x1,x2) =>
      bif decide (x2 < (p0.writes.length:Int)) then
       (
        (idx p0.writes x2).bind fun e1 =>
         (
          (
           bif decide (x2 < (p1.length:Int)) then
            (idx p1 x2).bind fun e2 =>
            some e2
            else
             some false:Option (Bool)).bind fun z5 =>
           some z5:Option (Bool)).bind fun z4 =>
         bif z4 then
          (idx x1 e1.page).bind fun e3 =>
          some (x1.set e1.page.toNat e1.text)
         else
          some x1:Option ((List ByteArray))).bind fun z3 =>
       some (.inl (z3,IntKind.i64.wrap (x2 + 1)))
       else
        some (.inr x1)) F ((([] : List ByteArray) ++ p0.pages),0)).bind fun z2 =>
    some z2:Option ((List ByteArray))).bind fun z1 =>
  some ((DDisk.mk z1 []),0)
end Go.Proofs.YtaoocidchclpnaaGreat
