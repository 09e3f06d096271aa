/- Disks that a call has made, one after another: rules. Conditions: as each states. -/
import Derived.Test.YtnofgfobljadbaaGreatStoLO
open List renaming replicate→a_, drop_eq_getElem_cons→f_
open ByteArray renaming mk→d_
namespace Go.Proofs.YtnofgfobljadbaaGreat
open IntKind (i64)
set_option linter.unusedSimpArgs false
set_option linter.unusedVariables false
set_option maxHeartbeats 4000000
set_option maxRecDepth 100000
def mT (F:Nat) (p0:DTree):Option (ByteArray):=(jT F p0.root 2).bind λr1=>(jT F (p0.nodes.length:Int) 2).bind λr2=>(mn r1 r2).bind λs1=>some s1
theorem lR (F:Nat) (a:DTree) (r:ByteArray) (b:mT F a=some r) (w:World) (c:Option Addr) (d:Nat) (q:fI (vw w) iy c d a.nodes) :
 Calls Tryz.prog 38 #[.agg #[.int .i64 a.root,.slice c a.nodes.length d]] w (jz (vSc eStr) r w):=by
 unfold mT at b;refine T.im (l:=[.agg #[vi a.root,sl c a.nodes d]]) Tryz.func38 rfl rfl rfl ?_;refine au1 ?_;refine T.N1 λi=>?_;refine au0 ?_;refine T.gD ?_;refine T.jq k_ k_ ?_;refine TQ.k (pB i 0) (TQ.l (vi a.root) (ld1 0) (oc b λg n b=>?_));refine TQ.iQ (vSc eStr) g 76 #[vi a.root,vi 2] (.string g) (λV u f=>iO V u _ f) k_ (λ_=>k_) (λe j=>j6 F a.root 2 g n e) ?_;refine TQ.k (pB i 1) (TQ.l (sl c a.nodes d) (ld1 0) (TQ.k (vi (a.nodes.length:Int)) (oc b λh o b=>?_)));refine TQ.iQ (vSc eStr) h 76 #[vi (a.nodes.length:Int),vi 2] (.string h) (λV u f=>iO V u _ f) k_ (λ_=>k_) (λe j=>j6 F (a.nodes.length:Int) 2 h o e) ?_;refine oc b λm p b=>(TQ.l (.string m) (λe j=>jd rfl rfl rfl p) (TQ.k (.string m) ?_));refine TQ.jm ?_;cases b;exact ia


def oL (F:Nat):Option ((List ByteArray)×Int×(List DNode)):=(qH 16 (201:Int)).bind λu1=>(oN).bind λr2=>((jT F r2.root 2).bind λr3=>(jT F (r2.nodes.length:Int) 2).bind λr4=>(mn r3 r4).bind λs1=>some s1:Option (ByteArray)).bind λz4=>(mK F 0 z4).bind λr5=>(idx (a_ ((201:Int).toNat) ((d_ #[]):ByteArray)) 0).bind λe1=>(idx r2.nodes 0).bind λe2=>(lq F e2).bind λr6=>(idx ((a_ ((201:Int).toNat) ((d_ #[]):ByteArray)).set ((0:Int).toNat) r5.1) 1).bind λe3=>some ((((a_ ((201:Int).toNat) ((d_ #[]):ByteArray)).set ((0:Int).toNat) r5.1).set ((1:Int).toNat) r6.1),r2.root,r2.nodes)
def jP (F:Nat) (p904:List ByteArray) (p908:List DWrite) (p910:Int) (p913:List DNode) (p915:Int) (p918:List DNode) (p920:Int):Option (Int×(List DNode)×Int):=bif (p920 !=0) then some (p910,p913,p920) else (bif decide ((100:Int)<(p918.length:Int)) then (nY F (DTree.mk p915 p918)).bind λr1=>bif decide ((100:Int)<(r1.1.nodes.length:Int)) then some (.inr (p910,p913,8)) else some (.inl (r1.1.root,r1.1.nodes)) else some (.inl (p915,p918)):Option ((Int×(List DNode))⊕(Int×(List DNode)×Int))).bind λz=>match z with
   |.inl (z4,z5)=>some (z4,z5,0)
   |.inr q=>some q
def kT (F:Nat) (p904:List ByteArray) (p908:List DWrite) (p910:Int) (p913:List DNode) (p915:DKey) (p916:Int):Option (Int×(List DNode)×Int):=(ph F (DTree.mk p910 p913) p915 p916).bind λr1=>(jP F p904 p908 p910 p913 r1.1.root r1.1.nodes r1.2).bind λr2=>some (r2.1,r2.2.1,r2.2.2)
def kg (F:Nat) (p904:List ByteArray) (p908:List DWrite) (p910:Int) (p913:List DNode) (p915:DKey) (p916:ByteArray) (p917:Int):Option (Int×(List DNode)×Int):=(pi F (DTree.mk p910 p913) p915 p916 p917).bind λr1=>(jP F p904 p908 p910 p913 r1.1.root r1.1.nodes r1.2).bind λr2=>some (r2.1,r2.2.1,r2.2.2)
def kA (F:Nat) (p904:List ByteArray) (p908:List DWrite) (p910:Int) (p913:List DNode):Option ((List ByteArray)×(List DWrite)×(List DDisk)×Int):=((jT F p910 2).bind λr1=>(jT F (p913.length:Int) 2).bind λr2=>(mn r1 r2).bind λs1=>some s1:Option (ByteArray)).bind λz5=>((iter (σ:=(List DWrite)×Int) (ρ:=(List DWrite)) (λx=>match x with
   |(x1,x2)=>bif decide (x2<(p913.length:Int)) then ((idx p913 x2).bind λe1=>(lq F e1).bind λr4=>(idx p904 (IntKind.i64.wrap (1 + x2))).bind λe2=>bif (!(seq e2 r4.1)) then (grow 24 x1 [(DWrite.mk (IntKind.i64.wrap (1 + x2)) r4.1)]).bind λ_=>some (x1++[(DWrite.mk (IntKind.i64.wrap (1 + x2)) r4.1)]) else some x1:Option ((List DWrite))).bind λz8=>some (.inl (z8,IntKind.i64.wrap (x2 + 1))) else some (.inr x1)) F ([],0)).bind λz7=>some z7:Option ((List DWrite))).bind λz6=>(mj F (DDisk.mk p904 p908) z5 z6).bind λr5=>bif (r5.2 !=0) then some (p904,p908,[],r5.2) else (idx r5.1 (IntKind.i64.wrap ((r5.1.length:Int) - 1))).bind λe3=>((grow 16 ([]:List ByteArray) e3.pages).bind λ_=>(grow 24 ([]:List DWrite) e3.writes).bind λ_=>some ():Option (Unit)).bind λ_=>some ((([]:List ByteArray)++e3.pages),(([]:List DWrite)++e3.writes),r5.1,0)
def mB (F:Nat) (p903:List ByteArray) (p907:List DWrite):Option ((List ByteArray)×(List DWrite)×Int×(List DNode)):=(mU F (DDisk.mk p903 p907)).bind λr1=>bif (r1.2 !=0) then none else (nD F r1.1).bind λr2=>bif ((r2.2.1.size:Int) !=4) then none else (jL r2.2.1 2 (r2.2.1.size:Int)).bind λs1=>(kZ F s1).bind λr3=>bif decide ((100:Int)<r3) then none else (jL r2.2.1 0 2).bind λs2=>(kZ F s2).bind λr4=>(iter (σ:=(List DNode)×Int) (ρ:=((List DNode))⊕((List ByteArray)×(List DWrite)×Int×(List DNode))) (λx=>match x with
     |(x1,x2)=>bif decide (x2<r3) then (idx r1.1.pages (IntKind.i64.wrap (1 + x2))).bind λe1=>(pc F e1).bind λr6=>bif (r6.2 !=0) then none else (grow 104 x1 [r6.1]).bind λ_=>some (.inl ((x1++[r6.1]),IntKind.i64.wrap (x2 + 1))) else some (.inr (.inl x1))) F ([],0)).bind λz=>match z with
     |.inl z5=>(mg F (DTree.mk r4 z5)).bind λr7=>bif (r7 !=0) then none else some (r1.1.pages,r1.1.writes,r4,z5)
     |.inr q=>some q
def oM (F:Nat):Option ((List ByteArray)×Int×(List DNode)):=(qH 16 (201:Int)).bind λu1=>(oN).bind λr2=>(mT F r2).bind λr3=>(mK F 0 r3).bind λr4=>(idx (a_ ((201:Int).toNat) ((d_ #[]):ByteArray)) 0).bind λe1=>(idx r2.nodes 0).bind λe2=>(lq F e2).bind λr5=>(idx ((a_ ((201:Int).toNat) ((d_ #[]):ByteArray)).set ((0:Int).toNat) r4.1) 1).bind λe3=>some ((((a_ ((201:Int).toNat) ((d_ #[]):ByteArray)).set ((0:Int).toNat) r4.1).set ((1:Int).toNat) r5.1),r2.root,r2.nodes)
def kh (F:Nat) (p904:List ByteArray) (p908:List DWrite) (p910:Int) (p913:List DNode):Option ((List DWrite)):=(iter (σ:=(List DWrite)×Int) (ρ:=(List DWrite)) (λx=>match x with
  |(x1,x2)=>bif decide (x2<(p913.length:Int)) then ((idx p913 x2).bind λe1=>(lq F e1).bind λr2=>(idx p904 (IntKind.i64.wrap (1 + x2))).bind λe2=>bif (!(seq e2 r2.1)) then (grow 24 x1 [(DWrite.mk (IntKind.i64.wrap (1 + x2)) r2.1)]).bind λ_=>some (x1++[(DWrite.mk (IntKind.i64.wrap (1 + x2)) r2.1)]) else some x1:Option ((List DWrite))).bind λz3=>some (.inl (z3,IntKind.i64.wrap (x2 + 1))) else some (.inr x1)) F ([],0)).bind λz2=>some z2
def lD (F:Nat) (p904:List ByteArray) (p908:List DWrite) (p910:Int) (p913:List DNode):Option ((List ByteArray)×(List DWrite)×(List DDisk)×Int):=(mT F (DTree.mk p910 p913)).bind λr1=>(kh F p904 p908 p910 p913).bind λr2=>(mj F (DDisk.mk p904 p908) r1 r2).bind λr4=>bif (r4.2 !=0) then some (p904,p908,[],r4.2) else (idx r4.1 (IntKind.i64.wrap ((r4.1.length:Int) - 1))).bind λe1=>((grow 16 ([]:List ByteArray) e1.pages).bind λ_=>(grow 24 ([]:List DWrite) e1.writes).bind λ_=>some ():Option (Unit)).bind λ_=>some ((([]:List ByteArray)++e1.pages),(([]:List DWrite)++e1.writes),r4.1,0)
section
open Go.RowKit
section
variable {N:Sz} {w0:World} {V:View} {H:List HObj} {M:List (Nat×Value)}
theorem T.uY {φ:Act->World->Prop} {hs:List DDH} {ds:List DDisk} {k:Nat} {h:DDH} {d:DDisk} (i:Nat) (hi:nth H i=some (iz hs ds)) (h1:hs[k]? = some h) (h2:ds[k]? = some d) (q:oR h d->T N w0 V H M φ):T N w0 V H M φ:=λa w hf hh=>q (hh.lookAtD hi h1 h2).1 a w hf hh
theorem T.uw {φ:Act->World->Prop} {hs:List DDH} {ds:List DDisk} {k:Nat} {d:DDisk} {H':List HObj} (i:Nat) (hi:nth H i=some (iz (hs.drop k) (ds.drop k))) (hl:hs.length=ds.length) (hd:ds[k]? = some d) (hH:H.eraseIdx i=H')
 (q:∀h,hs[k]? = some h->oR h d->T N w0 V (row 9 eStr h.a1 h.c1 d.pages::row 46 eWrite h.a2 h.c2 d.writes::iz (hs.drop (k + 1)) (ds.drop (k + 1))::H') M φ):T N w0 V H M φ:=by
 obtain⟨hk,hd2⟩:=List.getElem?_eq_some_iff.1 hd;have e1:hs.drop k=hs[k]::hs.drop (k + 1):=f_ o_;have e2:ds.drop k=d::ds.drop (k + 1):=by rw[f_ hk,hd2]
 intro a w hf hh;rw[e1,e2] at hi;obtain⟨hft,h2⟩:=(hh.perm (nN hi)).popD;exact q hs[k] (List.getElem?_eq_getElem _) hft a w hf (by subst hH;exact h2)
end
theorem oK (F:Nat) (p0:DDisk) (p1:ByteArray) (p2:List DWrite) (r:List DDisk×Int) (hF:mj F p0 p1 p2=some r) (w:World) (A1:Option Addr) (c1:Nat) (hs1:fI (vw w) eStr A1 c1 p0.pages) (A2:Option Addr) (c2:Nat) (hs2:fI (vw w) eWrite A2 c2 p0.writes) (A3:Option Addr) (c3:Nat) (hs3:fI (vw w) eWrite A3 c3 p2) :
 Calls Tryz.prog 37 #[.agg #[.slice A1 p0.pages.length c1,.slice A2 p0.writes.length c2],.string p1,.slice A3 p2.length c3] w (λe w'=>∃p:Option Addr×Nat×List DDH,e=.returned (.tuple #[.slice p.1 r.1.length p.2.1,.int .i64 r.2])/\p.2.2.length=r.1.length/\nR w w' [row 40 eDDH p.1 p.2.1 p.2.2,iz p.2.2 r.1]) :=
 (re F p0 p1 p2 r hF w A1 c1 hs1 A2 c2 hs2 A3 c3 hs3).mono (by
  rintro e w' ⟨p,rfl,h2,h3⟩
  exact⟨p,by rw[h2],h2,h3⟩)
end
end Go.Proofs.YtnofgfobljadbaaGreat
