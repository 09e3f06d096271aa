/- The Go law TreeOwn, walked: every tree's rows are the call's own. Condition: what it asks for is there. -/
import Derived.Test.YtfbpiogbhkgieaaGreatTrOwnL
import Derived.Test.YtfbpiogbhkgieaaGreatGrowILL
import Derived.Test.YtfbpiogbhkgieaaGreatFindSFL
import Derived.Test.YtfbpiogbhkgieaaGreatRunFL
import Derived.Test.YtfbpiogbhkgieaaGreatWrPLL
import Derived.Test.YtfbpiogbhkgieaaGreatWrCLL
import Derived.Test.YtfbpiogbhkgieaaGreatPruneFL
import Derived.Test.YtfbpiogbhkgieaaGreatStepLL
import Derived.Test.YtfbpiogbhkgieaaGreatSameLL
import Derived.Test.YtfbpiogbhkgieaaGreatWTreeOwnFL
namespace Go.Proofs.YtfbpiogbhkgieaaGreat
open Go.RowKit
set_option linter.unusedVariables false
set_option linter.unusedSimpArgs false
set_option maxRecDepth 100000
set_option maxHeartbeats 4000000
structure DTH where
 root:Int
 a:Option Addr
 c:Nat
 hs:List DHdr
abbrev DTH.cells (h:DTH) : List Value:=[.int .i64 h.root,.slice h.a h.hs.length h.c]
def eTH:Enc DTH:=lP 2 DTH.cells (fun _=>rfl) (fun _=>jJ rfl)
instance :Steady eTH:=⟨fun _ _ _ _ h=>h⟩
def fT (h:DTH) (t:DTree) : List HObj:=[ka (h.root=t.root),row 55 eHdr h.a h.c h.hs,iY fP h.hs t.nodes]
def fW (h:DTH) (t:DTree) : List HObj:=[ka (h.root=t.root),row 55 eHdr h.a h.c h.hs,iY fM h.hs t.nodes]
theorem Hp.slP {w0:World} {V:View} {H:List HObj} {w:World} {tn:TypeId} {A:Option Addr} {c:Nat} {hs:List DHdr} {ns:List DNode} (hp:Hp w0 V H w) {i j:Nat} (hi:nth H i=some (row tn eHdr A c hs)) (hj:nth H j=some (iY fP hs ns)) : ia (vw w) j9 A c ns:=hp.nodesSl (fun h n X hx=>tD h n X hx) hi hj
theorem Hp.slM {w0:World} {V:View} {H:List HObj} {w:World} {tn:TypeId} {A:Option Addr} {c:Nat} {hs:List DHdr} {ns:List DNode} (hp:Hp w0 V H w) {i j:Nat} (hi:nth H i=some (row tn eHdr A c hs)) (hj:nth H j=some (iY fM hs ns)) : ia (vw w) j9 A c ns:=hp.nodesSl (fun h n X hx=>tC h n X hx) hi hj
theorem Hp.toS {w0:World} {V:View} {X:List HObj} {w:World} {hs:List DHdr} {ns:List DNode} (h:Hp w0 V (iY fP hs ns::X) w) : Hp w0 V (iY fS hs ns::X) w:=by
 have:=Hp.zMap (φ:=id) (g:=fS) (fun a b X hx=>tS a b X hx) h
 rwa [List.map_id] at this
abbrev vTr (r:Int) (A:Option Addr) (c:Nat) (g:List DHdr) : Value:=.agg #[.int .i64 r,.slice A g.length c]
abbrev oTr (t:DTree) (e:Ending) (w w' : World) (v:Value→Value) : Prop:=∃ p:Option Addr × Nat × List DHdr,e = .returned (v (vTr t.root p.1 p.2.1 p.2.2))∧p.2.2.length=t.nodes.length∧kZ w w' [row 55 eHdr p.1 p.2.1 p.2.2,il tyL p.2.2 (t.nodes.map Sum.inr)]
section
variable {P:Program} {N:Sz} {w0:World} {V:View} {H:List HObj} {M:List (Nat × Value)} {ops:Array Oper} {Q:Exit→Act→World→Prop} {o:Oper} {K:Act→World→Prop}
theorem W1.kY (f:FuncId) (vs:Array Value) (t:DTree) (v:Value→Value) (hf : ∀ w,Hp w0 V H w→Calls P f vs w (fun e w'=>oTr t e w w' v))
 (h : ∀(A:Option Addr) (c:Nat) (g:List DHdr),g.length=t.nodes.length→T N w0 V (row 55 eHdr A c g::iY fP g t.nodes::H) (io o.dst (v (vTr t.root A c g)) M) K)
 (hc:okO N ops M o=true:=by kernel_rfl) (hv : ∀ w,(execOp (evM M) o).run P w = .ok (.enter f vs) w:=by intro _;kernel_rfl) : W1 P Q ops o N w0 V H M K :=
 W1.jO f vs (fun p:Option Addr × Nat × List DHdr=>v (vTr t.root p.1 p.2.1 p.2.2)) (fun p=>[row 55 eHdr p.1 p.2.1 p.2.2,il tyL p.2.2 (t.nodes.map Sum.inr)]) (fun p=>p.2.2.length=t.nodes.length) hc hv hf
  (fun ⟨A,c,g⟩ hl=>T.tr (fun w' hh=>(Hp.treeZ (hh.ix 2 [1,0])).ix 2 [1,0]) (h A c g hl))
end
theorem Hp.consT {w0:World} {V:View} {X:List HObj} {w:World} {h:DTH} {t:DTree} {al:List DTH} {bl:List DTree} (hr:h.root=t.root) (hh:Hp w0 V (row 55 eHdr h.a h.c h.hs::iY fP h.hs t.nodes::iY fT al bl::X) w) : Hp w0 V (iY fT (h::al) (t::bl)::X) w:=Hp.zCons (f:=fT) (Hp.put hh hr)
theorem rG {α:Type} {p:α→Bool} {l:List α} (h:l.all p=true) {k:Nat} {x:α} (hx:l[k]? = some x) : p x=true:=List.all_eq_true.1 h x (List.mem_of_getElem? hx)
theorem qz (F:Nat) (p0:DTree) (p1:DElem) (p2:List Int) (r:Bool) (hF:lO F p0 p1 p2=some r) (w:World) (A1:Option Addr) (c1:Nat) (hs1:ia (vw w) j9 A1 c1 p0.nodes) (A2:Option Addr) (c2:Nat) (hs2:ia (vw w) hO A2 c2 p2) :
 Calls Tryz.prog 3 #[.agg #[.int .i64 p0.root,.slice A1 p0.nodes.length c1],.agg #[.int .i64 p1.key.pfs,.int .i64 p1.key.obj,.int .i64 p1.key.off,.int .i64 p1.made,.int .i64 p1.gone,.string p1.val],.slice A2 p2.length c2] w (ko (vSc eBool) r w):=by
 unfold lO at hF
 obtain⟨r1,hb1,hF⟩:=Option.bind_eq_some_iff.1 hF
 obtain⟨r2,hb2,hF⟩:=Option.bind_eq_some_iff.1 hF
 obtain⟨r3,hb3,hF⟩:=Option.bind_eq_some_iff.1 hF
 obtain⟨r4,hb4,hF⟩:=Option.bind_eq_some_iff.1 hF
 obtain⟨r5,hb5,hF⟩:=Option.bind_eq_some_iff.1 hF
 obtain⟨r6,hb6,hF⟩:=Option.bind_eq_some_iff.1 hF
 obtain⟨r7,hb7,hF⟩:=Option.bind_eq_some_iff.1 hF
 obtain⟨r8,hb8,hF⟩:=Option.bind_eq_some_iff.1 hF
 obtain⟨r9,hb9,hF⟩:=Option.bind_eq_some_iff.1 hF
 obtain⟨hq,rfl⟩:=rI hF
 simp only [Bool.and_eq_true] at hq
 obtain⟨⟨⟨hfit,hall⟩,hz⟩,hone⟩:=hq
 obtain⟨hroom,hsame⟩:=mC hfit
 let tA:Value:=.agg #[.int .i64 p0.root,.slice A1 p0.nodes.length c1]
 let xC:List Value:=[.int .i64 p1.key.pfs,.int .i64 p1.key.obj,.int .i64 p1.key.off,.int .i64 p1.made,.int .i64 p1.gone,.string p1.val]
 refine T.iV (l:=[tA,.agg xC.toArray,.slice A2 p2.length c2]) Tryz.func3 rfl rfl rfl ?_
 refine T.sr (T.gO (W1.np 24 [.int .i64 p0.root,.slice A1 p0.nodes.length c1] (fun b3=>T.gO (W1.np 28 xC (fun b4=>T.k (.bool false) (T.gN ?_))))))
 let O3:HObj:=box b3 24 [.int .i64 p0.root,.slice A1 p0.nodes.length c1]
 let O4:HObj:=box b4 28 xC
 refine T.sr (T.l tA (ldN 1) ?_)
 refine T.gO (W1.jO 4 #[tA] (fun p:Option Addr × Nat × List DHdr=>.agg #[.int .i64 p0.root,.slice p.1 p.2.2.length p.2.1]) (fun p=>[row 55 eHdr p.1 p.2.1 p.2.2,iY fM p.2.2 p0.nodes]) (fun p=>p.2.2.length=p0.nodes.length) (by kernel_rfl) (fun _=>by kernel_rfl) (fun w' hh=>oZ p0 hroom w' _ _ (ia.mono hs1 hh.view)) ?_)
 rintro⟨Ai,ci,hi⟩ hl_
 dsimp only at hl_
 refine T.iH (H':=[row 55 eHdr Ai ci hi,iY fM hi p0.nodes,O4,O3]) (by rfl) ?_
 have hli:hi.length=p0.nodes.length:=hl_
 let RI:HObj:=row 55 eHdr Ai ci hi
 let ZI:HObj:=iY fM hi p0.nodes
 let tI:Value:=.agg #[.int .i64 p0.root,.slice Ai hi.length ci]
 have eI:tI = .agg #[vi p0.root,.slice Ai p0.nodes.length ci]:=by show Value.agg #[_,Value.slice Ai (List.length hi) ci]=_;rw [hli]
 let cI:List Value:=[.int .i64 p0.root,.slice Ai hi.length ci]
 refine T.gO (W1.np 24 [.int .i64 0,.slice none 0 0] (fun b7=>?_))
 let O7:HObj:=box b7 24 cI
 refine T.gO (W1.st 0 cI [O7,RI,ZI,O4,O3] cI (T.gN ?_))
 let xv:Value:=.agg xC.toArray
 refine T.sr (T.l tI (ldN 0) ?_)
 refine T.l xv (ldN 3) ?_
 refine T.gO (W1.kY 5 #[tI,xv] r1.1 (fun u=>.tuple #[u,vi r1.2]) (fun w' hh=>by have h1:=hh.slM (i:=1) (j:=2) (by rfl) (by rfl);rw [eI];exact pu F p0 p1 r1 hb1 w' Ai ci h1) (fun x1 y1 g1 hl1=>?_))
 let R1:HObj:=row 55 eHdr x1 y1 g1
 let Z1:HObj:=iY fP g1 r1.1.nodes
 let C1:List Value:=[.int .i64 r1.1.root,.slice x1 g1.length y1]
 refine T.k3 (.tuple #[.agg C1.toArray,.int .i64 r1.2]) (.agg C1.toArray) (.int .i64 r1.2) ?_
 refine T.gO (W1.np 24 [.int .i64 0,.slice none 0 0] (fun b8=>?_))
 let b8_:HObj:=box b8 24 C1
 refine T.gO (W1.st 0 C1 [b8_,R1,Z1,O7,RI,ZI,O4,O3] C1 ?_)
 refine T.k (.int .i64 r1.2) (T.gN ?_)
 refine T.sr (T.l tI (ldN 3) ?_)
 refine T.l xv (ldN 6) ?_
 refine T.gO (W1.kY 6 #[tI,xv] r2.1 (fun u=>.tuple #[u,vi r2.2]) (fun w' hh=>by have h1:=hh.slM (i:=4) (j:=5) (by rfl) (by rfl);rw [eI];exact qF F p0 p1 r2 hb2 w' Ai ci h1) (fun x2 y2 g2 hl2=>?_))
 let R2:HObj:=row 55 eHdr x2 y2 g2
 let Z2:HObj:=iY fP g2 r2.1.nodes
 let C2:List Value:=[.int .i64 r2.1.root,.slice x2 g2.length y2]
 refine T.k3 (.tuple #[.agg C2.toArray,.int .i64 r2.2]) (.agg C2.toArray) (.int .i64 r2.2) ?_
 refine T.gO (W1.np 24 [.int .i64 0,.slice none 0 0] (fun b10=>?_))
 let b10_:HObj:=box b10 24 C2
 refine T.gO (W1.st 0 C2 [b10_,R2,Z2,b8_,R1,Z1,O7,RI,ZI,O4,O3] C2 ?_)
 refine T.k (.int .i64 r2.2) (T.gN ?_)
 let sp:Value:=.agg #[.int .i64 p1.key.pfs,.int .i64 p1.key.obj,.int .i64 p1.key.off,.int .i64 p1.made]
 let ky:Value:=.agg #[.int .i64 p1.key.pfs,.int .i64 p1.key.obj,.int .i64 p1.key.off]
 refine T.gR ?_
 refine T.jf (fun a w'=>∃(x3:Option Addr) (y3:Nat) (g3:List DHdr) (b12:Nat),Fr 146 [(2,.slice A2 p2.length c2),(3,pB b3 0),(4,pB b4 0),(6,.bool false),(7,pB b7 0),(8,pB b8 0),(10,pB b10 0),(12,pB b12 0)] a∧Hp w (vw w) [box b12 24 [.int .i64 r3.1.root,.slice x3 g3.length y3],row 55 eHdr x3 y3 g3,iY fP g3 r3.1.nodes,b10_,R2,Z2,b8_,R1,Z1,O7,RI,ZI,O4,O3] w') ?_ ?_
 ·
  refine T.jH [O7,O4] (by kernel_rfl) ?_
  refine TA.tk 0 tI rfl (fun _ hh=>hh.ix 90 [6,9]) (ldN 0) ?_
  refine TA.tk 1 xv rfl (fun _ hh=>hh.ix 90 [6,9]) (ldN 1) ?_
  refine TA.a [2,7] ⟨?_,?_,trivial⟩
  ·
   refine TA.br rfl (W1.cs (vAg eSpot) (DSpot.mk p1.key p1.made) 8 #[xv] sp (fun V u hu=>iU V u _ hu) (fun w' hh=>mu p1 _ rfl w') ?_)
   refine TA.on (fun _ hh=>hh.ix 90 [6,9]) ?_
   refine TA.a [3,7] ⟨?_,?_,trivial⟩
   ·
    refine TA.br rfl (W1.kY 7 #[tI,sp] r3.1 (fun u=>.tuple #[u,vi r3.2]) (fun w' hh=>by have h1:=hh.slM (i:=7) (j:=8) (by rfl) (by rfl);rw [eI];exact lj F p0 (DSpot.mk p1.key p1.made) r3 hb3 w' Ai ci h1) (fun x3 y3 g3 hl3=>?_))
    refine TA.on (fun _ hh=>hh.ix 90 [8,11]) ?_
    refine TA.tp 4 (.tuple #[.agg #[.int .i64 r3.1.root,.slice x3 g3.length y3],.int .i64 r3.2]) rfl (fun _ hh=>hh.ix 90 [8,11]) ?_
    refine TA.tp 5 (.agg #[.int .i64 r3.1.root,.slice x3 g3.length y3]) rfl (fun _ hh=>hh.ix 90 [8,11]) ?_
    refine TA.tp 6 (.int .i64 r3.2) rfl (fun _ hh=>hh.ix 90 [8,11]) ?_
    refine TA.j 7 rfl (W1.np 24 [.int .i64 0,.slice none 0 0] (fun b12=>?_))
    refine TA.on (fun _ hh=>hh.ix 90 [9,12]) ?_
    refine TA.j 8 rfl (W1.st 0 [.int .i64 r3.1.root,.slice x3 g3.length y3] [box b12 24 [.int .i64 r3.1.root,.slice x3 g3.length y3],row 55 eHdr x3 y3 g3,iY fP g3 r3.1.nodes,b10_,R2,Z2,b8_,R1,Z1,O7,RI,ZI,O4,O3] [.int .i64 r3.1.root,.slice x3 g3.length y3] ?_)
    refine TA.on (fun _ hh=>hh.ix 90 [9,12]) ?_
    refine TA.tp 9 (.int .i64 r3.2) rfl (fun _ hh=>hh.ix 90 [9,12]) ?_
    refine TA.d ?_
    exact fun a w' hf hh=>⟨x3,y3,g3,b12,Fr.s hf,hh.ix 90 [0,1,2,3,4,5,6,7,8,9,10,11,12,13]⟩
   ·
    refine TA.br rfl (W1.np 24 [.int .i64 0,.slice none 0 0] (fun b12=>?_))
    refine TA.on (fun _ hh=>hh.ix 90 [7,10]) ?_
    refine TA.j 3 rfl (W1.kY 7 #[tI,sp] r3.1 (fun u=>.tuple #[u,vi r3.2]) (fun w' hh=>by have h1:=hh.slM (i:=8) (j:=9) (by rfl) (by rfl);rw [eI];exact lj F p0 (DSpot.mk p1.key p1.made) r3 hb3 w' Ai ci h1) (fun x3 y3 g3 hl3=>?_))
    refine TA.on (fun _ hh=>hh.ix 90 [9,12]) ?_
    refine TA.tp 4 (.tuple #[.agg #[.int .i64 r3.1.root,.slice x3 g3.length y3],.int .i64 r3.2]) rfl (fun _ hh=>hh.ix 90 [9,12]) ?_
    refine TA.tp 5 (.agg #[.int .i64 r3.1.root,.slice x3 g3.length y3]) rfl (fun _ hh=>hh.ix 90 [9,12]) ?_
    refine TA.tp 6 (.int .i64 r3.2) rfl (fun _ hh=>hh.ix 90 [9,12]) ?_
    refine TA.j 8 rfl (W1.st 2 [.int .i64 r3.1.root,.slice x3 g3.length y3] [row 55 eHdr x3 y3 g3,iY fP g3 r3.1.nodes,box b12 24 [.int .i64 r3.1.root,.slice x3 g3.length y3],b10_,R2,Z2,b8_,R1,Z1,O7,RI,ZI,O4,O3] [.int .i64 r3.1.root,.slice x3 g3.length y3] ?_)
    refine TA.on (fun _ hh=>hh.ix 90 [9,12]) ?_
    refine TA.tp 9 (.int .i64 r3.2) rfl (fun _ hh=>hh.ix 90 [9,12]) ?_
    refine TA.d ?_
    exact fun a w' hf hh=>⟨x3,y3,g3,b12,Fr.s hf,hh.ix 90 [2,0,1,3,4,5,6,7,8,9,10,11,12,13]⟩
  ·
   refine TA.br rfl (W1.np 24 [.int .i64 0,.slice none 0 0] (fun b12=>?_))
   refine TA.on (fun _ hh=>hh.ix 90 [7,10]) ?_
   refine TA.j 2 rfl (W1.cs (vAg eSpot) (DSpot.mk p1.key p1.made) 8 #[xv] sp (fun V u hu=>iU V u _ hu) (fun w' hh=>mu p1 _ rfl w') ?_)
   refine TA.on (fun _ hh=>hh.ix 90 [7,10]) ?_
   refine TA.j 3 rfl (W1.kY 7 #[tI,sp] r3.1 (fun u=>.tuple #[u,vi r3.2]) (fun w' hh=>by have h1:=hh.slM (i:=8) (j:=9) (by rfl) (by rfl);rw [eI];exact lj F p0 (DSpot.mk p1.key p1.made) r3 hb3 w' Ai ci h1) (fun x3 y3 g3 hl3=>?_))
   refine TA.on (fun _ hh=>hh.ix 90 [9,12]) ?_
   refine TA.tp 4 (.tuple #[.agg #[.int .i64 r3.1.root,.slice x3 g3.length y3],.int .i64 r3.2]) rfl (fun _ hh=>hh.ix 90 [9,12]) ?_
   refine TA.tp 5 (.agg #[.int .i64 r3.1.root,.slice x3 g3.length y3]) rfl (fun _ hh=>hh.ix 90 [9,12]) ?_
   refine TA.tp 6 (.int .i64 r3.2) rfl (fun _ hh=>hh.ix 90 [9,12]) ?_
   refine TA.j 8 rfl (W1.st 2 [.int .i64 r3.1.root,.slice x3 g3.length y3] [row 55 eHdr x3 y3 g3,iY fP g3 r3.1.nodes,box b12 24 [.int .i64 r3.1.root,.slice x3 g3.length y3],b10_,R2,Z2,b8_,R1,Z1,O7,RI,ZI,O4,O3] [.int .i64 r3.1.root,.slice x3 g3.length y3] ?_)
   refine TA.on (fun _ hh=>hh.ix 90 [9,12]) ?_
   refine TA.tp 9 (.int .i64 r3.2) rfl (fun _ hh=>hh.ix 90 [9,12]) ?_
   refine TA.d ?_
   exact fun a w' hf hh=>⟨x3,y3,g3,b12,Fr.s hf,hh.ix 90 [2,0,1,3,4,5,6,7,8,9,10,11,12,13]⟩
 rintro a w' ⟨x3,y3,g3,b12,hf,hh⟩
 revert hf hh
 refine T.i ?_
 let R3:HObj:=row 55 eHdr x3 y3 g3
 let Z3:HObj:=iY fP g3 r3.1.nodes
 let b12_:HObj:=box b12 24 [.int .i64 r3.1.root,.slice x3 g3.length y3]
 refine T.sr (T.l tI (ldN 9) ?_)
 refine T.k (pB b4 0) ?_
 refine T.l ky (ldN 12) ?_
 refine T.k (pB b4 5) ?_
 refine T.l (.string p1.val) (ld1 12) ?_
 refine T.k (pB b4 3) ?_
 refine T.l (.int .i64 p1.made) (ld1 12) ?_
 refine T.gO (W1.kY 9 #[tI,ky,.string p1.val,.int .i64 p1.made] r4.1 (fun u=>.tuple #[u,vi r4.2]) (fun w' hh=>by have h1:=hh.slM (i:=10) (j:=11) (by rfl) (by rfl);rw [eI];exact qy F p0 p1.key p1.val p1.made r4 hb4 w' Ai ci h1) (fun x4 y4 g4 hl4=>?_))
 let R4:HObj:=row 55 eHdr x4 y4 g4
 let Z4:HObj:=iY fP g4 r4.1.nodes
 let C4:List Value:=[.int .i64 r4.1.root,.slice x4 g4.length y4]
 refine T.k3 (.tuple #[.agg C4.toArray,.int .i64 r4.2]) (.agg C4.toArray) (.int .i64 r4.2) ?_
 refine T.gO (W1.np 24 [.int .i64 0,.slice none 0 0] (fun b14=>?_))
 let b14_:HObj:=box b14 24 C4
 refine T.gO (W1.st 0 C4 [b14_,R4,Z4,b12_,R3,Z3,b10_,R2,Z2,b8_,R1,Z1,O7,RI,ZI,O4,O3] C4 ?_)
 refine T.k (.int .i64 r4.2) (T.gN ?_)
 refine T.sr (T.l tI (ldN 12) ?_)
 refine T.k (pB b4 0) ?_
 refine T.l ky (ldN 15) ?_
 refine T.k (pB b4 3) ?_
 refine T.l (.int .i64 p1.made) (ld1 15) ?_
 refine T.gO (W1.kY 10 #[tI,ky,.int .i64 p1.made] r5.1 (fun u=>.tuple #[u,vi r5.2]) (fun w' hh=>by have h1:=hh.slM (i:=13) (j:=14) (by rfl) (by rfl);rw [eI];exact qx F p0 p1.key p1.made r5 hb5 w' Ai ci h1) (fun x5 y5 g5 hl5=>?_))
 let R5:HObj:=row 55 eHdr x5 y5 g5
 let Z5:HObj:=iY fP g5 r5.1.nodes
 let C5:List Value:=[.int .i64 r5.1.root,.slice x5 g5.length y5]
 refine T.k3 (.tuple #[.agg C5.toArray,.int .i64 r5.2]) (.agg C5.toArray) (.int .i64 r5.2) ?_
 refine T.gO (W1.np 24 [.int .i64 0,.slice none 0 0] (fun b16=>?_))
 let b16_:HObj:=box b16 24 C5
 refine T.gO (W1.st 0 C5 [b16_,R5,Z5,b14_,R4,Z4,b12_,R3,Z3,b10_,R2,Z2,b8_,R1,Z1,O7,RI,ZI,O4,O3] C5 ?_)
 refine T.k (.int .i64 r5.2) (T.gN ?_)
 refine T.sr (T.l tI (ldN 15) ?_)
 refine T.gO (W1.kY 11 #[tI] r6.1 (fun u=>.tuple #[u,vi r6.2]) (fun w' hh=>by have h1:=hh.slM (i:=16) (j:=17) (by rfl) (by rfl);rw [eI];exact pJ F p0 r6 hb6 w' Ai ci h1) (fun x6 y6 g6 hl6=>?_))
 let R6:HObj:=row 55 eHdr x6 y6 g6
 let Z6:HObj:=iY fP g6 r6.1.nodes
 let C6:List Value:=[.int .i64 r6.1.root,.slice x6 g6.length y6]
 refine T.k3 (.tuple #[.agg C6.toArray,.int .i64 r6.2]) (.agg C6.toArray) (.int .i64 r6.2) ?_
 refine T.gO (W1.np 24 [.int .i64 0,.slice none 0 0] (fun b18=>?_))
 let b18_:HObj:=box b18 24 C6
 refine T.gO (W1.st 0 C6 [b18_,R6,Z6,b16_,R5,Z5,b14_,R4,Z4,b12_,R3,Z3,b10_,R2,Z2,b8_,R1,Z1,O7,RI,ZI,O4,O3] C6 ?_)
 refine T.k (.int .i64 r6.2) (T.gN ?_)
 refine T.sr (T.l tI (ldN 18) ?_)
 refine T.k (.slice A2 p2.length c2) ?_
 refine T.gO (W1.kY 12 #[tI,.slice A2 p2.length c2,.int .i64 3] r7.1 (fun u=>.tuple #[u,vi r7.2.1,vi r7.2.2]) (fun w' hh=>by have h1:=hh.slM (i:=19) (j:=20) (by rfl) (by rfl);rw [eI];exact pS F p0 p2 3 r7 hb7 w' Ai ci h1 A2 c2 (ia.mono hs2 hh.view)) (fun x7 y7 g7 hl7=>?_))
 let R7:HObj:=row 55 eHdr x7 y7 g7
 let Z7:HObj:=iY fP g7 r7.1.nodes
 let C7:List Value:=[.int .i64 r7.1.root,.slice x7 g7.length y7]
 refine T.k4 (.tuple #[.agg C7.toArray,.int .i64 r7.2.1,.int .i64 r7.2.2]) (.agg C7.toArray) (.int .i64 r7.2.1) (.int .i64 r7.2.2) ?_
 refine T.gO (W1.np 24 [.int .i64 0,.slice none 0 0] (fun b20=>?_))
 let b20_:HObj:=box b20 24 C7
 refine T.gO (W1.st 0 C7 [b20_,R7,Z7,b18_,R6,Z6,b16_,R5,Z5,b14_,R4,Z4,b12_,R3,Z3,b10_,R2,Z2,b8_,R1,Z1,O7,RI,ZI,O4,O3] C7 ?_)
 refine T.k2 (.int .i64 r7.2.1) (.int .i64 r7.2.2) (T.gN ?_)
 refine T.gR ?_
 refine T.sr (T.l tI (ldN 21) ?_)
 refine T.l tA (ldN 25) ?_
 refine T.gO (W1.cs (vSc eBool) true 13 #[tI,tA] (.bool true) (fun V u hu=>jS V u _ hu) (fun w' hh=>by have h1:=hh.slM (i:=22) (j:=23) (by rfl) (by rfl);rw [eI];exact ll F p0 p0 true hsame w' Ai ci h1 A1 c1 (ia.mono hs1 hh.view)) ?_)
 refine T.k2 (.bool false) (.bool false) ?_
 refine T.l tI (ldN 21) ?_
 refine T.gO (W1.cv 14 [tI] (.bool true) [RI,ZI,b20_,R7,Z7,b18_,R6,Z6,b16_,R5,Z5,b14_,R4,Z4,b12_,R3,Z3,b10_,R2,Z2,b8_,R1,Z1,O7,O4,O3] (fun w' hh=>rW p0.root (hh.ix 90 [22,23,0,1,2,3,4,5,6,7,8,9,10,11,12,13,14,15,16,17,18,19,20,21,24,25])) ?_)
 refine T.k2 (.bool false) (.bool false) (T.gN ?_)
 refine T.mw false (by kernel_rfl) (by kernel_rfl) (fun h=>Bool.noConfusion h) (fun _=>?_)
 refine T.gP ?_
 refine T.sr (T.l (.agg C1.toArray) (ldN 20) ?_)
 refine T.l (.agg C2.toArray) (ldN 17) ?_
 refine T.l (.agg #[.int .i64 r3.1.root,.slice x3 g3.length y3]) (ldN 14) ?_
 refine T.l (.agg C4.toArray) (ldN 11) ?_
 refine T.l (.agg C5.toArray) (ldN 8) ?_
 refine T.l (.agg C6.toArray) (ldN 5) ?_
 refine T.l (.agg C7.toArray) (ldN 2) ?_
 refine T.gO (W1.nw 24 [.int .i64 r1.1.root,.slice x1 g1.length y1,.int .i64 r2.1.root,.slice x2 g2.length y2,.int .i64 r3.1.root,.slice x3 g3.length y3,.int .i64 r4.1.root,.slice x4 g4.length y4,.int .i64 r5.1.root,.slice x5 g5.length y5,.int .i64 r6.1.root,.slice x6 g6.length y6,.int .i64 r7.1.root,.slice x7 g7.length y7] (fun b=>.slice (some ⟨b,0,none⟩) 7 7) (fun b97=>?_))
 refine T.nv (E:=eTH) (f:=DTH.cells) (l:=[DTH.mk r1.1.root x1 y1 g1,DTH.mk r2.1.root x2 y2 g2,DTH.mk r3.1.root x3 y3 g3,DTH.mk r4.1.root x4 y4 g4,DTH.mk r5.1.root x5 y5 g5,DTH.mk r6.1.root x6 y6 g6,DTH.mk r7.1.root x7 y7 g7]) 0 [row 24 eTH (some ⟨b97,0,none⟩) 7 [DTH.mk r1.1.root x1 y1 g1,DTH.mk r2.1.root x2 y2 g2,DTH.mk r3.1.root x3 y3 g3,DTH.mk r4.1.root x4 y4 g4,DTH.mk r5.1.root x5 y5 g5,DTH.mk r6.1.root x6 y6 g6,DTH.mk r7.1.root x7 y7 g7],RI,ZI,b20_,R7,Z7,b18_,R6,Z6,b16_,R5,Z5,b14_,R4,Z4,b12_,R3,Z3,b10_,R2,Z2,b8_,R1,Z1,O7,O4,O3] (by rfl) (fun _ _=>rfl) (by show 0 < 7;decide) (by show 7≤maxLen;unfold maxLen;omega) (by rfl) ?_
 refine T.k (.slice (some ⟨b97,0,none⟩) 7 7) (T.gN ?_)
 refine T.tr (H':=[row 24 eTH (some ⟨b97,0,none⟩) 7 [DTH.mk r1.1.root x1 y1 g1,DTH.mk r2.1.root x2 y2 g2,DTH.mk r3.1.root x3 y3 g3,DTH.mk r4.1.root x4 y4 g4,DTH.mk r5.1.root x5 y5 g5,DTH.mk r6.1.root x6 y6 g6,DTH.mk r7.1.root x7 y7 g7],iY fT [DTH.mk r1.1.root x1 y1 g1,DTH.mk r2.1.root x2 y2 g2,DTH.mk r3.1.root x3 y3 g3,DTH.mk r4.1.root x4 y4 g4,DTH.mk r5.1.root x5 y5 g5,DTH.mk r6.1.root x6 y6 g6,DTH.mk r7.1.root x7 y7 g7] [r1.1,r2.1,r3.1,r4.1,r5.1,r6.1,r7.1],O7,RI,ZI]) (fun w' hh=>?_) ?_
 ·
  have q0:Hp w (vw w) [iY fT [] [],R1,Z1,R2,Z2,R3,Z3,R4,Z4,R5,Z5,R6,Z6,R7,Z7,row 24 eTH (some ⟨b97,0,none⟩) 7 [DTH.mk r1.1.root x1 y1 g1,DTH.mk r2.1.root x2 y2 g2,DTH.mk r3.1.root x3 y3 g3,DTH.mk r4.1.root x4 y4 g4,DTH.mk r5.1.root x5 y5 g5,DTH.mk r6.1.root x6 y6 g6,DTH.mk r7.1.root x7 y7 g7],O7,RI,ZI] w':=Hp.zNil fT (hh.ix 90 [22,23,19,20,16,17,13,14,10,11,7,8,4,5,0,24,1,2])
  have q1:Hp w (vw w) [iY fT [DTH.mk r7.1.root x7 y7 g7] [r7.1],R1,Z1,R2,Z2,R3,Z3,R4,Z4,R5,Z5,R6,Z6,row 24 eTH (some ⟨b97,0,none⟩) 7 [DTH.mk r1.1.root x1 y1 g1,DTH.mk r2.1.root x2 y2 g2,DTH.mk r3.1.root x3 y3 g3,DTH.mk r4.1.root x4 y4 g4,DTH.mk r5.1.root x5 y5 g5,DTH.mk r6.1.root x6 y6 g6,DTH.mk r7.1.root x7 y7 g7],O7,RI,ZI] w':=Hp.consT (h:=DTH.mk r7.1.root x7 y7 g7) (t:=r7.1) rfl (q0.ix 90 [13,14,0,1,2,3,4,5,6,7,8,9,10,11,12,15,16,17,18])
  have q2:Hp w (vw w) [iY fT [DTH.mk r6.1.root x6 y6 g6,DTH.mk r7.1.root x7 y7 g7] [r6.1,r7.1],R1,Z1,R2,Z2,R3,Z3,R4,Z4,R5,Z5,row 24 eTH (some ⟨b97,0,none⟩) 7 [DTH.mk r1.1.root x1 y1 g1,DTH.mk r2.1.root x2 y2 g2,DTH.mk r3.1.root x3 y3 g3,DTH.mk r4.1.root x4 y4 g4,DTH.mk r5.1.root x5 y5 g5,DTH.mk r6.1.root x6 y6 g6,DTH.mk r7.1.root x7 y7 g7],O7,RI,ZI] w':=Hp.consT (h:=DTH.mk r6.1.root x6 y6 g6) (t:=r6.1) rfl (q1.ix 90 [11,12,0,1,2,3,4,5,6,7,8,9,10,13,14,15,16])
  have q3:Hp w (vw w) [iY fT [DTH.mk r5.1.root x5 y5 g5,DTH.mk r6.1.root x6 y6 g6,DTH.mk r7.1.root x7 y7 g7] [r5.1,r6.1,r7.1],R1,Z1,R2,Z2,R3,Z3,R4,Z4,row 24 eTH (some ⟨b97,0,none⟩) 7 [DTH.mk r1.1.root x1 y1 g1,DTH.mk r2.1.root x2 y2 g2,DTH.mk r3.1.root x3 y3 g3,DTH.mk r4.1.root x4 y4 g4,DTH.mk r5.1.root x5 y5 g5,DTH.mk r6.1.root x6 y6 g6,DTH.mk r7.1.root x7 y7 g7],O7,RI,ZI] w':=Hp.consT (h:=DTH.mk r5.1.root x5 y5 g5) (t:=r5.1) rfl (q2.ix 90 [9,10,0,1,2,3,4,5,6,7,8,11,12,13,14])
  have q4:Hp w (vw w) [iY fT [DTH.mk r4.1.root x4 y4 g4,DTH.mk r5.1.root x5 y5 g5,DTH.mk r6.1.root x6 y6 g6,DTH.mk r7.1.root x7 y7 g7] [r4.1,r5.1,r6.1,r7.1],R1,Z1,R2,Z2,R3,Z3,row 24 eTH (some ⟨b97,0,none⟩) 7 [DTH.mk r1.1.root x1 y1 g1,DTH.mk r2.1.root x2 y2 g2,DTH.mk r3.1.root x3 y3 g3,DTH.mk r4.1.root x4 y4 g4,DTH.mk r5.1.root x5 y5 g5,DTH.mk r6.1.root x6 y6 g6,DTH.mk r7.1.root x7 y7 g7],O7,RI,ZI] w':=Hp.consT (h:=DTH.mk r4.1.root x4 y4 g4) (t:=r4.1) rfl (q3.ix 90 [7,8,0,1,2,3,4,5,6,9,10,11,12])
  have q5:Hp w (vw w) [iY fT [DTH.mk r3.1.root x3 y3 g3,DTH.mk r4.1.root x4 y4 g4,DTH.mk r5.1.root x5 y5 g5,DTH.mk r6.1.root x6 y6 g6,DTH.mk r7.1.root x7 y7 g7] [r3.1,r4.1,r5.1,r6.1,r7.1],R1,Z1,R2,Z2,row 24 eTH (some ⟨b97,0,none⟩) 7 [DTH.mk r1.1.root x1 y1 g1,DTH.mk r2.1.root x2 y2 g2,DTH.mk r3.1.root x3 y3 g3,DTH.mk r4.1.root x4 y4 g4,DTH.mk r5.1.root x5 y5 g5,DTH.mk r6.1.root x6 y6 g6,DTH.mk r7.1.root x7 y7 g7],O7,RI,ZI] w':=Hp.consT (h:=DTH.mk r3.1.root x3 y3 g3) (t:=r3.1) rfl (q4.ix 90 [5,6,0,1,2,3,4,7,8,9,10])
  have q6:Hp w (vw w) [iY fT [DTH.mk r2.1.root x2 y2 g2,DTH.mk r3.1.root x3 y3 g3,DTH.mk r4.1.root x4 y4 g4,DTH.mk r5.1.root x5 y5 g5,DTH.mk r6.1.root x6 y6 g6,DTH.mk r7.1.root x7 y7 g7] [r2.1,r3.1,r4.1,r5.1,r6.1,r7.1],R1,Z1,row 24 eTH (some ⟨b97,0,none⟩) 7 [DTH.mk r1.1.root x1 y1 g1,DTH.mk r2.1.root x2 y2 g2,DTH.mk r3.1.root x3 y3 g3,DTH.mk r4.1.root x4 y4 g4,DTH.mk r5.1.root x5 y5 g5,DTH.mk r6.1.root x6 y6 g6,DTH.mk r7.1.root x7 y7 g7],O7,RI,ZI] w':=Hp.consT (h:=DTH.mk r2.1.root x2 y2 g2) (t:=r2.1) rfl (q5.ix 90 [3,4,0,1,2,5,6,7,8])
  have q7:Hp w (vw w) [iY fT [DTH.mk r1.1.root x1 y1 g1,DTH.mk r2.1.root x2 y2 g2,DTH.mk r3.1.root x3 y3 g3,DTH.mk r4.1.root x4 y4 g4,DTH.mk r5.1.root x5 y5 g5,DTH.mk r6.1.root x6 y6 g6,DTH.mk r7.1.root x7 y7 g7] [r1.1,r2.1,r3.1,r4.1,r5.1,r6.1,r7.1],row 24 eTH (some ⟨b97,0,none⟩) 7 [DTH.mk r1.1.root x1 y1 g1,DTH.mk r2.1.root x2 y2 g2,DTH.mk r3.1.root x3 y3 g3,DTH.mk r4.1.root x4 y4 g4,DTH.mk r5.1.root x5 y5 g5,DTH.mk r6.1.root x6 y6 g6,DTH.mk r7.1.root x7 y7 g7],O7,RI,ZI] w':=Hp.consT (h:=DTH.mk r1.1.root x1 y1 g1) (t:=r1.1) rfl (q6.ix 90 [1,2,0,3,4,5,6])
  exact q7.ix 90 [1,0,2,3,4]
 generalize hAH : [DTH.mk r1.1.root x1 y1 g1,DTH.mk r2.1.root x2 y2 g2,DTH.mk r3.1.root x3 y3 g3,DTH.mk r4.1.root x4 y4 g4,DTH.mk r5.1.root x5 y5 g5,DTH.mk r6.1.root x6 y6 g6,DTH.mk r7.1.root x7 y7 g7]=AH at *
 generalize hAD : [r1.1,r2.1,r3.1,r4.1,r5.1,r6.1,r7.1]=AD at *
 have hn7:AH.length=7:=by rw [← hAH];rfl
 have hn8:AD.length=7:=by rw [← hAD];rfl
 let RA:HObj:=row 24 eTH (some ⟨b97,0,none⟩) 7 AH
 refine T.sr (T.k (.slice none 0 0) (T.gN ?_))
 refine T.gR ?_
 refine T.sr (T.k3 (.slice (some ⟨b97,0,none⟩) 7 7) (vi 7) (vi 0) (T.gN ?_))
 refine T.jf (fun a w'=>∃(B:Option Addr) (bc:Nat) (gs:List DTH),Fr 146 [(6,.bool false),(7,pB b7 0),(23,.slice (some ⟨b97,0,none⟩) 7 7),(24,.slice B gs.length bc)] a∧Hp w (vw w) [RA,iY fT AH AD,row 24 eTH B bc gs,iY fW gs AD,O7,RI,ZI] w') ?_ ?_
 ·
  refine T.ic ?_
  refine T.kh 7 (fun k a w'=>∃(B:Option Addr) (bc:Nat) (gs:List DTH),Fr 146 [(6,.bool false),(7,pB b7 0),(23,.slice (some ⟨b97,0,none⟩) 7 7),(24,.slice B gs.length bc),(101,.slice (some ⟨b97,0,none⟩) 7 7),(102,vi 7),(103,vi (k:Int))] a∧Hp w (vw w) [RA,iY fT AH AD,row 24 eTH B bc gs,iY fW gs (AD.take k),O7,RI,ZI] w') ?_ ?_ ?_
  · exact fun a w' hf hh=>⟨none,0,[],Fr.s hf,(Hp.nilRow (Hp.zNil fW hh)).ix 90 [2,3,0,1,4,5,6]⟩
  ·
   rintro k hk a w' ⟨B,bc,gs,hf,hh⟩
   revert hf hh
   refine T.i ?_
   obtain⟨h,hh1⟩ : ∃ h,AH[k]? = some h:=⟨_,List.getElem?_eq_getElem (by omega)⟩
   obtain⟨d,hd⟩ : ∃ d,AD[k]? = some d:=⟨_,List.getElem?_eq_getElem (by omega)⟩
   obtain⟨fd1,fd2⟩:=mC (rG hall hd)
   refine T.pW (p:=h.root=d.root) 1 (by rfl) hh1 hd rfl (fun hft=>?_)
   obtain⟨hr_,ha,hc_,hg⟩:=h
   dsimp only at hft
   subst hft
   refine T.nf 3 (by rfl) (fun hgl=>?_)
   rw [List.length_take,Nat.min_eq_left (by omega)] at hgl
   refine T.sr (T.k (.bool (decide ((k:Int) < (7:Int)))) (T.gN (T.gR (T.cb (decide ((k:Int) < (7:Int))) (fun hc=>T.gP (T.gR (T.ic ?_))) (fun hc=>absurd (of_decide_eq_false hc) (by omega))))))
   let uc:List Value:=[.int .i64 d.root,.slice ha hg.length hc_]
   refine T.gR (T.gQ (T.l (.pointer (some ((iC (some ⟨b97,0,none⟩)).add ((k:Int).toNat * 2)))) (fun w' hh=>ib (e:=24) (s:=2) (n:=7) (c:=7) (iv:=(k:Int)) (k:=.i64) rfl rfl rfl (by kernel_rfl) (by kernel_rfl) (by omega) (by omega) rfl) ?_))
   refine T.l (.agg (List.toArray uc)) (fun w' hh=>kj (cs:=uc) rfl rfl (by kernel_rfl) (by kernel_rfl) (fun j u hj=>ia.wcellF (E:=eTH) (hh.row_slOk (i:=0) (by rfl)) (k:=k) hh1 j (fun _ _ _ h=>h) hj)) ?_
   refine T.gO (W1.np 24 [.int .i64 0,.slice none 0 0] (fun b26=>?_))
   refine T.gO (W1.st 0 uc [box b26 24 uc,RA,iY fT AH AD,row 24 eTH B bc gs,iY fW gs (AD.take k),O7,RI,ZI] uc (T.gN ?_))
   refine T.gQ (T.k (.slice B gs.length bc) ?_)
   refine T.l (.agg uc.toArray) (ldN 0) ?_
   refine T.gO (W1.jO 4 #[.agg uc.toArray] (fun p:Option Addr × Nat × List DHdr=>.agg #[.int .i64 d.root,.slice p.1 p.2.2.length p.2.1]) (fun p=>[row 55 eHdr p.1 p.2.1 p.2.2,iY fM p.2.2 d.nodes]) (fun p=>p.2.2.length=d.nodes.length) (by kernel_rfl) (fun _=>by kernel_rfl) (fun w' hh=>by have h3:=hh.zAtI (i:=2) (by rfl) hh1 hd;have h6:hg.length=d.nodes.length:=h3.zLen (i:=2) rfl;have e6:uc=[.int .i64 d.root,.slice ha d.nodes.length hc_]:=(by show [_,Value.slice ha (List.length hg) hc_]=_;rw [h6]);rw [e6];exact oZ d fd1 w' ha hc_ (h3.slP (i:=1) (j:=2) rfl rfl)) ?_)
   rintro⟨z1,z2,zs⟩ hl_
   dsimp only at hl_
   refine T.iH (H':=[row 55 eHdr z1 z2 zs,iY fM zs d.nodes,box b26 24 uc,RA,iY fT AH AD,row 24 eTH B bc gs,iY fW gs (AD.take k),O7,RI,ZI]) (by rfl) ?_
   have hlz:zs.length=d.nodes.length:=hl_
   refine T.gO (W1.ns 24 [.int .i64 d.root,.slice z1 zs.length z2] (fun b118=>?_))
   refine T.gO (W1.a (E:=eTH) (l:=gs) (m:=[(DTH.mk d.root z1 z2 zs)]) 6 32 (info_parts (P:=Tryz.prog) (e:=24) (z:=.agg #[.int .i64 0,.slice none 0 0]) (size:=2) (bytes:=32) (by kernel_rfl)) (fun w' hh=>rg (E:=eTH) hh (i:=0) (by rfl) rfl) (decide_eq_true (by show (gs.length + 1) * 32≤_;omega)) (by show gs.length + 1≤_;unfold maxLen;omega) (fun B' bc'=>?_))
   refine T.iH (H':=[box b118 24 [.int .i64 d.root,.slice z1 zs.length z2],row 55 eHdr z1 z2 zs,iY fM zs d.nodes,box b26 24 uc,RA,iY fT AH AD,row 24 eTH B' bc' (gs ++ [(DTH.mk d.root z1 z2 zs)]),iY fW gs (AD.take k),O7,RI,ZI]) (by rfl) ?_
   refine T.k (.slice B' (gs ++ [(DTH.mk d.root z1 z2 zs)]).length bc') (T.gN ?_)
   refine T.tr (H':=[RA,iY fT AH AD,row 24 eTH B' bc' (gs ++ [(DTH.mk d.root z1 z2 zs)]),iY fW (gs ++ [(DTH.mk d.root z1 z2 zs)]) (AD.take k ++ [d]),O7,RI,ZI]) (fun w' hh=>(Hp.zPush (f:=fW) (a:=(DTH.mk d.root z1 z2 zs)) (b:=d) (Hp.put (hh.ix 90 [1,2,7,4,5,6,8,9,10]) (show ((DTH.mk d.root z1 z2 zs)).root=d.root from rfl))).ix 90 [1,2,3,0,4,5,6]) ?_
   refine T.gQ (T.k (vi (IntKind.i64.wrap ((k:Int) + 1))) (T.ie 112 (vi ((k + 1:Nat) : Int)) rfl (wk (n:=k) (k:=1) (m:=7) hk (by decide)) (T.k (vi ((k + 1:Nat) : Int)) (T.gN ?_))))
   exact fun a w' hf hh=>⟨B',bc',_,Fr.s hf,by rw [List.take_add_one,hd,Option.toList_some];exact hh⟩
  ·
   rintro a w' ⟨B,bc,gs,hf,hh⟩
   revert hf hh
   refine T.i ?_
   refine T.sr (T.k (.bool (decide ((7:Int) < (7:Int)))) (T.gN (T.gR (T.cb (decide ((7:Int) < (7:Int))) (fun hc=>absurd (of_decide_eq_true hc) (by omega)) (fun hc=>T.iE (T.iN (T.iN (T.jT ?_))))))))
   exact fun a w' hf hh=>⟨B,bc,gs,Fr.s hf,by rw [List.take_of_length_le (by omega)] at hh;exact hh⟩
 rintro a w' ⟨B,bc,gs,hf,hh⟩
 revert hf hh
 refine T.i ?_
 refine T.sr (T.l tI (ldN 4) ?_)
 refine T.gO (W1.cv 15 [tI] (.tuple #[]) [RA,iY fT AH AD,row 24 eTH B bc gs,iY fW gs AD,O7] (fun w' hh=>nb p0.root ((Hp.zMap (fun a b X hx=>tQ a b X hx) (hh.ix 90 [6,5,0,1,2,3,4])).ix 2 [1,0])) (T.gN ?_))
 refine T.gR ?_
 refine T.sr (T.k3 (.slice (some ⟨b97,0,none⟩) 7 7) (vi 7) (vi 0) (T.gN ?_))
 refine T.jf (fun a w'=>Fr 146 [(6,.bool false)] a∧Hp w (vw w) [] w') ?_ ?_
 ·
  refine T.ic ?_
  refine T.kh 7 (fun k a w'=>Fr 146 [(6,.bool false),(24,.slice B gs.length bc),(115,.slice (some ⟨b97,0,none⟩) 7 7),(116,vi 7),(117,vi (k:Int))] a∧Hp w (vw w) [RA,iY fT (AH.drop k) (AD.drop k),row 24 eTH B bc gs,iY fW gs AD] w') ?_ ?_ ?_
  · exact fun a w' hf hh=>⟨Fr.s hf,hh.ix 90 [0,1,2,3]⟩
  ·
   rintro k hk a w' ⟨hf,hh⟩
   revert hf hh
   refine T.i ?_
   obtain⟨h,hh1⟩ : ∃ h,AH[k]? = some h:=⟨_,List.getElem?_eq_getElem (by omega)⟩
   obtain⟨d,hd⟩ : ∃ d,AD[k]? = some d:=⟨_,List.getElem?_eq_getElem (by omega)⟩
   obtain⟨fd1,fd2⟩:=mC (rG hall hd)
   refine T.nf 3 (by rfl) (fun hgl=>?_)
   obtain⟨g,hg1⟩ : ∃ g,gs[k]? = some g:=⟨_,List.getElem?_eq_getElem (by omega)⟩
   refine T.pW (p:=g.root=d.root) 3 (by rfl) hg1 hd rfl (fun hft=>?_)
   obtain⟨gr,ga,gc,gg⟩:=g
   dsimp only at hft
   subst hft
   have e1:AH.drop k=h::AH.drop (k + 1):=by rw [List.drop_eq_getElem_cons (by omega),← (List.getElem?_eq_some_iff.1 hh1).2]
   have e2:AD.drop k=d::AD.drop (k + 1):=by rw [List.drop_eq_getElem_cons (by omega),← (List.getElem?_eq_some_iff.1 hd).2]
   rw [e1,e2]
   refine T.pW (k:=0) (a:=h) (b:=d) (p:=h.root=d.root) 1 (by rfl) rfl rfl rfl (fun hft=>?_)
   obtain⟨hr_,ha,hc_,hg⟩:=h
   dsimp only at hft
   subst hft
   refine T.tr (H':=[row 55 eHdr ha hc_ hg,iY fP hg d.nodes,iY fT (AH.drop (k + 1)) (AD.drop (k + 1)),RA,row 24 eTH B bc gs,iY fW gs AD]) (fun w' hh=>(Hp.zPop (f:=fT) (a:=DTH.mk d.root ha hc_ hg) (b:=d) (hh.ix 90 [1,0,2,3])).sub (.cons _ (List.Sublist.refl _))) ?_
   refine T.nf 1 (by rfl) (fun hlu=>?_)
   refine T.sr (T.k (.bool (decide ((k:Int) < (7:Int)))) (T.gN (T.gR (T.cb (decide ((k:Int) < (7:Int))) (fun hc=>T.gP (T.gR (T.ic ?_))) (fun hc=>absurd (of_decide_eq_false hc) (by omega))))))
   refine T.gR (T.gQ (T.k (vi (k:Int)) ?_))
   refine T.l (.pointer (some ((iC (some ⟨b97,0,none⟩)).add ((k:Int).toNat * 2)))) (fun w' hh=>ib (e:=24) (s:=2) (n:=7) (c:=7) (iv:=(k:Int)) (k:=.i64) rfl rfl rfl (by kernel_rfl) (by kernel_rfl) (by omega) (by omega) rfl) ?_
   refine T.l (.agg (List.toArray [.int .i64 d.root,.slice ha hg.length hc_])) (fun w' hh=>kj (cs:=[.int .i64 d.root,.slice ha hg.length hc_]) rfl rfl (by kernel_rfl) (by kernel_rfl) (fun j u hj=>ia.wcellF (E:=eTH) (hh.row_slOk (i:=3) (by rfl)) (k:=k) hh1 j (fun _ _ _ h=>h) hj)) ?_
   refine T.gO (W1.np 24 [.int .i64 0,.slice none 0 0] (fun b28=>?_))
   refine T.k (vi (k:Int)) ?_
   refine T.gO (W1.st 0 [.int .i64 d.root,.slice ha hg.length hc_] [box b28 24 [.int .i64 d.root,.slice ha hg.length hc_],row 55 eHdr ha hc_ hg,iY fP hg d.nodes,iY fT (AH.drop (k + 1)) (AD.drop (k + 1)),RA,row 24 eTH B bc gs,iY fW gs AD] [.int .i64 d.root,.slice ha hg.length hc_] (T.gN ?_))
   refine T.gR ?_
   refine T.gR ?_
   refine T.jf (fun a w'=>Fr 146 [(6,.bool false),(24,.slice B gs.length bc),(115,.slice (some ⟨b97,0,none⟩) 7 7),(116,vi 7),(117,vi (k:Int)),(27,vi (k:Int)),(28,pB b28 0),(128,.bool false)] a∧Hp w (vw w) [box b28 24 [.int .i64 d.root,.slice ha hg.length hc_],row 55 eHdr ha hc_ hg,iY fP hg d.nodes,iY fT (AH.drop (k + 1)) (AD.drop (k + 1)),RA,row 24 eTH B bc gs,iY fW gs AD] w') ?_ ?_
   ·
    refine T.jH [box b28 24 [.int .i64 d.root,.slice ha hg.length hc_],row 24 eTH B bc gs] (by kernel_rfl) ?_
    refine TA.tk 0 (.agg #[.int .i64 d.root,.slice ha hg.length hc_]) rfl (fun _ hh=>hh.ix 90 [0,5]) (ldN 0) ?_
    refine TA.tp 1 (.slice B gs.length bc) rfl (fun _ hh=>hh.ix 90 [0,5]) ?_
    refine TA.tp 2 (vi (k:Int)) rfl (fun _ hh=>hh.ix 90 [0,5]) ?_
    refine TA.tk 3 (.pointer (some ((iC B).add ((k:Int).toNat * 2)))) rfl (fun _ hh=>hh.ix 90 [0,5]) (fun w' hh=>ib (e:=24) (s:=2) (n:=gs.length) (c:=bc) (iv:=(k:Int)) (k:=.i64) rfl rfl rfl (by kernel_rfl) (by kernel_rfl) (by omega) (by omega) ((hh.row_slOk (i:=1) (by rfl)).some_ (k:=k) hg1 (by decide))) ?_
    refine TA.tk 4 (.agg #[.int .i64 d.root,.slice ga gg.length gc]) rfl (fun _ hh=>hh.ix 90 [0,5]) (fun w' hh=>kj (cs:=[.int .i64 d.root,.slice ga gg.length gc]) rfl rfl (by kernel_rfl) (by kernel_rfl) (fun j u hj=>ia.wcellF (E:=eTH) (hh.row_slOk (i:=1) (by rfl)) (k:=k) hg1 j (fun _ _ _ h=>h) hj)) ?_
    refine TA.j 5 rfl (W1.cs (vSc eBool) true 13 #[.agg #[.int .i64 d.root,.slice ha hg.length hc_],.agg #[.int .i64 d.root,.slice ga gg.length gc]] (.bool true) (fun V u hu=>jS V u _ hu) (fun w' hh=>by have h3:=hh.zAtI (i:=6) (by rfl) hg1 hd;have h4:=h3.slM (i:=1) (j:=2) rfl rfl;have h5:=hh.slP (i:=1) (j:=2) (by rfl) (by rfl);have h2:=ll F d d true fd2 w' ha hc_ h5 ga gc h4;have h6:gg.length=d.nodes.length:=h3.zLen (i:=2) rfl;rw [hlu,h6];exact h2) ?_)
    refine TA.on (fun _ hh=>hh.ix 90 [0,5]) ?_
    refine TA.tp 6 (.bool false) rfl (fun _ hh=>hh.ix 90 [0,5]) ?_
    refine TA.d ?_
    exact fun a w' hf hh=>⟨Fr.s hf,hh⟩
   rintro a w' ⟨hf,hh⟩
   revert hf hh
   refine T.i ?_
   refine T.mw false (by kernel_rfl) (by kernel_rfl) (fun h=>Bool.noConfusion h) (fun _=>?_)
   refine T.gP ?_
   refine T.gQ (T.l (.agg #[.int .i64 d.root,.slice ha hg.length hc_]) (ldN 0) ?_)
   refine T.gO (W1.cv 15 [.agg #[.int .i64 d.root,.slice ha hg.length hc_]] (.tuple #[]) [box b28 24 [.int .i64 d.root,.slice ha hg.length hc_],iY fT (AH.drop (k + 1)) (AD.drop (k + 1)),RA,row 24 eTH B bc gs,iY fW gs AD] (fun w' hh=>nb d.root ((Hp.toS (hh.ix 90 [2,1,0,3,4,5,6])).ix 2 [1,0])) (T.gN ?_))
   refine T.gQ (T.k (vi (IntKind.i64.wrap ((k:Int) + 1))) (T.ie 131 (vi ((k + 1:Nat) : Int)) rfl (wk (n:=k) (k:=1) (m:=7) hk (by decide)) (T.k (vi ((k + 1:Nat) : Int)) (T.gN ?_))))
   exact fun a w' hf hh=>⟨Fr.s hf,hh.ix 90 [2,1,3,4]⟩
  ·
   rintro a w' ⟨hf,hh⟩
   revert hf hh
   refine T.i ?_
   refine T.sr (T.k (.bool (decide ((7:Int) < (7:Int)))) (T.gN (T.gR (T.cb (decide ((7:Int) < (7:Int))) (fun hc=>absurd (of_decide_eq_true hc) (by omega)) (fun hc=>T.iE (T.iN (T.iN (T.jT ?_))))))))
   exact fun a w' hf hh=>⟨Fr.s hf,hh.sub kp0⟩
 rintro a w' ⟨hf,hh⟩
 revert hf hh
 refine T.i ?_
 refine T.sr (T.gO (W1.cs (vAg eElem) rH 18 #[.int .i64 1,.string (ByteArray.mk #[97])] (.agg #[.int .i64 0,.int .i64 0,.int .i64 1,.int .i64 1,.int .i64 0,.string (ByteArray.mk #[97])]) (fun V u hu=>mg V u _ hu) (fun w' hh=>oq 1 (ByteArray.mk #[97]) rH rfl w') ?_))
 refine T.gO (W1.ns 28 [.int .i64 0,.int .i64 0,.int .i64 1,.int .i64 1,.int .i64 0,.string (ByteArray.mk #[97])] (fun b134=>?_))
 refine T.gO (W1.kY 17 #[.slice (some ⟨b134,0,none⟩) 1 1] r8 (fun u=>u) (fun w' hh=>oM F [rH] r8 hb8 w' _ _ (jv (E:=eElem) (f:=DElem.cells) [rH] (fun _ _=>rfl) (Nat.le_of_ble_eq_true (by rfl)) (fun j=>hh.cellBox (i:=0) (by rfl) j))) (fun x8 y8 g8 hl8=>?_))
 refine T.gO (W1.w1 (vT2 (vSc (oc eElem)) (vSc hO)) r9 16 #[.agg #[.int .i64 r8.root,.slice x8 g8.length y8]] (fun w' hh=>by have h1:=hh.slP (i:=0) (j:=1) (by rfl) (by rfl);rw [hl8];exact nt F r8 r9 hb9 w' x8 y8 h1) ?_)
 intro u V1 hV1 hu
 obtain⟨u1,u2,rfl,hu1,hu2⟩:=po hu
 obtain⟨A9,c9,rfl,hs9⟩:=lL hu1
 obtain rfl:=ir _ _ _ hu2
 refine T.k5 (.tuple #[.slice A9 r9.1.length c9,.int .i64 r9.2]) (.slice A9 r9.1.length c9) (.int .i64 r9.2) (.slice A9 r9.1.length c9) (.int .i64 r9.2) (T.gN ?_)
 refine T.sr (T.k2 (.int .i64 r9.2) (.bool (r9.2 == 0)) ?_)
 refine T.ie 140 (.bool true) rfl (by rw [hz]) ?_
 refine T.k2 (.bool true) (.slice A9 r9.1.length c9) ?_
 refine T.k2 (vi (r9.1.length:Int)) (.bool ((r9.1.length:Int) == 1)) ?_
 refine T.ie 144 (.bool true) rfl (by rw [hone]) ?_
 refine T.k2 (.bool true) (.bool true) (T.gN ?_)
 refine T.ii rfl ?_
 exact T.ik rfl (rT rfl) fun w' hh=>⟨_,rfl,hh.below,(show _ from rfl)⟩
end Go.Proofs.YtfbpiogbhkgieaaGreat
