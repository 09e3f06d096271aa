/- The Go law TreeOwn, walked: every tree's rows are the call's own. Condition: what it asks for is there. -/
import Derived.Test.YtfbpiogbhkgieaaGreatTrOwnL
import Derived.Test.YtfbpiogbhkgieaaGreatGrowILL
import Derived.Test.YtfbpiogbhkgieaaGreatFindSFL
import Derived.Test.YtfbpiogbhkgieaaGreatRunFL
import Derived.Test.YtfbpiogbhkgieaaGreatWrPLL
import Derived.Test.YtfbpiogbhkgieaaGreatWrCLL
import Derived.Test.YtfbpiogbhkgieaaGreatPruneFL
import Derived.Test.YtfbpiogbhkgieaaGreatStepLL
import Derived.Test.YtfbpiogbhkgieaaGreatSameLL
import Derived.Test.YtfbpiogbhkgieaaGreatWTreeOwnFL
namespace Go.Proofs.YtfbpiogbhkgieaaGreat
open Go.RowKit
set_option linter.unusedVariables false
set_option linter.unusedSimpArgs false
set_option maxRecDepth 100000
set_option maxHeartbeats 4000000
structure DTH where
 root:Int
 a:Option Addr
 c:Nat
 hs:List DHdr
abbrev DTH.cells (h:DTH) : List Value:=[.int .i64 h.root,.slice h.a h.hs.length h.c]
def eTH:Enc DTH:=mg 2 DTH.cells (fun _=>rfl) (fun _=>jR rfl)
instance:Steady eTH:=⟨fun _ _ _ _ h=>h⟩
def fT (h:DTH) (t:DTree) : List HObj:=[ku (h.root=t.root),row 55 eHdr h.a h.c h.hs,il fP h.hs t.nodes]
def fW (h:DTH) (t:DTree) : List HObj:=[ku (h.root=t.root),row 55 eHdr h.a h.c h.hs,il fM h.hs t.nodes]
theorem Hp.slP {w0:World} {V:View} {H:List HObj} {w:World} {tn:TypeId} {A:Option Addr} {c:Nat} {hs:List DHdr} {ns:List DNode} (hp:Hp w0 V H w) {i j:Nat} (hi:nth H i=some (row tn eHdr A c hs)) (hj:nth H j=some (il fP hs ns)) : ia (vw w) kr A c ns:=hp.nodesSl (fun h n X hx=>tu h n X hx) hi hj
theorem Hp.slM {w0:World} {V:View} {H:List HObj} {w:World} {tn:TypeId} {A:Option Addr} {c:Nat} {hs:List DHdr} {ns:List DNode} (hp:Hp w0 V H w) {i j:Nat} (hi:nth H i=some (row tn eHdr A c hs)) (hj:nth H j=some (il fM hs ns)) : ia (vw w) kr A c ns:=hp.nodesSl (fun h n X hx=>tq h n X hx) hi hj
theorem Hp.toS {w0:World} {V:View} {X:List HObj} {w:World} {hs:List DHdr} {ns:List DNode} (h:Hp w0 V (il fP hs ns::X) w) : Hp w0 V (il fS hs ns::X) w:=by
 have:=Hp.zMap (φ:=id) (g:=fS) (fun a b X hx=>tJ a b X hx) h
 rwa [List.map_id] at this
theorem Hp.consT {w0:World} {V:View} {X:List HObj} {w:World} {h:DTH} {t:DTree} {al:List DTH} {bl:List DTree} (hr:h.root=t.root) (hh:Hp w0 V (row 55 eHdr h.a h.c h.hs::il fP h.hs t.nodes::il fT al bl::X) w) : Hp w0 V (il fT (h::al) (t::bl)::X) w:=Hp.zCons (f:=fT) (Hp.put hh hr)
theorem rB {α:Type} {p:α→Bool} {l:List α} (h:l.all p=true) {k:Nat} {x:α} (hx:l[k]? = some x) : p x=true:=List.all_eq_true.1 h x (List.mem_of_getElem? hx)
theorem qz (F:Nat) (p0:DTree) (p1:DElem) (p2:List Int) (r:Bool) (hF:me F p0 p1 p2=some r) (w:World) (A1:Option Addr) (c1:Nat) (hs1:ia (vw w) kr A1 c1 p0.nodes) (A2:Option Addr) (c2:Nat) (hs2:ia (vw w) hO A2 c2 p2) :
 Calls Tryz.prog 3 #[.agg #[.int .i64 p0.root,.slice A1 p0.nodes.length c1],.agg #[.int .i64 p1.key.pfs,.int .i64 p1.key.obj,.int .i64 p1.key.off,.int .i64 p1.made,.int .i64 p1.gone,.string p1.val],.slice A2 p2.length c2] w (kC (vSc eBool) r w):=by
 unfold me at hF
 obtain⟨r1,hb1,hF⟩:=Option.bind_eq_some_iff.1 hF
 obtain⟨r2,hb2,hF⟩:=Option.bind_eq_some_iff.1 hF
 obtain⟨r3,hb3,hF⟩:=Option.bind_eq_some_iff.1 hF
 obtain⟨r4,hb4,hF⟩:=Option.bind_eq_some_iff.1 hF
 obtain⟨r5,hb5,hF⟩:=Option.bind_eq_some_iff.1 hF
 obtain⟨r6,hb6,hF⟩:=Option.bind_eq_some_iff.1 hF
 obtain⟨r7,hb7,hF⟩:=Option.bind_eq_some_iff.1 hF
 obtain⟨r8,hb8,hF⟩:=Option.bind_eq_some_iff.1 hF
 obtain⟨r9,hb9,hF⟩:=Option.bind_eq_some_iff.1 hF
 obtain⟨hq,rfl⟩:=rD hF
 simp only [Bool.and_eq_true] at hq
 obtain⟨⟨⟨hfit,hall⟩,hz⟩,hone⟩:=hq
 obtain⟨hroom,hsame⟩:=mL hfit
 refine T.i9 (l:=[.agg #[.int .i64 p0.root,.slice A1 p0.nodes.length c1],.agg #[.int .i64 p1.key.pfs,.int .i64 p1.key.obj,.int .i64 p1.key.off,.int .i64 p1.made,.int .i64 p1.gone,.string p1.val],.slice A2 p2.length c2]) Tryz.func3 rfl rfl rfl ?_
 refine T.sr (T.gO (W1.np 24 [.int .i64 p0.root,.slice A1 p0.nodes.length c1] (fun b3=>T.gO (W1.np 28 [.int .i64 p1.key.pfs,.int .i64 p1.key.obj,.int .i64 p1.key.off,.int .i64 p1.made,.int .i64 p1.gone,.string p1.val] (fun b4=>T.k (.bool false) (T.gN ?_))))))
 refine T.sr (T.l (.agg #[.int .i64 p0.root,.slice A1 p0.nodes.length c1]) (ldN 1) ?_)
 refine T.gO (W1.ju 4 #[.agg #[.int .i64 p0.root,.slice A1 p0.nodes.length c1]] (fun p:Option Addr × Nat × List DHdr=>.agg #[.int .i64 p0.root,.slice p.1 p.2.2.length p.2.1]) (fun p=>[row 55 eHdr p.1 p.2.1 p.2.2,il fM p.2.2 p0.nodes]) (fun p=>p.2.2.length=p0.nodes.length) (by kernel_rfl) (fun _=>by kernel_rfl) (fun w' hh=>pc p0 hroom w' _ _ (ia.mono hs1 hh.view)) ?_)
 rintro⟨Ai,ci,hi⟩ hl_
 dsimp only at hl_
 refine T.iK (H':=[row 55 eHdr Ai ci hi,il fM hi p0.nodes,box b4 28 [.int .i64 p1.key.pfs,.int .i64 p1.key.obj,.int .i64 p1.key.off,.int .i64 p1.made,.int .i64 p1.gone,.string p1.val],box b3 24 [.int .i64 p0.root,.slice A1 p0.nodes.length c1]]) (by rfl) ?_
 have hli:hi.length=p0.nodes.length:=hl_
 refine T.gO (W1.np 24 [.int .i64 0,.slice none 0 0] (fun b7=>?_))
 refine T.gO (W1.st 0 [.int .i64 p0.root,.slice Ai hi.length ci] [box b7 24 [.int .i64 p0.root,.slice Ai hi.length ci],row 55 eHdr Ai ci hi,il fM hi p0.nodes,box b4 28 [.int .i64 p1.key.pfs,.int .i64 p1.key.obj,.int .i64 p1.key.off,.int .i64 p1.made,.int .i64 p1.gone,.string p1.val],box b3 24 [.int .i64 p0.root,.slice A1 p0.nodes.length c1]] [.int .i64 p0.root,.slice Ai hi.length ci] (T.gN ?_))
 refine T.sr (T.l (.agg #[.int .i64 p0.root,.slice Ai hi.length ci]) (ldN 0) ?_)
 refine T.l (.agg #[.int .i64 p1.key.pfs,.int .i64 p1.key.obj,.int .i64 p1.key.off,.int .i64 p1.made,.int .i64 p1.gone,.string p1.val]) (ldN 3) ?_
 refine T.gO (W1.ju 5 #[.agg #[.int .i64 p0.root,.slice Ai hi.length ci],.agg #[.int .i64 p1.key.pfs,.int .i64 p1.key.obj,.int .i64 p1.key.off,.int .i64 p1.made,.int .i64 p1.gone,.string p1.val]] (fun p:Option Addr × Nat × List DHdr=>.tuple #[.agg #[.int .i64 r1.1.root,.slice p.1 p.2.2.length p.2.1],.int .i64 r1.2]) (fun p=>[row 55 eHdr p.1 p.2.1 p.2.2,im (TreeTy.mk 28 3 36) p.2.2 (r1.1.nodes.map Sum.inr)]) (fun p=>p.2.2.length=r1.1.nodes.length) (by kernel_rfl) (fun _=>by kernel_rfl) (fun w' hh=>by have h1:=hh.slM (i:=1) (j:=2) (by rfl) (by rfl);rw [hli];exact px F p0 p1 r1 hb1 w' Ai ci h1) ?_)
 rintro⟨x1,y1,g1⟩ hl1
 dsimp only at hl1
 refine T.tr (H':=[row 55 eHdr x1 y1 g1,il fP g1 r1.1.nodes,box b7 24 [.int .i64 p0.root,.slice Ai hi.length ci],row 55 eHdr Ai ci hi,il fM hi p0.nodes,box b4 28 [.int .i64 p1.key.pfs,.int .i64 p1.key.obj,.int .i64 p1.key.off,.int .i64 p1.made,.int .i64 p1.gone,.string p1.val],box b3 24 [.int .i64 p0.root,.slice A1 p0.nodes.length c1]]) (fun w' hh=>(Hp.treeZ (hh.ix 2 [1,0])).ix 2 [1,0]) ?_
 refine T.k3 (.tuple #[.agg #[.int .i64 r1.1.root,.slice x1 g1.length y1],.int .i64 r1.2]) (.agg #[.int .i64 r1.1.root,.slice x1 g1.length y1]) (.int .i64 r1.2) ?_
 refine T.gO (W1.np 24 [.int .i64 0,.slice none 0 0] (fun b8=>?_))
 refine T.gO (W1.st 0 [.int .i64 r1.1.root,.slice x1 g1.length y1] [box b8 24 [.int .i64 r1.1.root,.slice x1 g1.length y1],row 55 eHdr x1 y1 g1,il fP g1 r1.1.nodes,box b7 24 [.int .i64 p0.root,.slice Ai hi.length ci],row 55 eHdr Ai ci hi,il fM hi p0.nodes,box b4 28 [.int .i64 p1.key.pfs,.int .i64 p1.key.obj,.int .i64 p1.key.off,.int .i64 p1.made,.int .i64 p1.gone,.string p1.val],box b3 24 [.int .i64 p0.root,.slice A1 p0.nodes.length c1]] [.int .i64 r1.1.root,.slice x1 g1.length y1] ?_)
 refine T.k (.int .i64 r1.2) (T.gN ?_)
 refine T.sr (T.l (.agg #[.int .i64 p0.root,.slice Ai hi.length ci]) (ldN 3) ?_)
 refine T.l (.agg #[.int .i64 p1.key.pfs,.int .i64 p1.key.obj,.int .i64 p1.key.off,.int .i64 p1.made,.int .i64 p1.gone,.string p1.val]) (ldN 6) ?_
 refine T.gO (W1.ju 6 #[.agg #[.int .i64 p0.root,.slice Ai hi.length ci],.agg #[.int .i64 p1.key.pfs,.int .i64 p1.key.obj,.int .i64 p1.key.off,.int .i64 p1.made,.int .i64 p1.gone,.string p1.val]] (fun p:Option Addr × Nat × List DHdr=>.tuple #[.agg #[.int .i64 r2.1.root,.slice p.1 p.2.2.length p.2.1],.int .i64 r2.2]) (fun p=>[row 55 eHdr p.1 p.2.1 p.2.2,im (TreeTy.mk 28 3 36) p.2.2 (r2.1.nodes.map Sum.inr)]) (fun p=>p.2.2.length=r2.1.nodes.length) (by kernel_rfl) (fun _=>by kernel_rfl) (fun w' hh=>by have h1:=hh.slM (i:=4) (j:=5) (by rfl) (by rfl);rw [hli];exact qF F p0 p1 r2 hb2 w' Ai ci h1) ?_)
 rintro⟨x2,y2,g2⟩ hl2
 dsimp only at hl2
 refine T.tr (H':=[row 55 eHdr x2 y2 g2,il fP g2 r2.1.nodes,box b8 24 [.int .i64 r1.1.root,.slice x1 g1.length y1],row 55 eHdr x1 y1 g1,il fP g1 r1.1.nodes,box b7 24 [.int .i64 p0.root,.slice Ai hi.length ci],row 55 eHdr Ai ci hi,il fM hi p0.nodes,box b4 28 [.int .i64 p1.key.pfs,.int .i64 p1.key.obj,.int .i64 p1.key.off,.int .i64 p1.made,.int .i64 p1.gone,.string p1.val],box b3 24 [.int .i64 p0.root,.slice A1 p0.nodes.length c1]]) (fun w' hh=>(Hp.treeZ (hh.ix 2 [1,0])).ix 2 [1,0]) ?_
 refine T.k3 (.tuple #[.agg #[.int .i64 r2.1.root,.slice x2 g2.length y2],.int .i64 r2.2]) (.agg #[.int .i64 r2.1.root,.slice x2 g2.length y2]) (.int .i64 r2.2) ?_
 refine T.gO (W1.np 24 [.int .i64 0,.slice none 0 0] (fun b10=>?_))
 refine T.gO (W1.st 0 [.int .i64 r2.1.root,.slice x2 g2.length y2] [box b10 24 [.int .i64 r2.1.root,.slice x2 g2.length y2],row 55 eHdr x2 y2 g2,il fP g2 r2.1.nodes,box b8 24 [.int .i64 r1.1.root,.slice x1 g1.length y1],row 55 eHdr x1 y1 g1,il fP g1 r1.1.nodes,box b7 24 [.int .i64 p0.root,.slice Ai hi.length ci],row 55 eHdr Ai ci hi,il fM hi p0.nodes,box b4 28 [.int .i64 p1.key.pfs,.int .i64 p1.key.obj,.int .i64 p1.key.off,.int .i64 p1.made,.int .i64 p1.gone,.string p1.val],box b3 24 [.int .i64 p0.root,.slice A1 p0.nodes.length c1]] [.int .i64 r2.1.root,.slice x2 g2.length y2] ?_)
 refine T.k (.int .i64 r2.2) (T.gN ?_)
 refine T.gR ?_
 refine T.jt (fun a w'=>∃(x3:Option Addr) (y3:Nat) (g3:List DHdr) (b12:Nat),Fr 146 [(2,.slice A2 p2.length c2),(3,pB b3 0),(4,pB b4 0),(6,.bool false),(7,pB b7 0),(8,pB b8 0),(10,pB b10 0),(12,pB b12 0)] a∧Hp w (vw w) [box b12 24 [.int .i64 r3.1.root,.slice x3 g3.length y3],row 55 eHdr x3 y3 g3,il fP g3 r3.1.nodes,box b10 24 [.int .i64 r2.1.root,.slice x2 g2.length y2],row 55 eHdr x2 y2 g2,il fP g2 r2.1.nodes,box b8 24 [.int .i64 r1.1.root,.slice x1 g1.length y1],row 55 eHdr x1 y1 g1,il fP g1 r1.1.nodes,box b7 24 [.int .i64 p0.root,.slice Ai hi.length ci],row 55 eHdr Ai ci hi,il fM hi p0.nodes,box b4 28 [.int .i64 p1.key.pfs,.int .i64 p1.key.obj,.int .i64 p1.key.off,.int .i64 p1.made,.int .i64 p1.gone,.string p1.val],box b3 24 [.int .i64 p0.root,.slice A1 p0.nodes.length c1]] w') ?_ ?_
 ·
  refine T.jD [box b7 24 [.int .i64 p0.root,.slice Ai hi.length ci],box b4 28 [.int .i64 p1.key.pfs,.int .i64 p1.key.obj,.int .i64 p1.key.off,.int .i64 p1.made,.int .i64 p1.gone,.string p1.val]] (by kernel_rfl) ?_
  refine TA.tk 0 (.agg #[.int .i64 p0.root,.slice Ai hi.length ci]) rfl (fun _ hh=>hh.ix 90 [6,9]) (ldN 0) ?_
  refine TA.tk 1 (.agg #[.int .i64 p1.key.pfs,.int .i64 p1.key.obj,.int .i64 p1.key.off,.int .i64 p1.made,.int .i64 p1.gone,.string p1.val]) rfl (fun _ hh=>hh.ix 90 [6,9]) (ldN 1) ?_
  refine TA.a [2,7] ⟨?_,?_,trivial⟩
  ·
   refine TA.br rfl (W1.cs (vAg eSpot) (DSpot.mk p1.key p1.made) 8 #[.agg #[.int .i64 p1.key.pfs,.int .i64 p1.key.obj,.int .i64 p1.key.off,.int .i64 p1.made,.int .i64 p1.gone,.string p1.val]] (.agg #[.int .i64 p1.key.pfs,.int .i64 p1.key.obj,.int .i64 p1.key.off,.int .i64 p1.made]) (fun V u hu=>iD V u _ hu) (fun w' hh=>mG p1 _ rfl w') ?_)
   refine TA.on (fun _ hh=>hh.ix 90 [6,9]) ?_
   refine TA.a [3,7] ⟨?_,?_,trivial⟩
   ·
    refine TA.br rfl (W1.ju 7 #[.agg #[.int .i64 p0.root,.slice Ai hi.length ci],.agg #[.int .i64 p1.key.pfs,.int .i64 p1.key.obj,.int .i64 p1.key.off,.int .i64 p1.made]] (fun p:Option Addr × Nat × List DHdr=>.tuple #[.agg #[.int .i64 r3.1.root,.slice p.1 p.2.2.length p.2.1],.int .i64 r3.2]) (fun p=>[row 55 eHdr p.1 p.2.1 p.2.2,im (TreeTy.mk 28 3 36) p.2.2 (r3.1.nodes.map Sum.inr)]) (fun p=>p.2.2.length=r3.1.nodes.length) (by kernel_rfl) (fun _=>by kernel_rfl) (fun w' hh=>by have h1:=hh.slM (i:=7) (j:=8) (by rfl) (by rfl);rw [hli];exact lD F p0 (DSpot.mk p1.key p1.made) r3 hb3 w' Ai ci h1) ?_)
    rintro⟨x3,y3,g3⟩ hl3
    dsimp only at hl3
    refine T.tr (H':=[row 55 eHdr x3 y3 g3,il fP g3 r3.1.nodes,box b10 24 [.int .i64 r2.1.root,.slice x2 g2.length y2],row 55 eHdr x2 y2 g2,il fP g2 r2.1.nodes,box b8 24 [.int .i64 r1.1.root,.slice x1 g1.length y1],row 55 eHdr x1 y1 g1,il fP g1 r1.1.nodes,box b7 24 [.int .i64 p0.root,.slice Ai hi.length ci],row 55 eHdr Ai ci hi,il fM hi p0.nodes,box b4 28 [.int .i64 p1.key.pfs,.int .i64 p1.key.obj,.int .i64 p1.key.off,.int .i64 p1.made,.int .i64 p1.gone,.string p1.val],box b3 24 [.int .i64 p0.root,.slice A1 p0.nodes.length c1]]) (fun w' hh=>(Hp.treeZ (hh.ix 2 [1,0])).ix 2 [1,0]) ?_
    refine TA.on (fun _ hh=>hh.ix 90 [8,11]) ?_
    refine TA.tp 4 (.tuple #[.agg #[.int .i64 r3.1.root,.slice x3 g3.length y3],.int .i64 r3.2]) rfl (fun _ hh=>hh.ix 90 [8,11]) ?_
    refine TA.tp 5 (.agg #[.int .i64 r3.1.root,.slice x3 g3.length y3]) rfl (fun _ hh=>hh.ix 90 [8,11]) ?_
    refine TA.tp 6 (.int .i64 r3.2) rfl (fun _ hh=>hh.ix 90 [8,11]) ?_
    refine TA.j 7 rfl (W1.np 24 [.int .i64 0,.slice none 0 0] (fun b12=>?_))
    refine TA.on (fun _ hh=>hh.ix 90 [9,12]) ?_
    refine TA.j 8 rfl (W1.st 0 [.int .i64 r3.1.root,.slice x3 g3.length y3] [box b12 24 [.int .i64 r3.1.root,.slice x3 g3.length y3],row 55 eHdr x3 y3 g3,il fP g3 r3.1.nodes,box b10 24 [.int .i64 r2.1.root,.slice x2 g2.length y2],row 55 eHdr x2 y2 g2,il fP g2 r2.1.nodes,box b8 24 [.int .i64 r1.1.root,.slice x1 g1.length y1],row 55 eHdr x1 y1 g1,il fP g1 r1.1.nodes,box b7 24 [.int .i64 p0.root,.slice Ai hi.length ci],row 55 eHdr Ai ci hi,il fM hi p0.nodes,box b4 28 [.int .i64 p1.key.pfs,.int .i64 p1.key.obj,.int .i64 p1.key.off,.int .i64 p1.made,.int .i64 p1.gone,.string p1.val],box b3 24 [.int .i64 p0.root,.slice A1 p0.nodes.length c1]] [.int .i64 r3.1.root,.slice x3 g3.length y3] ?_)
    refine TA.on (fun _ hh=>hh.ix 90 [9,12]) ?_
    refine TA.tp 9 (.int .i64 r3.2) rfl (fun _ hh=>hh.ix 90 [9,12]) ?_
    refine TA.d ?_
    exact fun a w' hf hh=>⟨x3,y3,g3,b12,Fr.s hf,hh.ix 90 [0,1,2,3,4,5,6,7,8,9,10,11,12,13]⟩
   ·
    refine TA.br rfl (W1.np 24 [.int .i64 0,.slice none 0 0] (fun b12=>?_))
    refine TA.on (fun _ hh=>hh.ix 90 [7,10]) ?_
    refine TA.j 3 rfl (W1.ju 7 #[.agg #[.int .i64 p0.root,.slice Ai hi.length ci],.agg #[.int .i64 p1.key.pfs,.int .i64 p1.key.obj,.int .i64 p1.key.off,.int .i64 p1.made]] (fun p:Option Addr × Nat × List DHdr=>.tuple #[.agg #[.int .i64 r3.1.root,.slice p.1 p.2.2.length p.2.1],.int .i64 r3.2]) (fun p=>[row 55 eHdr p.1 p.2.1 p.2.2,im (TreeTy.mk 28 3 36) p.2.2 (r3.1.nodes.map Sum.inr)]) (fun p=>p.2.2.length=r3.1.nodes.length) (by kernel_rfl) (fun _=>by kernel_rfl) (fun w' hh=>by have h1:=hh.slM (i:=8) (j:=9) (by rfl) (by rfl);rw [hli];exact lD F p0 (DSpot.mk p1.key p1.made) r3 hb3 w' Ai ci h1) ?_)
    rintro⟨x3,y3,g3⟩ hl3
    dsimp only at hl3
    refine T.tr (H':=[row 55 eHdr x3 y3 g3,il fP g3 r3.1.nodes,box b12 24 [.int .i64 0,.slice none 0 0],box b10 24 [.int .i64 r2.1.root,.slice x2 g2.length y2],row 55 eHdr x2 y2 g2,il fP g2 r2.1.nodes,box b8 24 [.int .i64 r1.1.root,.slice x1 g1.length y1],row 55 eHdr x1 y1 g1,il fP g1 r1.1.nodes,box b7 24 [.int .i64 p0.root,.slice Ai hi.length ci],row 55 eHdr Ai ci hi,il fM hi p0.nodes,box b4 28 [.int .i64 p1.key.pfs,.int .i64 p1.key.obj,.int .i64 p1.key.off,.int .i64 p1.made,.int .i64 p1.gone,.string p1.val],box b3 24 [.int .i64 p0.root,.slice A1 p0.nodes.length c1]]) (fun w' hh=>(Hp.treeZ (hh.ix 2 [1,0])).ix 2 [1,0]) ?_
    refine TA.on (fun _ hh=>hh.ix 90 [9,12]) ?_
    refine TA.tp 4 (.tuple #[.agg #[.int .i64 r3.1.root,.slice x3 g3.length y3],.int .i64 r3.2]) rfl (fun _ hh=>hh.ix 90 [9,12]) ?_
    refine TA.tp 5 (.agg #[.int .i64 r3.1.root,.slice x3 g3.length y3]) rfl (fun _ hh=>hh.ix 90 [9,12]) ?_
    refine TA.tp 6 (.int .i64 r3.2) rfl (fun _ hh=>hh.ix 90 [9,12]) ?_
    refine TA.j 8 rfl (W1.st 2 [.int .i64 r3.1.root,.slice x3 g3.length y3] [row 55 eHdr x3 y3 g3,il fP g3 r3.1.nodes,box b12 24 [.int .i64 r3.1.root,.slice x3 g3.length y3],box b10 24 [.int .i64 r2.1.root,.slice x2 g2.length y2],row 55 eHdr x2 y2 g2,il fP g2 r2.1.nodes,box b8 24 [.int .i64 r1.1.root,.slice x1 g1.length y1],row 55 eHdr x1 y1 g1,il fP g1 r1.1.nodes,box b7 24 [.int .i64 p0.root,.slice Ai hi.length ci],row 55 eHdr Ai ci hi,il fM hi p0.nodes,box b4 28 [.int .i64 p1.key.pfs,.int .i64 p1.key.obj,.int .i64 p1.key.off,.int .i64 p1.made,.int .i64 p1.gone,.string p1.val],box b3 24 [.int .i64 p0.root,.slice A1 p0.nodes.length c1]] [.int .i64 r3.1.root,.slice x3 g3.length y3] ?_)
    refine TA.on (fun _ hh=>hh.ix 90 [9,12]) ?_
    refine TA.tp 9 (.int .i64 r3.2) rfl (fun _ hh=>hh.ix 90 [9,12]) ?_
    refine TA.d ?_
    exact fun a w' hf hh=>⟨x3,y3,g3,b12,Fr.s hf,hh.ix 90 [2,0,1,3,4,5,6,7,8,9,10,11,12,13]⟩
  ·
   refine TA.br rfl (W1.np 24 [.int .i64 0,.slice none 0 0] (fun b12=>?_))
   refine TA.on (fun _ hh=>hh.ix 90 [7,10]) ?_
   refine TA.j 2 rfl (W1.cs (vAg eSpot) (DSpot.mk p1.key p1.made) 8 #[.agg #[.int .i64 p1.key.pfs,.int .i64 p1.key.obj,.int .i64 p1.key.off,.int .i64 p1.made,.int .i64 p1.gone,.string p1.val]] (.agg #[.int .i64 p1.key.pfs,.int .i64 p1.key.obj,.int .i64 p1.key.off,.int .i64 p1.made]) (fun V u hu=>iD V u _ hu) (fun w' hh=>mG p1 _ rfl w') ?_)
   refine TA.on (fun _ hh=>hh.ix 90 [7,10]) ?_
   refine TA.j 3 rfl (W1.ju 7 #[.agg #[.int .i64 p0.root,.slice Ai hi.length ci],.agg #[.int .i64 p1.key.pfs,.int .i64 p1.key.obj,.int .i64 p1.key.off,.int .i64 p1.made]] (fun p:Option Addr × Nat × List DHdr=>.tuple #[.agg #[.int .i64 r3.1.root,.slice p.1 p.2.2.length p.2.1],.int .i64 r3.2]) (fun p=>[row 55 eHdr p.1 p.2.1 p.2.2,im (TreeTy.mk 28 3 36) p.2.2 (r3.1.nodes.map Sum.inr)]) (fun p=>p.2.2.length=r3.1.nodes.length) (by kernel_rfl) (fun _=>by kernel_rfl) (fun w' hh=>by have h1:=hh.slM (i:=8) (j:=9) (by rfl) (by rfl);rw [hli];exact lD F p0 (DSpot.mk p1.key p1.made) r3 hb3 w' Ai ci h1) ?_)
   rintro⟨x3,y3,g3⟩ hl3
   dsimp only at hl3
   refine T.tr (H':=[row 55 eHdr x3 y3 g3,il fP g3 r3.1.nodes,box b12 24 [.int .i64 0,.slice none 0 0],box b10 24 [.int .i64 r2.1.root,.slice x2 g2.length y2],row 55 eHdr x2 y2 g2,il fP g2 r2.1.nodes,box b8 24 [.int .i64 r1.1.root,.slice x1 g1.length y1],row 55 eHdr x1 y1 g1,il fP g1 r1.1.nodes,box b7 24 [.int .i64 p0.root,.slice Ai hi.length ci],row 55 eHdr Ai ci hi,il fM hi p0.nodes,box b4 28 [.int .i64 p1.key.pfs,.int .i64 p1.key.obj,.int .i64 p1.key.off,.int .i64 p1.made,.int .i64 p1.gone,.string p1.val],box b3 24 [.int .i64 p0.root,.slice A1 p0.nodes.length c1]]) (fun w' hh=>(Hp.treeZ (hh.ix 2 [1,0])).ix 2 [1,0]) ?_
   refine TA.on (fun _ hh=>hh.ix 90 [9,12]) ?_
   refine TA.tp 4 (.tuple #[.agg #[.int .i64 r3.1.root,.slice x3 g3.length y3],.int .i64 r3.2]) rfl (fun _ hh=>hh.ix 90 [9,12]) ?_
   refine TA.tp 5 (.agg #[.int .i64 r3.1.root,.slice x3 g3.length y3]) rfl (fun _ hh=>hh.ix 90 [9,12]) ?_
   refine TA.tp 6 (.int .i64 r3.2) rfl (fun _ hh=>hh.ix 90 [9,12]) ?_
   refine TA.j 8 rfl (W1.st 2 [.int .i64 r3.1.root,.slice x3 g3.length y3] [row 55 eHdr x3 y3 g3,il fP g3 r3.1.nodes,box b12 24 [.int .i64 r3.1.root,.slice x3 g3.length y3],box b10 24 [.int .i64 r2.1.root,.slice x2 g2.length y2],row 55 eHdr x2 y2 g2,il fP g2 r2.1.nodes,box b8 24 [.int .i64 r1.1.root,.slice x1 g1.length y1],row 55 eHdr x1 y1 g1,il fP g1 r1.1.nodes,box b7 24 [.int .i64 p0.root,.slice Ai hi.length ci],row 55 eHdr Ai ci hi,il fM hi p0.nodes,box b4 28 [.int .i64 p1.key.pfs,.int .i64 p1.key.obj,.int .i64 p1.key.off,.int .i64 p1.made,.int .i64 p1.gone,.string p1.val],box b3 24 [.int .i64 p0.root,.slice A1 p0.nodes.length c1]] [.int .i64 r3.1.root,.slice x3 g3.length y3] ?_)
   refine TA.on (fun _ hh=>hh.ix 90 [9,12]) ?_
   refine TA.tp 9 (.int .i64 r3.2) rfl (fun _ hh=>hh.ix 90 [9,12]) ?_
   refine TA.d ?_
   exact fun a w' hf hh=>⟨x3,y3,g3,b12,Fr.s hf,hh.ix 90 [2,0,1,3,4,5,6,7,8,9,10,11,12,13]⟩
 rintro a w' ⟨x3,y3,g3,b12,hf,hh⟩
 refine(?_:T 146 w (vw w) [box b12 24 [.int .i64 r3.1.root,.slice x3 g3.length y3],row 55 eHdr x3 y3 g3,il fP g3 r3.1.nodes,box b10 24 [.int .i64 r2.1.root,.slice x2 g2.length y2],row 55 eHdr x2 y2 g2,il fP g2 r2.1.nodes,box b8 24 [.int .i64 r1.1.root,.slice x1 g1.length y1],row 55 eHdr x1 y1 g1,il fP g1 r1.1.nodes,box b7 24 [.int .i64 p0.root,.slice Ai hi.length ci],row 55 eHdr Ai ci hi,il fM hi p0.nodes,box b4 28 [.int .i64 p1.key.pfs,.int .i64 p1.key.obj,.int .i64 p1.key.off,.int .i64 p1.made,.int .i64 p1.gone,.string p1.val],box b3 24 [.int .i64 p0.root,.slice A1 p0.nodes.length c1]] [(2,.slice A2 p2.length c2),(3,pB b3 0),(4,pB b4 0),(6,.bool false),(7,pB b7 0),(8,pB b8 0),(10,pB b10 0),(12,pB b12 0)] _) a w' hf hh
 clear hf hh
 refine T.sr (T.l (.agg #[.int .i64 p0.root,.slice Ai hi.length ci]) (ldN 9) ?_)
 refine T.k (pB b4 0) ?_
 refine T.l (.agg #[.int .i64 p1.key.pfs,.int .i64 p1.key.obj,.int .i64 p1.key.off]) (ldN 12) ?_
 refine T.k (pB b4 5) ?_
 refine T.l (.string p1.val) (ld1 12) ?_
 refine T.k (pB b4 3) ?_
 refine T.l (.int .i64 p1.made) (ld1 12) ?_
 refine T.gO (W1.ju 9 #[.agg #[.int .i64 p0.root,.slice Ai hi.length ci],.agg #[.int .i64 p1.key.pfs,.int .i64 p1.key.obj,.int .i64 p1.key.off],.string p1.val,.int .i64 p1.made] (fun p:Option Addr × Nat × List DHdr=>.tuple #[.agg #[.int .i64 r4.1.root,.slice p.1 p.2.2.length p.2.1],.int .i64 r4.2]) (fun p=>[row 55 eHdr p.1 p.2.1 p.2.2,im (TreeTy.mk 28 3 36) p.2.2 (r4.1.nodes.map Sum.inr)]) (fun p=>p.2.2.length=r4.1.nodes.length) (by kernel_rfl) (fun _=>by kernel_rfl) (fun w' hh=>by have h1:=hh.slM (i:=10) (j:=11) (by rfl) (by rfl);rw [hli];exact qy F p0 p1.key p1.val p1.made r4 hb4 w' Ai ci h1) ?_)
 rintro⟨x4,y4,g4⟩ hl4
 dsimp only at hl4
 refine T.tr (H':=[row 55 eHdr x4 y4 g4,il fP g4 r4.1.nodes,box b12 24 [.int .i64 r3.1.root,.slice x3 g3.length y3],row 55 eHdr x3 y3 g3,il fP g3 r3.1.nodes,box b10 24 [.int .i64 r2.1.root,.slice x2 g2.length y2],row 55 eHdr x2 y2 g2,il fP g2 r2.1.nodes,box b8 24 [.int .i64 r1.1.root,.slice x1 g1.length y1],row 55 eHdr x1 y1 g1,il fP g1 r1.1.nodes,box b7 24 [.int .i64 p0.root,.slice Ai hi.length ci],row 55 eHdr Ai ci hi,il fM hi p0.nodes,box b4 28 [.int .i64 p1.key.pfs,.int .i64 p1.key.obj,.int .i64 p1.key.off,.int .i64 p1.made,.int .i64 p1.gone,.string p1.val],box b3 24 [.int .i64 p0.root,.slice A1 p0.nodes.length c1]]) (fun w' hh=>(Hp.treeZ (hh.ix 2 [1,0])).ix 2 [1,0]) ?_
 refine T.k3 (.tuple #[.agg #[.int .i64 r4.1.root,.slice x4 g4.length y4],.int .i64 r4.2]) (.agg #[.int .i64 r4.1.root,.slice x4 g4.length y4]) (.int .i64 r4.2) ?_
 refine T.gO (W1.np 24 [.int .i64 0,.slice none 0 0] (fun b14=>?_))
 refine T.gO (W1.st 0 [.int .i64 r4.1.root,.slice x4 g4.length y4] [box b14 24 [.int .i64 r4.1.root,.slice x4 g4.length y4],row 55 eHdr x4 y4 g4,il fP g4 r4.1.nodes,box b12 24 [.int .i64 r3.1.root,.slice x3 g3.length y3],row 55 eHdr x3 y3 g3,il fP g3 r3.1.nodes,box b10 24 [.int .i64 r2.1.root,.slice x2 g2.length y2],row 55 eHdr x2 y2 g2,il fP g2 r2.1.nodes,box b8 24 [.int .i64 r1.1.root,.slice x1 g1.length y1],row 55 eHdr x1 y1 g1,il fP g1 r1.1.nodes,box b7 24 [.int .i64 p0.root,.slice Ai hi.length ci],row 55 eHdr Ai ci hi,il fM hi p0.nodes,box b4 28 [.int .i64 p1.key.pfs,.int .i64 p1.key.obj,.int .i64 p1.key.off,.int .i64 p1.made,.int .i64 p1.gone,.string p1.val],box b3 24 [.int .i64 p0.root,.slice A1 p0.nodes.length c1]] [.int .i64 r4.1.root,.slice x4 g4.length y4] ?_)
 refine T.k (.int .i64 r4.2) (T.gN ?_)
 refine T.sr (T.l (.agg #[.int .i64 p0.root,.slice Ai hi.length ci]) (ldN 12) ?_)
 refine T.k (pB b4 0) ?_
 refine T.l (.agg #[.int .i64 p1.key.pfs,.int .i64 p1.key.obj,.int .i64 p1.key.off]) (ldN 15) ?_
 refine T.k (pB b4 3) ?_
 refine T.l (.int .i64 p1.made) (ld1 15) ?_
 refine T.gO (W1.ju 10 #[.agg #[.int .i64 p0.root,.slice Ai hi.length ci],.agg #[.int .i64 p1.key.pfs,.int .i64 p1.key.obj,.int .i64 p1.key.off],.int .i64 p1.made] (fun p:Option Addr × Nat × List DHdr=>.tuple #[.agg #[.int .i64 r5.1.root,.slice p.1 p.2.2.length p.2.1],.int .i64 r5.2]) (fun p=>[row 55 eHdr p.1 p.2.1 p.2.2,im (TreeTy.mk 28 3 36) p.2.2 (r5.1.nodes.map Sum.inr)]) (fun p=>p.2.2.length=r5.1.nodes.length) (by kernel_rfl) (fun _=>by kernel_rfl) (fun w' hh=>by have h1:=hh.slM (i:=13) (j:=14) (by rfl) (by rfl);rw [hli];exact qx F p0 p1.key p1.made r5 hb5 w' Ai ci h1) ?_)
 rintro⟨x5,y5,g5⟩ hl5
 dsimp only at hl5
 refine T.tr (H':=[row 55 eHdr x5 y5 g5,il fP g5 r5.1.nodes,box b14 24 [.int .i64 r4.1.root,.slice x4 g4.length y4],row 55 eHdr x4 y4 g4,il fP g4 r4.1.nodes,box b12 24 [.int .i64 r3.1.root,.slice x3 g3.length y3],row 55 eHdr x3 y3 g3,il fP g3 r3.1.nodes,box b10 24 [.int .i64 r2.1.root,.slice x2 g2.length y2],row 55 eHdr x2 y2 g2,il fP g2 r2.1.nodes,box b8 24 [.int .i64 r1.1.root,.slice x1 g1.length y1],row 55 eHdr x1 y1 g1,il fP g1 r1.1.nodes,box b7 24 [.int .i64 p0.root,.slice Ai hi.length ci],row 55 eHdr Ai ci hi,il fM hi p0.nodes,box b4 28 [.int .i64 p1.key.pfs,.int .i64 p1.key.obj,.int .i64 p1.key.off,.int .i64 p1.made,.int .i64 p1.gone,.string p1.val],box b3 24 [.int .i64 p0.root,.slice A1 p0.nodes.length c1]]) (fun w' hh=>(Hp.treeZ (hh.ix 2 [1,0])).ix 2 [1,0]) ?_
 refine T.k3 (.tuple #[.agg #[.int .i64 r5.1.root,.slice x5 g5.length y5],.int .i64 r5.2]) (.agg #[.int .i64 r5.1.root,.slice x5 g5.length y5]) (.int .i64 r5.2) ?_
 refine T.gO (W1.np 24 [.int .i64 0,.slice none 0 0] (fun b16=>?_))
 refine T.gO (W1.st 0 [.int .i64 r5.1.root,.slice x5 g5.length y5] [box b16 24 [.int .i64 r5.1.root,.slice x5 g5.length y5],row 55 eHdr x5 y5 g5,il fP g5 r5.1.nodes,box b14 24 [.int .i64 r4.1.root,.slice x4 g4.length y4],row 55 eHdr x4 y4 g4,il fP g4 r4.1.nodes,box b12 24 [.int .i64 r3.1.root,.slice x3 g3.length y3],row 55 eHdr x3 y3 g3,il fP g3 r3.1.nodes,box b10 24 [.int .i64 r2.1.root,.slice x2 g2.length y2],row 55 eHdr x2 y2 g2,il fP g2 r2.1.nodes,box b8 24 [.int .i64 r1.1.root,.slice x1 g1.length y1],row 55 eHdr x1 y1 g1,il fP g1 r1.1.nodes,box b7 24 [.int .i64 p0.root,.slice Ai hi.length ci],row 55 eHdr Ai ci hi,il fM hi p0.nodes,box b4 28 [.int .i64 p1.key.pfs,.int .i64 p1.key.obj,.int .i64 p1.key.off,.int .i64 p1.made,.int .i64 p1.gone,.string p1.val],box b3 24 [.int .i64 p0.root,.slice A1 p0.nodes.length c1]] [.int .i64 r5.1.root,.slice x5 g5.length y5] ?_)
 refine T.k (.int .i64 r5.2) (T.gN ?_)
 refine T.sr (T.l (.agg #[.int .i64 p0.root,.slice Ai hi.length ci]) (ldN 15) ?_)
 refine T.gO (W1.ju 11 #[.agg #[.int .i64 p0.root,.slice Ai hi.length ci]] (fun p:Option Addr × Nat × List DHdr=>.tuple #[.agg #[.int .i64 r6.1.root,.slice p.1 p.2.2.length p.2.1],.int .i64 r6.2]) (fun p=>[row 55 eHdr p.1 p.2.1 p.2.2,im (TreeTy.mk 28 3 36) p.2.2 (r6.1.nodes.map Sum.inr)]) (fun p=>p.2.2.length=r6.1.nodes.length) (by kernel_rfl) (fun _=>by kernel_rfl) (fun w' hh=>by have h1:=hh.slM (i:=16) (j:=17) (by rfl) (by rfl);rw [hli];exact pL F p0 r6 hb6 w' Ai ci h1) ?_)
 rintro⟨x6,y6,g6⟩ hl6
 dsimp only at hl6
 refine T.tr (H':=[row 55 eHdr x6 y6 g6,il fP g6 r6.1.nodes,box b16 24 [.int .i64 r5.1.root,.slice x5 g5.length y5],row 55 eHdr x5 y5 g5,il fP g5 r5.1.nodes,box b14 24 [.int .i64 r4.1.root,.slice x4 g4.length y4],row 55 eHdr x4 y4 g4,il fP g4 r4.1.nodes,box b12 24 [.int .i64 r3.1.root,.slice x3 g3.length y3],row 55 eHdr x3 y3 g3,il fP g3 r3.1.nodes,box b10 24 [.int .i64 r2.1.root,.slice x2 g2.length y2],row 55 eHdr x2 y2 g2,il fP g2 r2.1.nodes,box b8 24 [.int .i64 r1.1.root,.slice x1 g1.length y1],row 55 eHdr x1 y1 g1,il fP g1 r1.1.nodes,box b7 24 [.int .i64 p0.root,.slice Ai hi.length ci],row 55 eHdr Ai ci hi,il fM hi p0.nodes,box b4 28 [.int .i64 p1.key.pfs,.int .i64 p1.key.obj,.int .i64 p1.key.off,.int .i64 p1.made,.int .i64 p1.gone,.string p1.val],box b3 24 [.int .i64 p0.root,.slice A1 p0.nodes.length c1]]) (fun w' hh=>(Hp.treeZ (hh.ix 2 [1,0])).ix 2 [1,0]) ?_
 refine T.k3 (.tuple #[.agg #[.int .i64 r6.1.root,.slice x6 g6.length y6],.int .i64 r6.2]) (.agg #[.int .i64 r6.1.root,.slice x6 g6.length y6]) (.int .i64 r6.2) ?_
 refine T.gO (W1.np 24 [.int .i64 0,.slice none 0 0] (fun b18=>?_))
 refine T.gO (W1.st 0 [.int .i64 r6.1.root,.slice x6 g6.length y6] [box b18 24 [.int .i64 r6.1.root,.slice x6 g6.length y6],row 55 eHdr x6 y6 g6,il fP g6 r6.1.nodes,box b16 24 [.int .i64 r5.1.root,.slice x5 g5.length y5],row 55 eHdr x5 y5 g5,il fP g5 r5.1.nodes,box b14 24 [.int .i64 r4.1.root,.slice x4 g4.length y4],row 55 eHdr x4 y4 g4,il fP g4 r4.1.nodes,box b12 24 [.int .i64 r3.1.root,.slice x3 g3.length y3],row 55 eHdr x3 y3 g3,il fP g3 r3.1.nodes,box b10 24 [.int .i64 r2.1.root,.slice x2 g2.length y2],row 55 eHdr x2 y2 g2,il fP g2 r2.1.nodes,box b8 24 [.int .i64 r1.1.root,.slice x1 g1.length y1],row 55 eHdr x1 y1 g1,il fP g1 r1.1.nodes,box b7 24 [.int .i64 p0.root,.slice Ai hi.length ci],row 55 eHdr Ai ci hi,il fM hi p0.nodes,box b4 28 [.int .i64 p1.key.pfs,.int .i64 p1.key.obj,.int .i64 p1.key.off,.int .i64 p1.made,.int .i64 p1.gone,.string p1.val],box b3 24 [.int .i64 p0.root,.slice A1 p0.nodes.length c1]] [.int .i64 r6.1.root,.slice x6 g6.length y6] ?_)
 refine T.k (.int .i64 r6.2) (T.gN ?_)
 refine T.sr (T.l (.agg #[.int .i64 p0.root,.slice Ai hi.length ci]) (ldN 18) ?_)
 refine T.k (.slice A2 p2.length c2) ?_
 refine T.gO (W1.ju 12 #[.agg #[.int .i64 p0.root,.slice Ai hi.length ci],.slice A2 p2.length c2,.int .i64 3] (fun p:Option Addr × Nat × List DHdr=>.tuple #[.agg #[.int .i64 r7.1.root,.slice p.1 p.2.2.length p.2.1],.int .i64 r7.2.1,.int .i64 r7.2.2]) (fun p=>[row 55 eHdr p.1 p.2.1 p.2.2,im (TreeTy.mk 28 3 36) p.2.2 (r7.1.nodes.map Sum.inr)]) (fun p=>p.2.2.length=r7.1.nodes.length) (by kernel_rfl) (fun _=>by kernel_rfl) (fun w' hh=>by have h1:=hh.slM (i:=19) (j:=20) (by rfl) (by rfl);rw [hli];exact pU F p0 p2 3 r7 hb7 w' Ai ci h1 A2 c2 (ia.mono hs2 hh.view)) ?_)
 rintro⟨x7,y7,g7⟩ hl7
 dsimp only at hl7
 refine T.tr (H':=[row 55 eHdr x7 y7 g7,il fP g7 r7.1.nodes,box b18 24 [.int .i64 r6.1.root,.slice x6 g6.length y6],row 55 eHdr x6 y6 g6,il fP g6 r6.1.nodes,box b16 24 [.int .i64 r5.1.root,.slice x5 g5.length y5],row 55 eHdr x5 y5 g5,il fP g5 r5.1.nodes,box b14 24 [.int .i64 r4.1.root,.slice x4 g4.length y4],row 55 eHdr x4 y4 g4,il fP g4 r4.1.nodes,box b12 24 [.int .i64 r3.1.root,.slice x3 g3.length y3],row 55 eHdr x3 y3 g3,il fP g3 r3.1.nodes,box b10 24 [.int .i64 r2.1.root,.slice x2 g2.length y2],row 55 eHdr x2 y2 g2,il fP g2 r2.1.nodes,box b8 24 [.int .i64 r1.1.root,.slice x1 g1.length y1],row 55 eHdr x1 y1 g1,il fP g1 r1.1.nodes,box b7 24 [.int .i64 p0.root,.slice Ai hi.length ci],row 55 eHdr Ai ci hi,il fM hi p0.nodes,box b4 28 [.int .i64 p1.key.pfs,.int .i64 p1.key.obj,.int .i64 p1.key.off,.int .i64 p1.made,.int .i64 p1.gone,.string p1.val],box b3 24 [.int .i64 p0.root,.slice A1 p0.nodes.length c1]]) (fun w' hh=>(Hp.treeZ (hh.ix 2 [1,0])).ix 2 [1,0]) ?_
 refine T.k4 (.tuple #[.agg #[.int .i64 r7.1.root,.slice x7 g7.length y7],.int .i64 r7.2.1,.int .i64 r7.2.2]) (.agg #[.int .i64 r7.1.root,.slice x7 g7.length y7]) (.int .i64 r7.2.1) (.int .i64 r7.2.2) ?_
 refine T.gO (W1.np 24 [.int .i64 0,.slice none 0 0] (fun b20=>?_))
 refine T.gO (W1.st 0 [.int .i64 r7.1.root,.slice x7 g7.length y7] [box b20 24 [.int .i64 r7.1.root,.slice x7 g7.length y7],row 55 eHdr x7 y7 g7,il fP g7 r7.1.nodes,box b18 24 [.int .i64 r6.1.root,.slice x6 g6.length y6],row 55 eHdr x6 y6 g6,il fP g6 r6.1.nodes,box b16 24 [.int .i64 r5.1.root,.slice x5 g5.length y5],row 55 eHdr x5 y5 g5,il fP g5 r5.1.nodes,box b14 24 [.int .i64 r4.1.root,.slice x4 g4.length y4],row 55 eHdr x4 y4 g4,il fP g4 r4.1.nodes,box b12 24 [.int .i64 r3.1.root,.slice x3 g3.length y3],row 55 eHdr x3 y3 g3,il fP g3 r3.1.nodes,box b10 24 [.int .i64 r2.1.root,.slice x2 g2.length y2],row 55 eHdr x2 y2 g2,il fP g2 r2.1.nodes,box b8 24 [.int .i64 r1.1.root,.slice x1 g1.length y1],row 55 eHdr x1 y1 g1,il fP g1 r1.1.nodes,box b7 24 [.int .i64 p0.root,.slice Ai hi.length ci],row 55 eHdr Ai ci hi,il fM hi p0.nodes,box b4 28 [.int .i64 p1.key.pfs,.int .i64 p1.key.obj,.int .i64 p1.key.off,.int .i64 p1.made,.int .i64 p1.gone,.string p1.val],box b3 24 [.int .i64 p0.root,.slice A1 p0.nodes.length c1]] [.int .i64 r7.1.root,.slice x7 g7.length y7] ?_)
 refine T.k2 (.int .i64 r7.2.1) (.int .i64 r7.2.2) (T.gN ?_)
 refine T.gR ?_
 refine T.sr (T.l (.agg #[.int .i64 p0.root,.slice Ai hi.length ci]) (ldN 21) ?_)
 refine T.l (.agg #[.int .i64 p0.root,.slice A1 p0.nodes.length c1]) (ldN 25) ?_
 refine T.gO (W1.cs (vSc eBool) true 13 #[.agg #[.int .i64 p0.root,.slice Ai hi.length ci],.agg #[.int .i64 p0.root,.slice A1 p0.nodes.length c1]] (.bool true) (fun V u hu=>j6 V u _ hu) (fun w' hh=>by have h1:=hh.slM (i:=22) (j:=23) (by rfl) (by rfl);rw [hli];exact lF F p0 p0 true hsame w' Ai ci h1 A1 c1 (ia.mono hs1 hh.view)) ?_)
 refine T.k2 (.bool false) (.bool false) ?_
 refine T.l (.agg #[.int .i64 p0.root,.slice Ai hi.length ci]) (ldN 21) ?_
 refine T.gO (W1.jJ 14 [.agg #[.int .i64 p0.root,.slice Ai hi.length ci]] (fun v w'=>v = .bool true∧Hp w (vw w) [row 55 eHdr Ai ci hi,il fM hi p0.nodes,box b20 24 [.int .i64 r7.1.root,.slice x7 g7.length y7],row 55 eHdr x7 y7 g7,il fP g7 r7.1.nodes,box b18 24 [.int .i64 r6.1.root,.slice x6 g6.length y6],row 55 eHdr x6 y6 g6,il fP g6 r6.1.nodes,box b16 24 [.int .i64 r5.1.root,.slice x5 g5.length y5],row 55 eHdr x5 y5 g5,il fP g5 r5.1.nodes,box b14 24 [.int .i64 r4.1.root,.slice x4 g4.length y4],row 55 eHdr x4 y4 g4,il fP g4 r4.1.nodes,box b12 24 [.int .i64 r3.1.root,.slice x3 g3.length y3],row 55 eHdr x3 y3 g3,il fP g3 r3.1.nodes,box b10 24 [.int .i64 r2.1.root,.slice x2 g2.length y2],row 55 eHdr x2 y2 g2,il fP g2 r2.1.nodes,box b8 24 [.int .i64 r1.1.root,.slice x1 g1.length y1],row 55 eHdr x1 y1 g1,il fP g1 r1.1.nodes,box b7 24 [.int .i64 p0.root,.slice Ai hi.length ci],box b4 28 [.int .i64 p1.key.pfs,.int .i64 p1.key.obj,.int .i64 p1.key.off,.int .i64 p1.made,.int .i64 p1.gone,.string p1.val],box b3 24 [.int .i64 p0.root,.slice A1 p0.nodes.length c1]] w') (by kernel_rfl) (fun _=>by kernel_rfl) (fun w' hh=>rO p0.root (hh.ix 90 [22,23,0,1,2,3,4,5,6,7,8,9,10,11,12,13,14,15,16,17,18,19,20,21,24,25])) ?_)
 rintro v w' ⟨rfl,hh⟩
 refine⟨(vw w),[row 55 eHdr Ai ci hi,il fM hi p0.nodes,box b20 24 [.int .i64 r7.1.root,.slice x7 g7.length y7],row 55 eHdr x7 y7 g7,il fP g7 r7.1.nodes,box b18 24 [.int .i64 r6.1.root,.slice x6 g6.length y6],row 55 eHdr x6 y6 g6,il fP g6 r6.1.nodes,box b16 24 [.int .i64 r5.1.root,.slice x5 g5.length y5],row 55 eHdr x5 y5 g5,il fP g5 r5.1.nodes,box b14 24 [.int .i64 r4.1.root,.slice x4 g4.length y4],row 55 eHdr x4 y4 g4,il fP g4 r4.1.nodes,box b12 24 [.int .i64 r3.1.root,.slice x3 g3.length y3],row 55 eHdr x3 y3 g3,il fP g3 r3.1.nodes,box b10 24 [.int .i64 r2.1.root,.slice x2 g2.length y2],row 55 eHdr x2 y2 g2,il fP g2 r2.1.nodes,box b8 24 [.int .i64 r1.1.root,.slice x1 g1.length y1],row 55 eHdr x1 y1 g1,il fP g1 r1.1.nodes,box b7 24 [.int .i64 p0.root,.slice Ai hi.length ci],box b4 28 [.int .i64 p1.key.pfs,.int .i64 p1.key.obj,.int .i64 p1.key.off,.int .i64 p1.made,.int .i64 p1.gone,.string p1.val],box b3 24 [.int .i64 p0.root,.slice A1 p0.nodes.length c1]],hh,?_⟩
 clear hh
 refine T.k2 (.bool false) (.bool false) (T.gN ?_)
 refine T.jy false (by kernel_rfl) (by kernel_rfl) (fun h=>Bool.noConfusion h) (fun _=>?_)
 refine T.gP ?_
 refine T.sr (T.l (.agg #[.int .i64 r1.1.root,.slice x1 g1.length y1]) (ldN 20) ?_)
 refine T.l (.agg #[.int .i64 r2.1.root,.slice x2 g2.length y2]) (ldN 17) ?_
 refine T.l (.agg #[.int .i64 r3.1.root,.slice x3 g3.length y3]) (ldN 14) ?_
 refine T.l (.agg #[.int .i64 r4.1.root,.slice x4 g4.length y4]) (ldN 11) ?_
 refine T.l (.agg #[.int .i64 r5.1.root,.slice x5 g5.length y5]) (ldN 8) ?_
 refine T.l (.agg #[.int .i64 r6.1.root,.slice x6 g6.length y6]) (ldN 5) ?_
 refine T.l (.agg #[.int .i64 r7.1.root,.slice x7 g7.length y7]) (ldN 2) ?_
 refine T.gO (W1.nw 24 [.int .i64 r1.1.root,.slice x1 g1.length y1,.int .i64 r2.1.root,.slice x2 g2.length y2,.int .i64 r3.1.root,.slice x3 g3.length y3,.int .i64 r4.1.root,.slice x4 g4.length y4,.int .i64 r5.1.root,.slice x5 g5.length y5,.int .i64 r6.1.root,.slice x6 g6.length y6,.int .i64 r7.1.root,.slice x7 g7.length y7] (fun b=>.slice (some ⟨b,0,none⟩) 7 7) (fun b97=>?_))
 refine T.nH (E:=eTH) (f:=DTH.cells) (l:=[DTH.mk r1.1.root x1 y1 g1,DTH.mk r2.1.root x2 y2 g2,DTH.mk r3.1.root x3 y3 g3,DTH.mk r4.1.root x4 y4 g4,DTH.mk r5.1.root x5 y5 g5,DTH.mk r6.1.root x6 y6 g6,DTH.mk r7.1.root x7 y7 g7]) 0 [row 24 eTH (some ⟨b97,0,none⟩) 7 [DTH.mk r1.1.root x1 y1 g1,DTH.mk r2.1.root x2 y2 g2,DTH.mk r3.1.root x3 y3 g3,DTH.mk r4.1.root x4 y4 g4,DTH.mk r5.1.root x5 y5 g5,DTH.mk r6.1.root x6 y6 g6,DTH.mk r7.1.root x7 y7 g7],row 55 eHdr Ai ci hi,il fM hi p0.nodes,box b20 24 [.int .i64 r7.1.root,.slice x7 g7.length y7],row 55 eHdr x7 y7 g7,il fP g7 r7.1.nodes,box b18 24 [.int .i64 r6.1.root,.slice x6 g6.length y6],row 55 eHdr x6 y6 g6,il fP g6 r6.1.nodes,box b16 24 [.int .i64 r5.1.root,.slice x5 g5.length y5],row 55 eHdr x5 y5 g5,il fP g5 r5.1.nodes,box b14 24 [.int .i64 r4.1.root,.slice x4 g4.length y4],row 55 eHdr x4 y4 g4,il fP g4 r4.1.nodes,box b12 24 [.int .i64 r3.1.root,.slice x3 g3.length y3],row 55 eHdr x3 y3 g3,il fP g3 r3.1.nodes,box b10 24 [.int .i64 r2.1.root,.slice x2 g2.length y2],row 55 eHdr x2 y2 g2,il fP g2 r2.1.nodes,box b8 24 [.int .i64 r1.1.root,.slice x1 g1.length y1],row 55 eHdr x1 y1 g1,il fP g1 r1.1.nodes,box b7 24 [.int .i64 p0.root,.slice Ai hi.length ci],box b4 28 [.int .i64 p1.key.pfs,.int .i64 p1.key.obj,.int .i64 p1.key.off,.int .i64 p1.made,.int .i64 p1.gone,.string p1.val],box b3 24 [.int .i64 p0.root,.slice A1 p0.nodes.length c1]] (by rfl) (fun _ _=>rfl) (by show 0 < 7;decide) (by show 7≤maxLen;unfold maxLen;omega) (by rfl) ?_
 refine T.k (.slice (some ⟨b97,0,none⟩) 7 7) (T.gN ?_)
 refine T.tr (H':=[row 24 eTH (some ⟨b97,0,none⟩) 7 [DTH.mk r1.1.root x1 y1 g1,DTH.mk r2.1.root x2 y2 g2,DTH.mk r3.1.root x3 y3 g3,DTH.mk r4.1.root x4 y4 g4,DTH.mk r5.1.root x5 y5 g5,DTH.mk r6.1.root x6 y6 g6,DTH.mk r7.1.root x7 y7 g7],il fT [DTH.mk r1.1.root x1 y1 g1,DTH.mk r2.1.root x2 y2 g2,DTH.mk r3.1.root x3 y3 g3,DTH.mk r4.1.root x4 y4 g4,DTH.mk r5.1.root x5 y5 g5,DTH.mk r6.1.root x6 y6 g6,DTH.mk r7.1.root x7 y7 g7] [r1.1,r2.1,r3.1,r4.1,r5.1,r6.1,r7.1],box b7 24 [.int .i64 p0.root,.slice Ai hi.length ci],row 55 eHdr Ai ci hi,il fM hi p0.nodes]) (fun w' hh=>?_) ?_
 ·
  have q0:Hp w (vw w) [il fT [] [],row 55 eHdr x1 y1 g1,il fP g1 r1.1.nodes,row 55 eHdr x2 y2 g2,il fP g2 r2.1.nodes,row 55 eHdr x3 y3 g3,il fP g3 r3.1.nodes,row 55 eHdr x4 y4 g4,il fP g4 r4.1.nodes,row 55 eHdr x5 y5 g5,il fP g5 r5.1.nodes,row 55 eHdr x6 y6 g6,il fP g6 r6.1.nodes,row 55 eHdr x7 y7 g7,il fP g7 r7.1.nodes,row 24 eTH (some ⟨b97,0,none⟩) 7 [DTH.mk r1.1.root x1 y1 g1,DTH.mk r2.1.root x2 y2 g2,DTH.mk r3.1.root x3 y3 g3,DTH.mk r4.1.root x4 y4 g4,DTH.mk r5.1.root x5 y5 g5,DTH.mk r6.1.root x6 y6 g6,DTH.mk r7.1.root x7 y7 g7],box b7 24 [.int .i64 p0.root,.slice Ai hi.length ci],row 55 eHdr Ai ci hi,il fM hi p0.nodes] w':=Hp.zNil fT (hh.ix 90 [22,23,19,20,16,17,13,14,10,11,7,8,4,5,0,24,1,2])
  have q1:Hp w (vw w) [il fT [DTH.mk r7.1.root x7 y7 g7] [r7.1],row 55 eHdr x1 y1 g1,il fP g1 r1.1.nodes,row 55 eHdr x2 y2 g2,il fP g2 r2.1.nodes,row 55 eHdr x3 y3 g3,il fP g3 r3.1.nodes,row 55 eHdr x4 y4 g4,il fP g4 r4.1.nodes,row 55 eHdr x5 y5 g5,il fP g5 r5.1.nodes,row 55 eHdr x6 y6 g6,il fP g6 r6.1.nodes,row 24 eTH (some ⟨b97,0,none⟩) 7 [DTH.mk r1.1.root x1 y1 g1,DTH.mk r2.1.root x2 y2 g2,DTH.mk r3.1.root x3 y3 g3,DTH.mk r4.1.root x4 y4 g4,DTH.mk r5.1.root x5 y5 g5,DTH.mk r6.1.root x6 y6 g6,DTH.mk r7.1.root x7 y7 g7],box b7 24 [.int .i64 p0.root,.slice Ai hi.length ci],row 55 eHdr Ai ci hi,il fM hi p0.nodes] w':=Hp.consT (h:=DTH.mk r7.1.root x7 y7 g7) (t:=r7.1) rfl (q0.ix 90 [13,14,0,1,2,3,4,5,6,7,8,9,10,11,12,15,16,17,18])
  have q2:Hp w (vw w) [il fT [DTH.mk r6.1.root x6 y6 g6,DTH.mk r7.1.root x7 y7 g7] [r6.1,r7.1],row 55 eHdr x1 y1 g1,il fP g1 r1.1.nodes,row 55 eHdr x2 y2 g2,il fP g2 r2.1.nodes,row 55 eHdr x3 y3 g3,il fP g3 r3.1.nodes,row 55 eHdr x4 y4 g4,il fP g4 r4.1.nodes,row 55 eHdr x5 y5 g5,il fP g5 r5.1.nodes,row 24 eTH (some ⟨b97,0,none⟩) 7 [DTH.mk r1.1.root x1 y1 g1,DTH.mk r2.1.root x2 y2 g2,DTH.mk r3.1.root x3 y3 g3,DTH.mk r4.1.root x4 y4 g4,DTH.mk r5.1.root x5 y5 g5,DTH.mk r6.1.root x6 y6 g6,DTH.mk r7.1.root x7 y7 g7],box b7 24 [.int .i64 p0.root,.slice Ai hi.length ci],row 55 eHdr Ai ci hi,il fM hi p0.nodes] w':=Hp.consT (h:=DTH.mk r6.1.root x6 y6 g6) (t:=r6.1) rfl (q1.ix 90 [11,12,0,1,2,3,4,5,6,7,8,9,10,13,14,15,16])
  have q3:Hp w (vw w) [il fT [DTH.mk r5.1.root x5 y5 g5,DTH.mk r6.1.root x6 y6 g6,DTH.mk r7.1.root x7 y7 g7] [r5.1,r6.1,r7.1],row 55 eHdr x1 y1 g1,il fP g1 r1.1.nodes,row 55 eHdr x2 y2 g2,il fP g2 r2.1.nodes,row 55 eHdr x3 y3 g3,il fP g3 r3.1.nodes,row 55 eHdr x4 y4 g4,il fP g4 r4.1.nodes,row 24 eTH (some ⟨b97,0,none⟩) 7 [DTH.mk r1.1.root x1 y1 g1,DTH.mk r2.1.root x2 y2 g2,DTH.mk r3.1.root x3 y3 g3,DTH.mk r4.1.root x4 y4 g4,DTH.mk r5.1.root x5 y5 g5,DTH.mk r6.1.root x6 y6 g6,DTH.mk r7.1.root x7 y7 g7],box b7 24 [.int .i64 p0.root,.slice Ai hi.length ci],row 55 eHdr Ai ci hi,il fM hi p0.nodes] w':=Hp.consT (h:=DTH.mk r5.1.root x5 y5 g5) (t:=r5.1) rfl (q2.ix 90 [9,10,0,1,2,3,4,5,6,7,8,11,12,13,14])
  have q4:Hp w (vw w) [il fT [DTH.mk r4.1.root x4 y4 g4,DTH.mk r5.1.root x5 y5 g5,DTH.mk r6.1.root x6 y6 g6,DTH.mk r7.1.root x7 y7 g7] [r4.1,r5.1,r6.1,r7.1],row 55 eHdr x1 y1 g1,il fP g1 r1.1.nodes,row 55 eHdr x2 y2 g2,il fP g2 r2.1.nodes,row 55 eHdr x3 y3 g3,il fP g3 r3.1.nodes,row 24 eTH (some ⟨b97,0,none⟩) 7 [DTH.mk r1.1.root x1 y1 g1,DTH.mk r2.1.root x2 y2 g2,DTH.mk r3.1.root x3 y3 g3,DTH.mk r4.1.root x4 y4 g4,DTH.mk r5.1.root x5 y5 g5,DTH.mk r6.1.root x6 y6 g6,DTH.mk r7.1.root x7 y7 g7],box b7 24 [.int .i64 p0.root,.slice Ai hi.length ci],row 55 eHdr Ai ci hi,il fM hi p0.nodes] w':=Hp.consT (h:=DTH.mk r4.1.root x4 y4 g4) (t:=r4.1) rfl (q3.ix 90 [7,8,0,1,2,3,4,5,6,9,10,11,12])
  have q5:Hp w (vw w) [il fT [DTH.mk r3.1.root x3 y3 g3,DTH.mk r4.1.root x4 y4 g4,DTH.mk r5.1.root x5 y5 g5,DTH.mk r6.1.root x6 y6 g6,DTH.mk r7.1.root x7 y7 g7] [r3.1,r4.1,r5.1,r6.1,r7.1],row 55 eHdr x1 y1 g1,il fP g1 r1.1.nodes,row 55 eHdr x2 y2 g2,il fP g2 r2.1.nodes,row 24 eTH (some ⟨b97,0,none⟩) 7 [DTH.mk r1.1.root x1 y1 g1,DTH.mk r2.1.root x2 y2 g2,DTH.mk r3.1.root x3 y3 g3,DTH.mk r4.1.root x4 y4 g4,DTH.mk r5.1.root x5 y5 g5,DTH.mk r6.1.root x6 y6 g6,DTH.mk r7.1.root x7 y7 g7],box b7 24 [.int .i64 p0.root,.slice Ai hi.length ci],row 55 eHdr Ai ci hi,il fM hi p0.nodes] w':=Hp.consT (h:=DTH.mk r3.1.root x3 y3 g3) (t:=r3.1) rfl (q4.ix 90 [5,6,0,1,2,3,4,7,8,9,10])
  have q6:Hp w (vw w) [il fT [DTH.mk r2.1.root x2 y2 g2,DTH.mk r3.1.root x3 y3 g3,DTH.mk r4.1.root x4 y4 g4,DTH.mk r5.1.root x5 y5 g5,DTH.mk r6.1.root x6 y6 g6,DTH.mk r7.1.root x7 y7 g7] [r2.1,r3.1,r4.1,r5.1,r6.1,r7.1],row 55 eHdr x1 y1 g1,il fP g1 r1.1.nodes,row 24 eTH (some ⟨b97,0,none⟩) 7 [DTH.mk r1.1.root x1 y1 g1,DTH.mk r2.1.root x2 y2 g2,DTH.mk r3.1.root x3 y3 g3,DTH.mk r4.1.root x4 y4 g4,DTH.mk r5.1.root x5 y5 g5,DTH.mk r6.1.root x6 y6 g6,DTH.mk r7.1.root x7 y7 g7],box b7 24 [.int .i64 p0.root,.slice Ai hi.length ci],row 55 eHdr Ai ci hi,il fM hi p0.nodes] w':=Hp.consT (h:=DTH.mk r2.1.root x2 y2 g2) (t:=r2.1) rfl (q5.ix 90 [3,4,0,1,2,5,6,7,8])
  have q7:Hp w (vw w) [il fT [DTH.mk r1.1.root x1 y1 g1,DTH.mk r2.1.root x2 y2 g2,DTH.mk r3.1.root x3 y3 g3,DTH.mk r4.1.root x4 y4 g4,DTH.mk r5.1.root x5 y5 g5,DTH.mk r6.1.root x6 y6 g6,DTH.mk r7.1.root x7 y7 g7] [r1.1,r2.1,r3.1,r4.1,r5.1,r6.1,r7.1],row 24 eTH (some ⟨b97,0,none⟩) 7 [DTH.mk r1.1.root x1 y1 g1,DTH.mk r2.1.root x2 y2 g2,DTH.mk r3.1.root x3 y3 g3,DTH.mk r4.1.root x4 y4 g4,DTH.mk r5.1.root x5 y5 g5,DTH.mk r6.1.root x6 y6 g6,DTH.mk r7.1.root x7 y7 g7],box b7 24 [.int .i64 p0.root,.slice Ai hi.length ci],row 55 eHdr Ai ci hi,il fM hi p0.nodes] w':=Hp.consT (h:=DTH.mk r1.1.root x1 y1 g1) (t:=r1.1) rfl (q6.ix 90 [1,2,0,3,4,5,6])
  exact q7.ix 90 [1,0,2,3,4]
 generalize hAH : [DTH.mk r1.1.root x1 y1 g1,DTH.mk r2.1.root x2 y2 g2,DTH.mk r3.1.root x3 y3 g3,DTH.mk r4.1.root x4 y4 g4,DTH.mk r5.1.root x5 y5 g5,DTH.mk r6.1.root x6 y6 g6,DTH.mk r7.1.root x7 y7 g7]=AH at *
 generalize hAD : [r1.1,r2.1,r3.1,r4.1,r5.1,r6.1,r7.1]=AD at *
 have hn7:AH.length=7:=by rw [← hAH];rfl
 have hn8:AD.length=7:=by rw [← hAD];rfl
 refine T.sr (T.k (.slice none 0 0) (T.gN ?_))
 refine T.gR ?_
 refine T.sr (T.k3 (.slice (some ⟨b97,0,none⟩) 7 7) (vi 7) (vi 0) (T.gN ?_))
 refine T.jt (fun a w'=>∃(B:Option Addr) (bc:Nat) (gs:List DTH),Fr 146 [(6,.bool false),(7,pB b7 0),(23,.slice (some ⟨b97,0,none⟩) 7 7),(24,.slice B gs.length bc)] a∧Hp w (vw w) [row 24 eTH (some ⟨b97,0,none⟩) 7 AH,il fT AH AD,row 24 eTH B bc gs,il fW gs AD,box b7 24 [.int .i64 p0.root,.slice Ai hi.length ci],row 55 eHdr Ai ci hi,il fM hi p0.nodes] w') ?_ ?_
 ·
  refine T.ie ?_
  refine T.lG 7 (fun k a w'=>∃(B:Option Addr) (bc:Nat) (gs:List DTH),Fr 146 [(6,.bool false),(7,pB b7 0),(23,.slice (some ⟨b97,0,none⟩) 7 7),(24,.slice B gs.length bc),(101,.slice (some ⟨b97,0,none⟩) 7 7),(102,vi 7),(103,vi (k:Int))] a∧Hp w (vw w) [row 24 eTH (some ⟨b97,0,none⟩) 7 AH,il fT AH AD,row 24 eTH B bc gs,il fW gs (AD.take k),box b7 24 [.int .i64 p0.root,.slice Ai hi.length ci],row 55 eHdr Ai ci hi,il fM hi p0.nodes] w') ?_ ?_ ?_
  · exact fun a w' hf hh=>⟨none,0,[],Fr.s hf,(Hp.nilRow (Hp.zNil fW hh)).ix 90 [2,3,0,1,4,5,6]⟩
  ·
   rintro k hk a w' ⟨B,bc,gs,hf,hh⟩
   refine(?_:T 146 w (vw w) [row 24 eTH (some ⟨b97,0,none⟩) 7 AH,il fT AH AD,row 24 eTH B bc gs,il fW gs (AD.take k),box b7 24 [.int .i64 p0.root,.slice Ai hi.length ci],row 55 eHdr Ai ci hi,il fM hi p0.nodes] [(6,.bool false),(7,pB b7 0),(23,.slice (some ⟨b97,0,none⟩) 7 7),(24,.slice B gs.length bc),(101,.slice (some ⟨b97,0,none⟩) 7 7),(102,vi 7),(103,vi (k:Int))] _) a w' hf hh
   clear hf hh
   obtain⟨h,hh1⟩ : ∃ h,AH[k]? = some h:=⟨_,List.getElem?_eq_getElem (by omega)⟩
   obtain⟨d,hd⟩ : ∃ d,AD[k]? = some d:=⟨_,List.getElem?_eq_getElem (by omega)⟩
   obtain⟨fd1,fd2⟩:=mL (rB hall hd)
   refine T.pY (p:=h.root=d.root) 1 (by rfl) hh1 hd rfl (fun hft=>?_)
   obtain⟨hr_,ha,hc_,hg⟩:=h
   dsimp only at hft
   subst hft
   refine T.nq 3 (by rfl) (fun hgl=>?_)
   rw [List.length_take,Nat.min_eq_left (by omega)] at hgl
   refine T.sr (T.k (.bool (decide ((k:Int) < (7:Int)))) (T.gN ?_))
   refine T.gR (T.cb (decide ((k:Int) < (7:Int))) (fun hc=>?_) (fun hc=>absurd (of_decide_eq_false hc) (by omega)))
   refine T.gP ?_
   refine T.gR (T.ie ?_)
   refine T.gR (T.gQ (T.l (.pointer (some ((iE (some ⟨b97,0,none⟩)).add ((k:Int).toNat * 2)))) (fun w' hh=>ib (e:=24) (s:=2) (n:=7) (c:=7) (iv:=(k:Int)) (k:=.i64) rfl rfl rfl (by kernel_rfl) (by kernel_rfl) (by omega) (by omega) rfl) ?_))
   refine T.l (.agg #[.int .i64 d.root,.slice ha hg.length hc_]) (fun w' hh=>j8 (cs:=[.int .i64 d.root,.slice ha hg.length hc_]) rfl rfl (by kernel_rfl) (by kernel_rfl) (fun j u hj=>ia.wcellF (E:=eTH) (hh.row_slOk (i:=0) (by rfl)) (k:=k) hh1 j (fun _ _ _ h=>h) hj)) ?_
   refine T.gO (W1.np 24 [.int .i64 0,.slice none 0 0] (fun b26=>?_))
   refine T.gO (W1.st 0 [.int .i64 d.root,.slice ha hg.length hc_] [box b26 24 [.int .i64 d.root,.slice ha hg.length hc_],row 24 eTH (some ⟨b97,0,none⟩) 7 AH,il fT AH AD,row 24 eTH B bc gs,il fW gs (AD.take k),box b7 24 [.int .i64 p0.root,.slice Ai hi.length ci],row 55 eHdr Ai ci hi,il fM hi p0.nodes] [.int .i64 d.root,.slice ha hg.length hc_] (T.gN ?_))
   refine T.gQ (T.k (.slice B gs.length bc) ?_)
   refine T.l (.agg #[.int .i64 d.root,.slice ha hg.length hc_]) (ldN 0) ?_
   refine T.gO (W1.ju 4 #[.agg #[.int .i64 d.root,.slice ha hg.length hc_]] (fun p:Option Addr × Nat × List DHdr=>.agg #[.int .i64 d.root,.slice p.1 p.2.2.length p.2.1]) (fun p=>[row 55 eHdr p.1 p.2.1 p.2.2,il fM p.2.2 d.nodes]) (fun p=>p.2.2.length=d.nodes.length) (by kernel_rfl) (fun _=>by kernel_rfl) (fun w' hh=>by have h3:=hh.zAtI (i:=2) (by rfl) hh1 hd;have h6:hg.length=d.nodes.length:=h3.zLen (i:=2) rfl;rw [h6];exact pc d fd1 w' ha hc_ (h3.slP (i:=1) (j:=2) rfl rfl)) ?_)
   rintro⟨z1,z2,zs⟩ hl_
   dsimp only at hl_
   refine T.iK (H':=[row 55 eHdr z1 z2 zs,il fM zs d.nodes,box b26 24 [.int .i64 d.root,.slice ha hg.length hc_],row 24 eTH (some ⟨b97,0,none⟩) 7 AH,il fT AH AD,row 24 eTH B bc gs,il fW gs (AD.take k),box b7 24 [.int .i64 p0.root,.slice Ai hi.length ci],row 55 eHdr Ai ci hi,il fM hi p0.nodes]) (by rfl) ?_
   have hlz:zs.length=d.nodes.length:=hl_
   refine T.gO (W1.ns 24 [.int .i64 d.root,.slice z1 zs.length z2] (fun b118=>?_))
   refine T.gO (W1.a (E:=eTH) (l:=gs) (m:=[(DTH.mk d.root z1 z2 zs)]) 6 32 (info_parts (P:=Tryz.prog) (e:=24) (z:=.agg #[.int .i64 0,.slice none 0 0]) (size:=2) (bytes:=32) (by kernel_rfl)) (fun w' hh=>qZ (E:=eTH) hh (i:=0) (by rfl) rfl) (decide_eq_true (by show (gs.length + 1) * 32≤_;omega)) (by show gs.length + 1≤_;unfold maxLen;omega) (fun B' bc'=>?_))
   refine T.iK (H':=[box b118 24 [.int .i64 d.root,.slice z1 zs.length z2],row 55 eHdr z1 z2 zs,il fM zs d.nodes,box b26 24 [.int .i64 d.root,.slice ha hg.length hc_],row 24 eTH (some ⟨b97,0,none⟩) 7 AH,il fT AH AD,row 24 eTH B' bc' (gs ++ [(DTH.mk d.root z1 z2 zs)]),il fW gs (AD.take k),box b7 24 [.int .i64 p0.root,.slice Ai hi.length ci],row 55 eHdr Ai ci hi,il fM hi p0.nodes]) (by rfl) ?_
   refine T.k (.slice B' (gs ++ [(DTH.mk d.root z1 z2 zs)]).length bc') (T.gN ?_)
   refine T.tr (H':=[row 24 eTH (some ⟨b97,0,none⟩) 7 AH,il fT AH AD,row 24 eTH B' bc' (gs ++ [(DTH.mk d.root z1 z2 zs)]),il fW (gs ++ [(DTH.mk d.root z1 z2 zs)]) (AD.take k ++ [d]),box b7 24 [.int .i64 p0.root,.slice Ai hi.length ci],row 55 eHdr Ai ci hi,il fM hi p0.nodes]) (fun w' hh=>(Hp.zPush (f:=fW) (a:=(DTH.mk d.root z1 z2 zs)) (b:=d) (Hp.put (hh.ix 90 [1,2,7,4,5,6,8,9,10]) (show ((DTH.mk d.root z1 z2 zs)).root=d.root from rfl))).ix 90 [1,2,3,0,4,5,6]) ?_
   refine T.gQ (T.k (vi (IntKind.i64.wrap ((k:Int) + 1))) ?_)
   refine T.ig 112 (vi ((k + 1:Nat) : Int)) rfl (by show Value.int .i64 _=Value.int .i64 _;congr 1;rw [IntKind.wrap_i64];omega) ?_
   refine T.k (vi ((k + 1:Nat) : Int)) (T.gN ?_)
   exact fun a w' hf hh=>⟨B',bc',_,Fr.s hf,by rw [List.take_add_one,hd,Option.toList_some];exact hh⟩
  ·
   rintro a w' ⟨B,bc,gs,hf,hh⟩
   refine(?_:T 146 w (vw w) [row 24 eTH (some ⟨b97,0,none⟩) 7 AH,il fT AH AD,row 24 eTH B bc gs,il fW gs (AD.take 7),box b7 24 [.int .i64 p0.root,.slice Ai hi.length ci],row 55 eHdr Ai ci hi,il fM hi p0.nodes] [(6,.bool false),(7,pB b7 0),(23,.slice (some ⟨b97,0,none⟩) 7 7),(24,.slice B gs.length bc),(101,.slice (some ⟨b97,0,none⟩) 7 7),(102,vi 7),(103,vi ((7:Nat) : Int))] _) a w' hf hh
   clear hf hh
   refine T.sr (T.k (.bool (decide ((7:Int) < (7:Int)))) (T.gN ?_))
   refine T.gR (T.cb (decide ((7:Int) < (7:Int))) (fun hc=>absurd (of_decide_eq_true hc) (by omega)) (fun hc=>?_))
   refine T.iI (T.i8 (T.i8 (T.kZ ?_)))
   exact fun a w' hf hh=>⟨B,bc,gs,Fr.s hf,by rw [List.take_of_length_le (by omega)] at hh;exact hh⟩
 rintro a w' ⟨B,bc,gs,hf,hh⟩
 refine(?_:T 146 w (vw w) [row 24 eTH (some ⟨b97,0,none⟩) 7 AH,il fT AH AD,row 24 eTH B bc gs,il fW gs AD,box b7 24 [.int .i64 p0.root,.slice Ai hi.length ci],row 55 eHdr Ai ci hi,il fM hi p0.nodes] [(6,.bool false),(7,pB b7 0),(23,.slice (some ⟨b97,0,none⟩) 7 7),(24,.slice B gs.length bc)] _) a w' hf hh
 clear hf hh
 refine T.sr (T.l (.agg #[.int .i64 p0.root,.slice Ai hi.length ci]) (ldN 4) ?_)
 refine T.gO (W1.jJ 15 [.agg #[.int .i64 p0.root,.slice Ai hi.length ci]] (fun v w'=>v = .tuple #[]∧Hp w (vw w) [row 24 eTH (some ⟨b97,0,none⟩) 7 AH,il fT AH AD,row 24 eTH B bc gs,il fW gs AD,box b7 24 [.int .i64 p0.root,.slice Ai hi.length ci]] w') (by kernel_rfl) (fun _=>by kernel_rfl) (fun w' hh=>nk p0.root ((Hp.zMap (fun a b X hx=>tI a b X hx) (hh.ix 90 [6,5,0,1,2,3,4])).ix 2 [1,0])) ?_)
 rintro v w' ⟨rfl,hh⟩
 refine⟨(vw w),[row 24 eTH (some ⟨b97,0,none⟩) 7 AH,il fT AH AD,row 24 eTH B bc gs,il fW gs AD,box b7 24 [.int .i64 p0.root,.slice Ai hi.length ci]],hh,?_⟩
 clear hh
 refine T.gN ?_
 refine T.gR ?_
 refine T.sr (T.k3 (.slice (some ⟨b97,0,none⟩) 7 7) (vi 7) (vi 0) (T.gN ?_))
 refine T.jt (fun a w'=>Fr 146 [(6,.bool false)] a∧Hp w (vw w) [] w') ?_ ?_
 ·
  refine T.ie ?_
  refine T.lG 7 (fun k a w'=>Fr 146 [(6,.bool false),(24,.slice B gs.length bc),(115,.slice (some ⟨b97,0,none⟩) 7 7),(116,vi 7),(117,vi (k:Int))] a∧Hp w (vw w) [row 24 eTH (some ⟨b97,0,none⟩) 7 AH,il fT (AH.drop k) (AD.drop k),row 24 eTH B bc gs,il fW gs AD] w') ?_ ?_ ?_
  · exact fun a w' hf hh=>⟨Fr.s hf,hh.ix 90 [0,1,2,3]⟩
  ·
   rintro k hk a w' ⟨hf,hh⟩
   refine(?_:T 146 w (vw w) [row 24 eTH (some ⟨b97,0,none⟩) 7 AH,il fT (AH.drop k) (AD.drop k),row 24 eTH B bc gs,il fW gs AD] [(6,.bool false),(24,.slice B gs.length bc),(115,.slice (some ⟨b97,0,none⟩) 7 7),(116,vi 7),(117,vi (k:Int))] _) a w' hf hh
   clear hf hh
   obtain⟨h,hh1⟩ : ∃ h,AH[k]? = some h:=⟨_,List.getElem?_eq_getElem (by omega)⟩
   obtain⟨d,hd⟩ : ∃ d,AD[k]? = some d:=⟨_,List.getElem?_eq_getElem (by omega)⟩
   obtain⟨fd1,fd2⟩:=mL (rB hall hd)
   refine T.nq 3 (by rfl) (fun hgl=>?_)
   obtain⟨g,hg1⟩ : ∃ g,gs[k]? = some g:=⟨_,List.getElem?_eq_getElem (by omega)⟩
   refine T.pY (p:=g.root=d.root) 3 (by rfl) hg1 hd rfl (fun hft=>?_)
   obtain⟨gr,ga,gc,gg⟩:=g
   dsimp only at hft
   subst hft
   have e1:AH.drop k=h::AH.drop (k + 1):=by rw [List.drop_eq_getElem_cons (by omega),← (List.getElem?_eq_some_iff.1 hh1).2]
   have e2:AD.drop k=d::AD.drop (k + 1):=by rw [List.drop_eq_getElem_cons (by omega),← (List.getElem?_eq_some_iff.1 hd).2]
   rw [e1,e2]
   refine T.pY (k:=0) (a:=h) (b:=d) (p:=h.root=d.root) 1 (by rfl) rfl rfl rfl (fun hft=>?_)
   obtain⟨hr_,ha,hc_,hg⟩:=h
   dsimp only at hft
   subst hft
   refine T.tr (H':=[row 55 eHdr ha hc_ hg,il fP hg d.nodes,il fT (AH.drop (k + 1)) (AD.drop (k + 1)),row 24 eTH (some ⟨b97,0,none⟩) 7 AH,row 24 eTH B bc gs,il fW gs AD]) (fun w' hh=>(Hp.zPop (f:=fT) (a:=DTH.mk d.root ha hc_ hg) (b:=d) (hh.ix 90 [1,0,2,3])).sub (.cons _ (List.Sublist.refl _))) ?_
   refine T.nq 1 (by rfl) (fun hlu=>?_)
   refine T.sr (T.k (.bool (decide ((k:Int) < (7:Int)))) (T.gN ?_))
   refine T.gR (T.cb (decide ((k:Int) < (7:Int))) (fun hc=>?_) (fun hc=>absurd (of_decide_eq_false hc) (by omega)))
   refine T.gP ?_
   refine T.gR (T.ie ?_)
   refine T.gR (T.gQ (T.k (vi (k:Int)) ?_))
   refine T.l (.pointer (some ((iE (some ⟨b97,0,none⟩)).add ((k:Int).toNat * 2)))) (fun w' hh=>ib (e:=24) (s:=2) (n:=7) (c:=7) (iv:=(k:Int)) (k:=.i64) rfl rfl rfl (by kernel_rfl) (by kernel_rfl) (by omega) (by omega) rfl) ?_
   refine T.l (.agg #[.int .i64 d.root,.slice ha hg.length hc_]) (fun w' hh=>j8 (cs:=[.int .i64 d.root,.slice ha hg.length hc_]) rfl rfl (by kernel_rfl) (by kernel_rfl) (fun j u hj=>ia.wcellF (E:=eTH) (hh.row_slOk (i:=3) (by rfl)) (k:=k) hh1 j (fun _ _ _ h=>h) hj)) ?_
   refine T.gO (W1.np 24 [.int .i64 0,.slice none 0 0] (fun b28=>?_))
   refine T.k (vi (k:Int)) ?_
   refine T.gO (W1.st 0 [.int .i64 d.root,.slice ha hg.length hc_] [box b28 24 [.int .i64 d.root,.slice ha hg.length hc_],row 55 eHdr ha hc_ hg,il fP hg d.nodes,il fT (AH.drop (k + 1)) (AD.drop (k + 1)),row 24 eTH (some ⟨b97,0,none⟩) 7 AH,row 24 eTH B bc gs,il fW gs AD] [.int .i64 d.root,.slice ha hg.length hc_] (T.gN ?_))
   refine T.gR ?_
   refine T.gR ?_
   refine T.jt (fun a w'=>Fr 146 [(6,.bool false),(24,.slice B gs.length bc),(115,.slice (some ⟨b97,0,none⟩) 7 7),(116,vi 7),(117,vi (k:Int)),(27,vi (k:Int)),(28,pB b28 0),(128,.bool false)] a∧Hp w (vw w) [box b28 24 [.int .i64 d.root,.slice ha hg.length hc_],row 55 eHdr ha hc_ hg,il fP hg d.nodes,il fT (AH.drop (k + 1)) (AD.drop (k + 1)),row 24 eTH (some ⟨b97,0,none⟩) 7 AH,row 24 eTH B bc gs,il fW gs AD] w') ?_ ?_
   ·
    refine T.jD [box b28 24 [.int .i64 d.root,.slice ha hg.length hc_],row 24 eTH B bc gs] (by kernel_rfl) ?_
    refine TA.tk 0 (.agg #[.int .i64 d.root,.slice ha hg.length hc_]) rfl (fun _ hh=>hh.ix 90 [0,5]) (ldN 0) ?_
    refine TA.tp 1 (.slice B gs.length bc) rfl (fun _ hh=>hh.ix 90 [0,5]) ?_
    refine TA.tp 2 (vi (k:Int)) rfl (fun _ hh=>hh.ix 90 [0,5]) ?_
    refine TA.tk 3 (.pointer (some ((iE B).add ((k:Int).toNat * 2)))) rfl (fun _ hh=>hh.ix 90 [0,5]) (fun w' hh=>ib (e:=24) (s:=2) (n:=gs.length) (c:=bc) (iv:=(k:Int)) (k:=.i64) rfl rfl rfl (by kernel_rfl) (by kernel_rfl) (by omega) (by omega) ((hh.row_slOk (i:=1) (by rfl)).some_ (k:=k) hg1 (by decide))) ?_
    refine TA.tk 4 (.agg #[.int .i64 d.root,.slice ga gg.length gc]) rfl (fun _ hh=>hh.ix 90 [0,5]) (fun w' hh=>j8 (cs:=[.int .i64 d.root,.slice ga gg.length gc]) rfl rfl (by kernel_rfl) (by kernel_rfl) (fun j u hj=>ia.wcellF (E:=eTH) (hh.row_slOk (i:=1) (by rfl)) (k:=k) hg1 j (fun _ _ _ h=>h) hj)) ?_
    refine TA.j 5 rfl (W1.cs (vSc eBool) true 13 #[.agg #[.int .i64 d.root,.slice ha hg.length hc_],.agg #[.int .i64 d.root,.slice ga gg.length gc]] (.bool true) (fun V u hu=>j6 V u _ hu) (fun w' hh=>by have h3:=hh.zAtI (i:=6) (by rfl) hg1 hd;have h4:=h3.slM (i:=1) (j:=2) rfl rfl;have h5:=hh.slP (i:=1) (j:=2) (by rfl) (by rfl);have h2:=lF F d d true fd2 w' ha hc_ h5 ga gc h4;have h6:gg.length=d.nodes.length:=h3.zLen (i:=2) rfl;rw [hlu,h6];exact h2) ?_)
    refine TA.on (fun _ hh=>hh.ix 90 [0,5]) ?_
    refine TA.tp 6 (.bool false) rfl (fun _ hh=>hh.ix 90 [0,5]) ?_
    refine TA.d ?_
    exact fun a w' hf hh=>⟨Fr.s hf,hh⟩
   rintro a w' ⟨hf,hh⟩
   refine(?_:T 146 w (vw w) [box b28 24 [.int .i64 d.root,.slice ha hg.length hc_],row 55 eHdr ha hc_ hg,il fP hg d.nodes,il fT (AH.drop (k + 1)) (AD.drop (k + 1)),row 24 eTH (some ⟨b97,0,none⟩) 7 AH,row 24 eTH B bc gs,il fW gs AD] [(6,.bool false),(24,.slice B gs.length bc),(115,.slice (some ⟨b97,0,none⟩) 7 7),(116,vi 7),(117,vi (k:Int)),(27,vi (k:Int)),(28,pB b28 0),(128,.bool false)] _) a w' hf hh
   clear hf hh
   refine T.jy false (by kernel_rfl) (by kernel_rfl) (fun h=>Bool.noConfusion h) (fun _=>?_)
   refine T.gP ?_
   refine T.gQ (T.l (.agg #[.int .i64 d.root,.slice ha hg.length hc_]) (ldN 0) ?_)
   refine T.gO (W1.jJ 15 [.agg #[.int .i64 d.root,.slice ha hg.length hc_]] (fun v w'=>v = .tuple #[]∧Hp w (vw w) [box b28 24 [.int .i64 d.root,.slice ha hg.length hc_],il fT (AH.drop (k + 1)) (AD.drop (k + 1)),row 24 eTH (some ⟨b97,0,none⟩) 7 AH,row 24 eTH B bc gs,il fW gs AD] w') (by kernel_rfl) (fun _=>by kernel_rfl) (fun w' hh=>nk d.root ((Hp.toS (hh.ix 90 [2,1,0,3,4,5,6])).ix 2 [1,0])) ?_)
   rintro v w' ⟨rfl,hh⟩
   refine⟨(vw w),[box b28 24 [.int .i64 d.root,.slice ha hg.length hc_],il fT (AH.drop (k + 1)) (AD.drop (k + 1)),row 24 eTH (some ⟨b97,0,none⟩) 7 AH,row 24 eTH B bc gs,il fW gs AD],hh,?_⟩
   clear hh
   refine T.gN ?_
   refine T.gQ (T.k (vi (IntKind.i64.wrap ((k:Int) + 1))) ?_)
   refine T.ig 131 (vi ((k + 1:Nat) : Int)) rfl (by show Value.int .i64 _=Value.int .i64 _;congr 1;rw [IntKind.wrap_i64];omega) ?_
   refine T.k (vi ((k + 1:Nat) : Int)) (T.gN ?_)
   exact fun a w' hf hh=>⟨Fr.s hf,hh.ix 90 [2,1,3,4]⟩
  ·
   rintro a w' ⟨hf,hh⟩
   refine(?_:T 146 w (vw w) [row 24 eTH (some ⟨b97,0,none⟩) 7 AH,il fT (AH.drop 7) (AD.drop 7),row 24 eTH B bc gs,il fW gs AD] [(6,.bool false),(24,.slice B gs.length bc),(115,.slice (some ⟨b97,0,none⟩) 7 7),(116,vi 7),(117,vi ((7:Nat) : Int))] _) a w' hf hh
   clear hf hh
   refine T.sr (T.k (.bool (decide ((7:Int) < (7:Int)))) (T.gN ?_))
   refine T.gR (T.cb (decide ((7:Int) < (7:Int))) (fun hc=>absurd (of_decide_eq_true hc) (by omega)) (fun hc=>?_))
   refine T.iI (T.i8 (T.i8 (T.kZ ?_)))
   exact fun a w' hf hh=>⟨Fr.s hf,hh.sub kp0⟩
 rintro a w' ⟨hf,hh⟩
 refine(?_:T 146 w (vw w) [] [(6,.bool false)] _) a w' hf hh
 clear hf hh
 refine T.sr (T.gO (W1.cs (vAg eElem) rC 18 #[.int .i64 1,.string (ByteArray.mk #[97])] (.agg #[.int .i64 0,.int .i64 0,.int .i64 1,.int .i64 1,.int .i64 0,.string (ByteArray.mk #[97])]) (fun V u hu=>lz V u _ hu) (fun w' hh=>oC 1 (ByteArray.mk #[97]) rC rfl w') ?_))
 refine T.gO (W1.ns 28 [.int .i64 0,.int .i64 0,.int .i64 1,.int .i64 1,.int .i64 0,.string (ByteArray.mk #[97])] (fun b134=>?_))
 refine T.gO (W1.ju 17 #[.slice (some ⟨b134,0,none⟩) 1 1] (fun p:Option Addr × Nat × List DHdr=>.agg #[.int .i64 r8.root,.slice p.1 p.2.2.length p.2.1]) (fun p=>[row 55 eHdr p.1 p.2.1 p.2.2,im (TreeTy.mk 28 3 36) p.2.2 (r8.nodes.map Sum.inr)]) (fun p=>p.2.2.length=r8.nodes.length) (by kernel_rfl) (fun _=>by kernel_rfl) (fun w' hh=>oR F [rC] r8 hb8 w' _ _ (jr (E:=eElem) (f:=DElem.cells) [rC] (fun _ _=>rfl) (Nat.le_of_ble_eq_true (by rfl)) (fun j=>hh.cellBox (i:=0) (by rfl) j))) ?_)
 rintro⟨x8,y8,g8⟩ hl8
 dsimp only at hl8
 refine T.tr (H':=[row 55 eHdr x8 y8 g8,il fP g8 r8.nodes,box b134 28 [.int .i64 0,.int .i64 0,.int .i64 1,.int .i64 1,.int .i64 0,.string (ByteArray.mk #[97])]]) (fun w' hh=>(Hp.treeZ (hh.ix 2 [1,0])).ix 2 [1,0]) ?_
 refine T.gO (W1.w1 (vT2 (vSc (ou eElem)) (vSc hO)) r9 16 #[.agg #[.int .i64 r8.root,.slice x8 g8.length y8]] (fun w' hh=>by have h1:=hh.slP (i:=0) (j:=1) (by rfl) (by rfl);rw [hl8];exact nF F r8 r9 hb9 w' x8 y8 h1) ?_)
 intro u V1 hV1 hu
 obtain⟨u1,u2,rfl,hu1,hu2⟩:=pu hu
 obtain⟨A9,c9,rfl,hs9⟩:=l8 hu1
 obtain rfl:=iA _ _ _ hu2
 refine T.k5 (.tuple #[.slice A9 r9.1.length c9,.int .i64 r9.2]) (.slice A9 r9.1.length c9) (.int .i64 r9.2) (.slice A9 r9.1.length c9) (.int .i64 r9.2) (T.gN ?_)
 refine T.sr (T.k2 (.int .i64 r9.2) (.bool (r9.2 == 0)) ?_)
 refine T.ig 140 (.bool true) rfl (by rw [hz]) ?_
 refine T.k2 (.bool true) (.slice A9 r9.1.length c9) ?_
 refine T.k2 (vi (r9.1.length:Int)) (.bool ((r9.1.length:Int) == 1)) ?_
 refine T.ig 144 (.bool true) rfl (by rw [hone]) ?_
 refine T.k2 (.bool true) (.bool true) (T.gN ?_)
 refine T.ik rfl ?_
 exact T.iq rfl (rT rfl) fun w' hh=>⟨_,rfl,hh.below,(show _ from rfl)⟩
end Go.Proofs.YtfbpiogbhkgieaaGreat
