/- What the functions copied, spoilTree and room do to trees of the call's own. Conditions: as each states. -/
import Derived.Test.YtfbpiogbhkgieaaGreatRoomTL
import Derived.Test.YtfbpiogbhkgieaaGreatTrFL
namespace Go.Proofs.YtfbpiogbhkgieaaGreat
open Go.RowKit
set_option linter.unusedVariables false
set_option linter.unusedSimpArgs false
set_option maxRecDepth 100000
set_option maxHeartbeats 4000000
section
variable {rl:Option Nat} {P:Program} {N:Sz} {w0:World} {V:View} {H:List HObj} {M:List (Nat × Value)} {φ:Act→World→Prop} {α β:Type} {f:α→β→List HObj}
theorem T.tr {H' : List HObj} (h1 : ∀ w,Hp w0 V H w→Hp w0 V H' w) (h:T N w0 V H' M φ) : T N w0 V H M φ:=fun a w hf hh=>h a w hf (h1 w hh)
theorem T.nq {al:List α} {bl:List β} (i:Nat) (hi:nth H i=some (il f al bl)) (q:al.length=bl.length→T N w0 V H M φ) : T N w0 V H M φ:=fun a w hf hh=>q (hh.zLen hi) a w hf hh
theorem T.pY {al:List α} {bl:List β} {k:Nat} {a:α} {b:β} {p:Prop} {R:List HObj} (i:Nat) (hi:nth H i=some (il f al bl)) (h1:al[k]? = some a) (h2:bl[k]? = some b) (hf:f a b=ku p::R) (q:p→T N w0 V H M φ) : T N w0 V H M φ :=
 fun x w hfr hh=>q (by have:=hh.zAtI hi h1 h2;rw [hf] at this;exact this.objs _ List.mem_cons_self) x w hfr hh
theorem Hp.nilRow {α:Type} {w0:World} {V:View} {H:List HObj} {w:World} (hh:Hp w0 V H w) {t:TypeId} {E:Enc α} : Hp w0 V (row t E none 0 []::H) w :=
 hh.fresh_obj _ ⟨rfl,rfl,rfl,Nat.le_refl _,fun _ _ _=>rfl⟩ ⟨Nat.le_refl _,by decide,.inl rfl⟩ (fun b hb=>by cases hb)
end
theorem T.rt {N:Sz} {w0:World} {V:View} {H:List HObj} {M:List (Nat × Value)} {φ:Act→World→Prop} {hs:List DHdr} {ns:List DNode} {k:Nat} {h:DHdr} {n:DNode} (i:Nat) (hi:nth H i=some (il fM hs ns)) (h1:hs[k]? = some h) (h2:ns[k]? = some n)
 (q:n.elems.length + 3≤maxLen→n.kids.length + 3≤maxLen→n.tids.length + 3≤maxLen→T N w0 V H M φ) : T N w0 V H M φ:=fun a w hf hh=>by
 have h3:=hh.zAtI hi h1 h2
 exact q (h3.row_slOk (i:=1) rfl).2.1 (h3.row_slOk (i:=2) rfl).2.1 (h3.row_slOk (i:=4) rfl).2.1 a w hf hh
theorem pc (p0:DTree) (hq:qr p0=true) (w:World) (A1:Option Addr) (c1:Nat) (hs1:ia (vw w) kr A1 c1 p0.nodes) :
 Calls Tryz.prog 4 #[.agg #[.int .i64 p0.root,.slice A1 p0.nodes.length c1]] w (fun e w'=>∃ p:Option Addr × Nat × List DHdr,e = .returned (.agg #[.int .i64 p0.root,.slice p.1 p.2.2.length p.2.1])∧p.2.2.length=p0.nodes.length∧lE w w' [row 55 eHdr p.1 p.2.1 p.2.2,il fM p.2.2 p0.nodes]):=by
 obtain⟨hqn,hqa⟩:=qt hq
 refine T.i9 (l:=[.agg #[vi p0.root,.slice A1 p0.nodes.length c1]]) Tryz.func4 rfl rfl rfl ?_
 refine T.sr (T.gO (W1.np 24 [vi p0.root,.slice A1 p0.nodes.length c1] (fun b1=>T.gO (W1.np 24 [vi 0,sN] (fun b2=>T.gN ?_)))))
 refine T.sr (T.k (pB b1 0) ?_)
 refine T.l (vi p0.root) (ld1 1) ?_
 refine T.k (.agg #[vi p0.root,sN]) ?_
 refine T.gO (W1.np 24 [vi 0,sN] (fun b3=>?_))
 refine T.gO (W1.st 0 [vi p0.root,sN] [box b3 24 [vi p0.root,sN],box b2 24 [vi 0,sN],box b1 24 [vi p0.root,.slice A1 p0.nodes.length c1]] [vi p0.root,sN] (T.gN ?_))
 refine T.gR ?_
 refine T.sr (T.k (pB b1 1) ?_)
 refine T.l (.slice A1 p0.nodes.length c1) (ld1 2) ?_
 refine T.k2 (vi (p0.nodes.length:Int)) (vi 0) (T.gN ?_)
 refine T.jt (fun a w'=>∃(B:Option Addr) (bc:Nat) (gs:List DHdr),Fr 40 [(2,pB b2 0),(3,pB b3 0)] a∧Hp w (vw w) [row 55 eHdr B bc gs,il fM gs p0.nodes,box b3 24 [vi p0.root,.slice B gs.length bc],box b2 24 [vi 0,sN]] w') ?_ ?_
 ·
  refine T.ie ?_
  refine T.lG p0.nodes.length (fun k a w'=>∃(B:Option Addr) (bc:Nat) (gs:List DHdr),Fr 40 [(2,pB b2 0),(3,pB b3 0),(10,.slice A1 p0.nodes.length c1),(11,vi (p0.nodes.length:Int)),(12,vi (k:Int))] a∧Hp w (vw w) [row 55 eHdr B bc gs,il fM gs (p0.nodes.take k),box b3 24 [vi p0.root,.slice B gs.length bc],box b2 24 [vi 0,sN]] w') ?_ ?_ ?_
  · exact fun a w' hf hh=>⟨none,0,[],Fr.s hf,(Hp.nilRow (Hp.zNil fM hh)).ix 60 [0,1,2,3]⟩
  ·
   rintro k hk a w' ⟨B,bc,gs,hf,hh⟩
   refine(?_:T 40 w (vw w) [row 55 eHdr B bc gs,il fM gs (p0.nodes.take k),box b3 24 [vi p0.root,.slice B gs.length bc],box b2 24 [vi 0,sN]] [(2,pB b2 0),(3,pB b3 0),(10,.slice A1 p0.nodes.length c1),(11,vi (p0.nodes.length:Int)),(12,vi (k:Int))] _) a w' hf hh
   clear hf hh
   obtain⟨n,hn⟩ : ∃ n,p0.nodes[k]? = some n:=⟨_,List.getElem?_eq_getElem hk⟩
   obtain⟨q1,q2,q3,q4⟩:=qq (List.all_eq_true.1 hqa n (List.mem_of_getElem? hn))
   refine T.nq 1 (by rfl) (fun hgl=>?_)
   rw [List.length_take,Nat.min_eq_left (by omega)] at hgl
   obtain⟨cs1,hr2,hc2⟩:=ia.elem hs1 hn
   obtain⟨A4,c4,A5,c5,A6,c6,A7,c7,rfl,hs4,hs5,hs6,hs7⟩:=hr2
   refine T.sr (T.k (.bool (decide ((k:Int) < (p0.nodes.length:Int)))) (T.gN ?_))
   refine T.gR (T.cb (decide ((k:Int) < (p0.nodes.length:Int))) (fun hc=>?_) (fun hc=>absurd (of_decide_eq_false hc) (by omega)))
   refine T.gP ?_
   refine T.gR (T.ie ?_)
   refine T.gR (T.gQ (T.l (.pointer (some ((iE A1).add ((k:Int).toNat * 5)))) (fun w' hh=>ib (e:=55) (s:=5) rfl rfl rfl (by kernel_rfl) (by kernel_rfl) (by omega) (by omega) (hs1.some_ hn (by decide))) ?_))
   refine T.l (.agg #[vi n.kind,.slice A4 n.elems.length c4,.slice A5 n.kids.length c5,.slice A6 n.seps.length c6,.slice A7 n.tids.length c7]) (fun w' hh=>j8 (cs:=[vi n.kind,.slice A4 n.elems.length c4,.slice A5 n.kids.length c5,.slice A6 n.seps.length c6,.slice A7 n.tids.length c7]) rfl rfl (by kernel_rfl) (by kernel_rfl) (fun j u hj=>hh.cell_view (View.cell_mono vr (hc2 j u hj).2))) ?_
   refine T.gO (W1.np 55 [vi 0,sN,sN,sN,sN] (fun b5=>?_))
   refine T.gO (W1.st 0 [vi n.kind,.slice A4 n.elems.length c4,.slice A5 n.kids.length c5,.slice A6 n.seps.length c6,.slice A7 n.tids.length c7] [box b5 55 [vi n.kind,.slice A4 n.elems.length c4,.slice A5 n.kids.length c5,.slice A6 n.seps.length c6,.slice A7 n.tids.length c7],row 55 eHdr B bc gs,il fM gs (p0.nodes.take k),box b3 24 [vi p0.root,.slice B gs.length bc],box b2 24 [vi 0,sN]] [vi n.kind,.slice A4 n.elems.length c4,.slice A5 n.kids.length c5,.slice A6 n.seps.length c6,.slice A7 n.tids.length c7] (T.gN ?_))
   refine T.jt (fun a w'=>∃(B' : Option Addr) (bc' : Nat) (g1 g2 g3 g4:Option Addr),Fr 40 [(2,pB b2 0),(3,pB b3 0),(10,.slice A1 p0.nodes.length c1),(11,vi (p0.nodes.length:Int)),(12,vi (k:Int))] a∧Hp w (vw w) [row 55 eHdr B' bc' (gs ++ [(DHdr.mk n.kind g1 n.elems.length (n.elems.length + 3) g2 n.kids.length (n.kids.length + 3) g3 n.seps.length (n.seps.length + 3) g4 n.tids.length (n.tids.length + 3))]),il fM (gs ++ [(DHdr.mk n.kind g1 n.elems.length (n.elems.length + 3) g2 n.kids.length (n.kids.length + 3) g3 n.seps.length (n.seps.length + 3) g4 n.tids.length (n.tids.length + 3))]) (p0.nodes.take k ++ [n]),box b3 24 [vi p0.root,.slice B' (gs ++ [(DHdr.mk n.kind g1 n.elems.length (n.elems.length + 3) g2 n.kids.length (n.kids.length + 3) g3 n.seps.length (n.seps.length + 3) g4 n.tids.length (n.tids.length + 3))]).length bc'],box b2 24 [vi 0,sN]] w') ?_ ?_
   ·
    refine T.jA 20 [box b5 55 [vi n.kind,.slice A4 n.elems.length c4,.slice A5 n.kids.length c5,.slice A6 n.seps.length c6,.slice A7 n.tids.length c7],box b3 24 [vi p0.root,.slice B gs.length bc]] (by kernel_rfl) ?_
    refine TL.tv 0 (pB b3 1) rfl (fun _ hh=>hh.ix 60 [0,3]) ?_
    refine TL.tk 1 (.slice B gs.length bc) [] rfl (fun _ hh=>hh.ix 60 [0,3]) (ld1 1) ?_
    refine TL.tv 2 (pB b5 0) rfl (fun _ hh=>hh.ix 60 [0,3]) ?_
    refine TL.tk 3 (vi n.kind) [19,18] rfl (fun _ hh=>hh.ix 60 [0,3]) (ld1 0) ?_
    refine TL.tv 4 (pB b5 1) rfl (fun _ hh=>hh.ix 60 [0,3]) ?_
    refine TL.tk 5 (.slice A4 n.elems.length c4) [19,18,7] rfl (fun _ hh=>hh.ix 60 [0,3]) (ld1 0) ?_
    refine TL.tv 8 (pB b5 2) rfl (fun _ hh=>hh.ix 60 [0,3]) ?_
    refine TL.tk 9 (.slice A5 n.kids.length c5) [19,18,10] rfl (fun _ hh=>hh.ix 60 [0,3]) (ld1 0) ?_
    refine TL.tv 11 (pB b5 3) rfl (fun _ hh=>hh.ix 60 [0,3]) ?_
    refine TL.tk 12 (.slice A6 n.seps.length c6) [19,18,14] rfl (fun _ hh=>hh.ix 60 [0,3]) (ld1 0) ?_
    refine TL.tv 13 (.agg #[vi 0,vi 0,vi 0,vi 99]) rfl (fun _ hh=>hh.ix 60 [0,3]) ?_
    refine TL.tv 15 (pB b5 4) rfl (fun _ hh=>hh.ix 60 [0,3]) ?_
    refine TL.tk 16 (.slice A7 n.tids.length c7) [19,18,17] rfl (fun _ hh=>hh.ix 60 [0,3]) (ld1 0) ?_
    refine TL.j 6 rfl (W1.cs (vAg eElem) kv 20 #[] (.agg #[vi 0,vi 0,vi 0,vi 77,vi 0,.string (ByteArray.mk #[109,97,114,107])]) (fun V u hu=>lz V u _ hu) (fun w' hh=>kM kv rfl w') ?_)
    refine TL.on (fun _ hh=>hh.ix 60 [0,3]) ?_
    refine TL.j 7 rfl (W1.ju 19 #[.slice A4 n.elems.length c4,.agg #[vi 0,vi 0,vi 0,vi 77,vi 0,.string (ByteArray.mk #[109,97,114,107])]] (fun p:Option Addr=>.slice p n.elems.length (n.elems.length + 3)) (fun p=>[row 28 eElem p (n.elems.length + 3) (n.elems ++ [kv,kv,kv])]) (fun _=>True) (by kernel_rfl) (fun _=>by kernel_rfl) (fun w' hh=>pd n.elems kv A4 c4 w' (ia.mono hs4 hh.view) (by rw [show ((n.elems.length:Int) + 3).toNat=n.elems.length + 3 by omega];exact decide_eq_true q1) (by unfold maxLen;omega)) ?_)
    intro g1 _
    refine T.iK (H':=[row 28 eElem g1 (n.elems.length + 3) (n.elems ++ [kv,kv,kv]),box b5 55 [vi n.kind,.slice A4 n.elems.length c4,.slice A5 n.kids.length c5,.slice A6 n.seps.length c6,.slice A7 n.tids.length c7],row 55 eHdr B bc gs,il fM gs (p0.nodes.take k),box b3 24 [vi p0.root,.slice B gs.length bc],box b2 24 [vi 0,sN]]) (by rfl) ?_
    refine TL.on (fun _ hh=>hh.ix 60 [1,4]) ?_
    refine TL.j 10 rfl (W1.ju 21 #[.slice A5 n.kids.length c5,vi 99] (fun p:Option Addr=>.slice p n.kids.length (n.kids.length + 3)) (fun p=>[row 3 hO p (n.kids.length + 3) (n.kids ++ [99,99,99])]) (fun _=>True) (by kernel_rfl) (fun _=>by kernel_rfl) (fun w' hh=>nj n.kids 99 A5 c5 w' (ia.mono hs5 hh.view) (by rw [show ((n.kids.length:Int) + 3).toNat=n.kids.length + 3 by omega];exact decide_eq_true q2) (by unfold maxLen;omega)) ?_)
    intro g2 _
    refine T.iK (H':=[row 3 hO g2 (n.kids.length + 3) (n.kids ++ [99,99,99]),row 28 eElem g1 (n.elems.length + 3) (n.elems ++ [kv,kv,kv]),box b5 55 [vi n.kind,.slice A4 n.elems.length c4,.slice A5 n.kids.length c5,.slice A6 n.seps.length c6,.slice A7 n.tids.length c7],row 55 eHdr B bc gs,il fM gs (p0.nodes.take k),box b3 24 [vi p0.root,.slice B gs.length bc],box b2 24 [vi 0,sN]]) (by rfl) ?_
    refine TL.on (fun _ hh=>hh.ix 60 [2,5]) ?_
    refine TL.j 14 rfl (W1.ju 22 #[.slice A6 n.seps.length c6,.agg #[vi 0,vi 0,vi 0,vi 99]] (fun p:Option Addr=>.slice p n.seps.length (n.seps.length + 3)) (fun p=>[row 36 eSpot p (n.seps.length + 3) (n.seps ++ [ma,ma,ma])]) (fun _=>True) (by kernel_rfl) (fun _=>by kernel_rfl) (fun w' hh=>pf n.seps ma A6 c6 w' (ia.mono hs6 hh.view) (by rw [show ((n.seps.length:Int) + 3).toNat=n.seps.length + 3 by omega];exact decide_eq_true q3) (by unfold maxLen;omega)) ?_)
    intro g3 _
    refine T.iK (H':=[row 36 eSpot g3 (n.seps.length + 3) (n.seps ++ [ma,ma,ma]),row 3 hO g2 (n.kids.length + 3) (n.kids ++ [99,99,99]),row 28 eElem g1 (n.elems.length + 3) (n.elems ++ [kv,kv,kv]),box b5 55 [vi n.kind,.slice A4 n.elems.length c4,.slice A5 n.kids.length c5,.slice A6 n.seps.length c6,.slice A7 n.tids.length c7],row 55 eHdr B bc gs,il fM gs (p0.nodes.take k),box b3 24 [vi p0.root,.slice B gs.length bc],box b2 24 [vi 0,sN]]) (by rfl) ?_
    refine TL.on (fun _ hh=>hh.ix 60 [3,6]) ?_
    refine TL.j 17 rfl (W1.ju 21 #[.slice A7 n.tids.length c7,vi 98] (fun p:Option Addr=>.slice p n.tids.length (n.tids.length + 3)) (fun p=>[row 3 hO p (n.tids.length + 3) (n.tids ++ [98,98,98])]) (fun _=>True) (by kernel_rfl) (fun _=>by kernel_rfl) (fun w' hh=>nj n.tids 98 A7 c7 w' (ia.mono hs7 hh.view) (by rw [show ((n.tids.length:Int) + 3).toNat=n.tids.length + 3 by omega];exact decide_eq_true q4) (by unfold maxLen;omega)) ?_)
    intro g4 _
    refine T.iK (H':=[row 3 hO g4 (n.tids.length + 3) (n.tids ++ [98,98,98]),row 36 eSpot g3 (n.seps.length + 3) (n.seps ++ [ma,ma,ma]),row 3 hO g2 (n.kids.length + 3) (n.kids ++ [99,99,99]),row 28 eElem g1 (n.elems.length + 3) (n.elems ++ [kv,kv,kv]),box b5 55 [vi n.kind,.slice A4 n.elems.length c4,.slice A5 n.kids.length c5,.slice A6 n.seps.length c6,.slice A7 n.tids.length c7],row 55 eHdr B bc gs,il fM gs (p0.nodes.take k),box b3 24 [vi p0.root,.slice B gs.length bc],box b2 24 [vi 0,sN]]) (by rfl) ?_
    refine TL.on (fun _ hh=>hh.ix 60 [4,7]) ?_
    refine TL.tv 18 (.agg #[vi n.kind,.slice g1 n.elems.length (n.elems.length + 3),.slice g2 n.kids.length (n.kids.length + 3),.slice g3 n.seps.length (n.seps.length + 3),.slice g4 n.tids.length (n.tids.length + 3)]) rfl (fun _ hh=>hh.ix 60 [4,7]) ?_
    refine TL.j 19 rfl (W1.ns 55 [vi n.kind,.slice g1 n.elems.length (n.elems.length + 3),.slice g2 n.kids.length (n.kids.length + 3),.slice g3 n.seps.length (n.seps.length + 3),.slice g4 n.tids.length (n.tids.length + 3)] (fun b6=>?_))
    refine TL.on (fun _ hh=>hh.ix 60 [5,8]) ?_
    refine TL.j 20 rfl (W1.a (E:=eHdr) (l:=gs) (m:=[(DHdr.mk n.kind g1 n.elems.length (n.elems.length + 3) g2 n.kids.length (n.kids.length + 3) g3 n.seps.length (n.seps.length + 3) g4 n.tids.length (n.tids.length + 3))]) 6 104 (info_parts (P:=Tryz.prog) (e:=55) (z:=.agg #[vi 0,sN,sN,sN,sN]) (size:=5) (bytes:=104) (by kernel_rfl)) (fun w' hh=>qZ (E:=eHdr) hh (i:=0) (by rfl) rfl) (decide_eq_true (by show (gs.length + 1) * 104≤_;omega)) (by show gs.length + 1≤_;unfold maxLen;omega) (fun B' bc'=>?_))
    refine T.iK (H':=[box b6 55 [vi n.kind,.slice g1 n.elems.length (n.elems.length + 3),.slice g2 n.kids.length (n.kids.length + 3),.slice g3 n.seps.length (n.seps.length + 3),.slice g4 n.tids.length (n.tids.length + 3)],row 3 hO g4 (n.tids.length + 3) (n.tids ++ [98,98,98]),row 36 eSpot g3 (n.seps.length + 3) (n.seps ++ [ma,ma,ma]),row 3 hO g2 (n.kids.length + 3) (n.kids ++ [99,99,99]),row 28 eElem g1 (n.elems.length + 3) (n.elems ++ [kv,kv,kv]),box b5 55 [vi n.kind,.slice A4 n.elems.length c4,.slice A5 n.kids.length c5,.slice A6 n.seps.length c6,.slice A7 n.tids.length c7],row 55 eHdr B' bc' (gs ++ [(DHdr.mk n.kind g1 n.elems.length (n.elems.length + 3) g2 n.kids.length (n.kids.length + 3) g3 n.seps.length (n.seps.length + 3) g4 n.tids.length (n.tids.length + 3))]),il fM gs (p0.nodes.take k),box b3 24 [vi p0.root,.slice B gs.length bc],box b2 24 [vi 0,sN]]) (by rfl) ?_
    refine TL.jx (by kernel_rfl) ?_
    refine TL.kh 21 (pB b3 1) rfl (by kernel_rfl) (by kernel_rfl) (by kernel_rfl) (fun _ _ _ h=>h) (by kernel_rfl) (by kernel_rfl) (by kernel_rfl) (fun _=>by kernel_rfl) ?_
    refine TL.j 22 rfl (W1.st 8 [vi p0.root,.slice B' (gs ++ [(DHdr.mk n.kind g1 n.elems.length (n.elems.length + 3) g2 n.kids.length (n.kids.length + 3) g3 n.seps.length (n.seps.length + 3) g4 n.tids.length (n.tids.length + 3))]).length bc'] [box b6 55 [vi n.kind,.slice g1 n.elems.length (n.elems.length + 3),.slice g2 n.kids.length (n.kids.length + 3),.slice g3 n.seps.length (n.seps.length + 3),.slice g4 n.tids.length (n.tids.length + 3)],row 3 hO g4 (n.tids.length + 3) (n.tids ++ [98,98,98]),row 36 eSpot g3 (n.seps.length + 3) (n.seps ++ [ma,ma,ma]),row 3 hO g2 (n.kids.length + 3) (n.kids ++ [99,99,99]),row 28 eElem g1 (n.elems.length + 3) (n.elems ++ [kv,kv,kv]),box b5 55 [vi n.kind,.slice A4 n.elems.length c4,.slice A5 n.kids.length c5,.slice A6 n.seps.length c6,.slice A7 n.tids.length c7],row 55 eHdr B' bc' (gs ++ [(DHdr.mk n.kind g1 n.elems.length (n.elems.length + 3) g2 n.kids.length (n.kids.length + 3) g3 n.seps.length (n.seps.length + 3) g4 n.tids.length (n.tids.length + 3))]),il fM gs (p0.nodes.take k),box b3 24 [vi p0.root,.slice B' (gs ++ [(DHdr.mk n.kind g1 n.elems.length (n.elems.length + 3) g2 n.kids.length (n.kids.length + 3) g3 n.seps.length (n.seps.length + 3) g4 n.tids.length (n.tids.length + 3))]).length bc'],box b2 24 [vi 0,sN]] [.slice B' (gs ++ [(DHdr.mk n.kind g1 n.elems.length (n.elems.length + 3) g2 n.kids.length (n.kids.length + 3) g3 n.seps.length (n.seps.length + 3) g4 n.tids.length (n.tids.length + 3))]).length bc'] ?_)
    refine TL.jx (by kernel_rfl) ?_
    refine TL.d ?_
    exact fun a w' hf hh=>⟨B',bc',g1,g2,g3,g4,Fr.s hf,(Hp.zPush (f:=fM) (a:=(DHdr.mk n.kind g1 n.elems.length (n.elems.length + 3) g2 n.kids.length (n.kids.length + 3) g3 n.seps.length (n.seps.length + 3) g4 n.tids.length (n.tids.length + 3))) (b:=n) (Hp.put (hh.ix 60 [4,3,2,1,7,6,8,9]) ⟨⟨rfl,rfl,rfl,rfl,rfl⟩,rfl,rfl,rfl,rfl⟩)).ix 60 [1,0,2,3]⟩
   rintro a w' ⟨B',bc',g1,g2,g3,g4,hf,hh⟩
   refine(?_:T 40 w (vw w) [row 55 eHdr B' bc' (gs ++ [(DHdr.mk n.kind g1 n.elems.length (n.elems.length + 3) g2 n.kids.length (n.kids.length + 3) g3 n.seps.length (n.seps.length + 3) g4 n.tids.length (n.tids.length + 3))]),il fM (gs ++ [(DHdr.mk n.kind g1 n.elems.length (n.elems.length + 3) g2 n.kids.length (n.kids.length + 3) g3 n.seps.length (n.seps.length + 3) g4 n.tids.length (n.tids.length + 3))]) (p0.nodes.take k ++ [n]),box b3 24 [vi p0.root,.slice B' (gs ++ [(DHdr.mk n.kind g1 n.elems.length (n.elems.length + 3) g2 n.kids.length (n.kids.length + 3) g3 n.seps.length (n.seps.length + 3) g4 n.tids.length (n.tids.length + 3))]).length bc'],box b2 24 [vi 0,sN]] [(2,pB b2 0),(3,pB b3 0),(10,.slice A1 p0.nodes.length c1),(11,vi (p0.nodes.length:Int)),(12,vi (k:Int))] _) a w' hf hh
   clear hf hh
   refine T.gQ (T.k (vi (IntKind.i64.wrap ((k:Int) + 1))) ?_)
   refine T.ig 38 (vi ((k + 1:Nat) : Int)) rfl (by show Value.int .i64 _=Value.int .i64 _;congr 1;rw [IntKind.wrap_i64];omega) ?_
   refine T.k (vi ((k + 1:Nat) : Int)) (T.gN ?_)
   exact fun a w' hf hh=>⟨B',bc',_,Fr.s hf,by rw [List.take_add_one,hn,Option.toList_some];exact hh⟩
  ·
   rintro a w' ⟨B,bc,gs,hf,hh⟩
   refine(?_:T 40 w (vw w) [row 55 eHdr B bc gs,il fM gs (p0.nodes.take p0.nodes.length),box b3 24 [vi p0.root,.slice B gs.length bc],box b2 24 [vi 0,sN]] [(2,pB b2 0),(3,pB b3 0),(10,.slice A1 p0.nodes.length c1),(11,vi (p0.nodes.length:Int)),(12,vi (p0.nodes.length:Int))] _) a w' hf hh
   clear hf hh
   refine T.sr (T.k (.bool (decide ((p0.nodes.length:Int) < (p0.nodes.length:Int)))) (T.gN ?_))
   refine T.gR (T.cb (decide ((p0.nodes.length:Int) < (p0.nodes.length:Int))) (fun hc=>absurd (of_decide_eq_true hc) (by omega)) (fun hc=>?_))
   refine T.iI (T.i8 (T.i8 (T.kZ ?_)))
   exact fun a w' hf hh=>⟨B,bc,gs,Fr.s hf,by rw [List.take_length] at hh;exact hh⟩
 rintro a w' ⟨B,bc,gs,hf,hh⟩
 refine(?_:T 40 w (vw w) [row 55 eHdr B bc gs,il fM gs p0.nodes,box b3 24 [vi p0.root,.slice B gs.length bc],box b2 24 [vi 0,sN]] [(2,pB b2 0),(3,pB b3 0)] _) a w' hf hh
 clear hf hh
 refine T.nq 1 (by rfl) (fun hgl=>?_)
 refine T.sr (T.l (.agg #[vi p0.root,.slice B gs.length bc]) (ldN 2) ?_)
 refine T.gO (W1.st 3 [vi p0.root,.slice B gs.length bc] [row 55 eHdr B bc gs,il fM gs p0.nodes,box b3 24 [vi p0.root,.slice B gs.length bc],box b2 24 [vi p0.root,.slice B gs.length bc]] [vi p0.root,.slice B gs.length bc] (T.gN ?_))
 refine T.ik rfl ?_
 exact T.iq rfl (rN 3) fun w' hh=>⟨(B,bc,gs),rfl,hgl,iW (X:=[row 55 eHdr B bc gs,il fM gs p0.nodes]) (hh.ix 60 [0,1]) ⟨iN (fun _ _ _ _ h=>h),rG sk _ _,trivial⟩⟩
theorem nk {w:World} {V:View} {G:List HObj} {w1:World} {A:Option Addr} {c:Nat} {hs:List DHdr} {ns:List DNode} (root:Int) (hh:Hp w V (row 55 eHdr A c hs::il fS hs ns::G) w1) :
 Calls Tryz.prog 15 #[.agg #[.int .i64 root,.slice A hs.length c]] w1 (fun e w2=>∃ v,e = .returned v∧v = .tuple #[]∧Hp w V G w2):=by
 refine T.iM (l:=[.agg #[vi root,.slice A hs.length c]]) Tryz.func15 rfl rfl rfl ?_ hh
 clear hh
 refine T.sr (T.gO (W1.np 24 [vi root,.slice A hs.length c] (fun b1=>T.gN ?_)))
 refine T.nq 2 (by rfl) (fun hl=>?_)
 refine T.kg 1 (by rfl) (fun hlc hcm=>?_)
 unfold maxLen at hcm
 refine T.gR ?_
 refine T.sr (T.k (pB b1 1) ?_)
 refine T.l (.slice A hs.length c) (ld1 0) ?_
 refine T.k2 (vi (hs.length:Int)) (vi 0) (T.gN ?_)
 refine T.jt (fun a w'=>Fr 30 [(1,pB b1 0)] a∧Hp w V (box b1 24 [vi root,.slice A hs.length c]::row 55 eHdr A c hs::G) w') ?_ ?_
 ·
  refine T.ie ?_
  refine T.lG hs.length (fun k a w'=>Fr 30 [(1,pB b1 0),(5,.slice A hs.length c),(6,vi (hs.length:Int)),(7,vi (k:Int))] a∧Hp w V (box b1 24 [vi root,.slice A hs.length c]::row 55 eHdr A c hs::il fS (hs.drop k) (ns.drop k)::G) w') ?_ ?_ ?_
  · exact fun a w' hf hh=>⟨Fr.s hf,hh.ix 3 [0,1,2]⟩
  ·
   rintro k hk a w' ⟨hf,hh⟩
   refine(?_:T 30 w V (box b1 24 [vi root,.slice A hs.length c]::row 55 eHdr A c hs::il fS (hs.drop k) (ns.drop k)::G) [(1,pB b1 0),(5,.slice A hs.length c),(6,vi (hs.length:Int)),(7,vi (k:Int))] _) a w' hf hh
   clear hf hh
   obtain⟨h,hh1⟩ : ∃ h,hs[k]? = some h:=⟨_,List.getElem?_eq_getElem hk⟩
   obtain⟨n,hn⟩ : ∃ n,ns[k]? = some n:=⟨_,List.getElem?_eq_getElem (by omega)⟩
   have e1:hs.drop k=h::hs.drop (k + 1):=by rw [List.drop_eq_getElem_cons hk,← (List.getElem?_eq_some_iff.1 hh1).2]
   have e2:ns.drop k=n::ns.drop (k + 1):=by rw [List.drop_eq_getElem_cons (by omega),← (List.getElem?_eq_some_iff.1 hn).2]
   rw [e1,e2]
   refine T.pY (k:=0) (a:=h) (b:=n) (R:=iS tyL h n) (p:=sZ h) 2 (by rfl) rfl rfl rfl (fun hft=>?_)
   obtain⟨f1,f2,f3,f4⟩:=hft
   refine T.tr (H':=(row 28 eElem h.a1 h.c1 n.elems::row 3 hO h.a2 h.c2 n.kids::row 36 eSpot h.a3 h.c3 n.seps::row 3 hO h.a4 h.c4 n.tids::il fS (hs.drop (k + 1)) (ns.drop (k + 1))::box b1 24 [vi root,.slice A hs.length c]::row 55 eHdr A c hs::G)) (fun w' hh=>(Hp.zPop (f:=fS) (a:=h) (b:=n) (hh.ix 3 [2,0,1])).sub (.cons _ (List.Sublist.refl _))) ?_
   refine T.sr (T.k (.bool (decide ((k:Int) < (hs.length:Int)))) (T.gN ?_))
   refine T.gR (T.cb (decide ((k:Int) < (hs.length:Int))) (fun hc=>?_) (fun hc=>absurd (of_decide_eq_false hc) (by omega)))
   refine T.gP ?_
   refine T.gR (T.ie ?_)
   refine T.gR (T.gQ (T.l (.pointer (some ((iE A).add ((k:Int).toNat * 5)))) (fun w' hh=>ib (e:=55) (s:=5) (n:=hs.length) (c:=c) (iv:=(k:Int)) (k:=.i64) rfl rfl rfl (by kernel_rfl) (by kernel_rfl) (by omega) (by omega) ((hh.row_slOk (i:=6) (by rfl)).some_ (k:=k) hh1 (by decide))) ?_))
   refine T.l (.agg #[.int .i64 h.kind,.slice h.a1 h.n1 h.c1,.slice h.a2 h.n2 h.c2,.slice h.a3 h.n3 h.c3,.slice h.a4 h.n4 h.c4]) (fun w' hh=>j8 (cs:=[.int .i64 h.kind,.slice h.a1 h.n1 h.c1,.slice h.a2 h.n2 h.c2,.slice h.a3 h.n3 h.c3,.slice h.a4 h.n4 h.c4]) rfl rfl (by kernel_rfl) (by kernel_rfl) (fun j u hj=>ia.wcellF (E:=eHdr) (hh.row_slOk (i:=6) (by rfl)) (k:=k) hh1 j (fun _ _ _ h=>h) hj)) ?_
   refine T.gO (W1.np 55 [vi 0,sN,sN,sN,sN] (fun b3=>?_))
   refine T.gO (W1.st 0 [.int .i64 h.kind,.slice h.a1 h.n1 h.c1,.slice h.a2 h.n2 h.c2,.slice h.a3 h.n3 h.c3,.slice h.a4 h.n4 h.c4] (box b3 55 [.int .i64 h.kind,.slice h.a1 h.n1 h.c1,.slice h.a2 h.n2 h.c2,.slice h.a3 h.n3 h.c3,.slice h.a4 h.n4 h.c4]::row 28 eElem h.a1 h.c1 n.elems::row 3 hO h.a2 h.c2 n.kids::row 36 eSpot h.a3 h.c3 n.seps::row 3 hO h.a4 h.c4 n.tids::il fS (hs.drop (k + 1)) (ns.drop (k + 1))::box b1 24 [vi root,.slice A hs.length c]::row 55 eHdr A c hs::G) [.int .i64 h.kind,.slice h.a1 h.n1 h.c1,.slice h.a2 h.n2 h.c2,.slice h.a3 h.n3 h.c3,.slice h.a4 h.n4 h.c4] (T.gN ?_))
   refine T.sr (T.k (pB b3 1) ?_)
   refine T.l (.slice h.a1 h.n1 h.c1) (ld1 0) ?_
   refine T.k (.agg #[.int .i64 0,.int .i64 0,.int .i64 0,.int .i64 3,.int .i64 0,.string (ByteArray.mk #[])]) ?_
   refine T.gO (W1.jJ 46 [.slice h.a1 h.n1 h.c1,.agg #[.int .i64 0,.int .i64 0,.int .i64 0,.int .i64 3,.int .i64 0,.string (ByteArray.mk #[])]] (fun v w'=>v = .tuple #[]∧Hp w V (box b3 55 [.int .i64 h.kind,.slice h.a1 h.n1 h.c1,.slice h.a2 h.n2 h.c2,.slice h.a3 h.n3 h.c3,.slice h.a4 h.n4 h.c4]::row 3 hO h.a2 h.c2 n.kids::row 36 eSpot h.a3 h.c3 n.seps::row 3 hO h.a4 h.c4 n.tids::il fS (hs.drop (k + 1)) (ns.drop (k + 1))::box b1 24 [vi root,.slice A hs.length c]::row 55 eHdr A c hs::G) w') (by kernel_rfl) (fun _=>by kernel_rfl) (fun w' hh=>(ph (DElem.mk (DKey.mk 0 0 0) 3 0 (ByteArray.mk #[])) f1 (hh.ix 8 [1,0,2,3,4,5,6,7])).mono (by rintro e_ w_ ⟨rfl,h_⟩;exact⟨_,rfl,rfl,h_.sub (dr1 kpr)⟩)) ?_)
   rintro v w' ⟨rfl,hh⟩
   refine⟨V,(box b3 55 [.int .i64 h.kind,.slice h.a1 h.n1 h.c1,.slice h.a2 h.n2 h.c2,.slice h.a3 h.n3 h.c3,.slice h.a4 h.n4 h.c4]::row 3 hO h.a2 h.c2 n.kids::row 36 eSpot h.a3 h.c3 n.seps::row 3 hO h.a4 h.c4 n.tids::il fS (hs.drop (k + 1)) (ns.drop (k + 1))::box b1 24 [vi root,.slice A hs.length c]::row 55 eHdr A c hs::G),hh,?_⟩
   clear hh
   refine T.gN ?_
   refine T.sr (T.k (pB b3 2) ?_)
   refine T.l (.slice h.a2 h.n2 h.c2) (ld1 0) ?_
   refine T.gO (W1.jJ 47 [.slice h.a2 h.n2 h.c2,.int .i64 5] (fun v w'=>v = .tuple #[]∧Hp w V (box b3 55 [.int .i64 h.kind,.slice h.a1 h.n1 h.c1,.slice h.a2 h.n2 h.c2,.slice h.a3 h.n3 h.c3,.slice h.a4 h.n4 h.c4]::row 36 eSpot h.a3 h.c3 n.seps::row 3 hO h.a4 h.c4 n.tids::il fS (hs.drop (k + 1)) (ns.drop (k + 1))::box b1 24 [vi root,.slice A hs.length c]::row 55 eHdr A c hs::G) w') (by kernel_rfl) (fun _=>by kernel_rfl) (fun w' hh=>(nl 5 f2 (hh.ix 7 [1,0,2,3,4,5,6])).mono (by rintro e_ w_ ⟨rfl,h_⟩;exact⟨_,rfl,rfl,h_.sub (dr1 kpr)⟩)) ?_)
   rintro v w' ⟨rfl,hh⟩
   refine⟨V,(box b3 55 [.int .i64 h.kind,.slice h.a1 h.n1 h.c1,.slice h.a2 h.n2 h.c2,.slice h.a3 h.n3 h.c3,.slice h.a4 h.n4 h.c4]::row 36 eSpot h.a3 h.c3 n.seps::row 3 hO h.a4 h.c4 n.tids::il fS (hs.drop (k + 1)) (ns.drop (k + 1))::box b1 24 [vi root,.slice A hs.length c]::row 55 eHdr A c hs::G),hh,?_⟩
   clear hh
   refine T.gN ?_
   refine T.sr (T.k (pB b3 3) ?_)
   refine T.l (.slice h.a3 h.n3 h.c3) (ld1 0) ?_
   refine T.k (.agg #[.int .i64 0,.int .i64 0,.int .i64 0,.int .i64 4]) ?_
   refine T.gO (W1.jJ 48 [.slice h.a3 h.n3 h.c3,.agg #[.int .i64 0,.int .i64 0,.int .i64 0,.int .i64 4]] (fun v w'=>v = .tuple #[]∧Hp w V (box b3 55 [.int .i64 h.kind,.slice h.a1 h.n1 h.c1,.slice h.a2 h.n2 h.c2,.slice h.a3 h.n3 h.c3,.slice h.a4 h.n4 h.c4]::row 3 hO h.a4 h.c4 n.tids::il fS (hs.drop (k + 1)) (ns.drop (k + 1))::box b1 24 [vi root,.slice A hs.length c]::row 55 eHdr A c hs::G) w') (by kernel_rfl) (fun _=>by kernel_rfl) (fun w' hh=>(pj (DSpot.mk (DKey.mk 0 0 0) 4) f3 (hh.ix 6 [1,0,2,3,4,5])).mono (by rintro e_ w_ ⟨rfl,h_⟩;exact⟨_,rfl,rfl,h_.sub (dr1 kpr)⟩)) ?_)
   rintro v w' ⟨rfl,hh⟩
   refine⟨V,(box b3 55 [.int .i64 h.kind,.slice h.a1 h.n1 h.c1,.slice h.a2 h.n2 h.c2,.slice h.a3 h.n3 h.c3,.slice h.a4 h.n4 h.c4]::row 3 hO h.a4 h.c4 n.tids::il fS (hs.drop (k + 1)) (ns.drop (k + 1))::box b1 24 [vi root,.slice A hs.length c]::row 55 eHdr A c hs::G),hh,?_⟩
   clear hh
   refine T.gN ?_
   refine T.gQ (T.k (pB b3 4) ?_)
   refine T.l (.slice h.a4 h.n4 h.c4) (ld1 0) ?_
   refine T.gO (W1.jJ 47 [.slice h.a4 h.n4 h.c4,.int .i64 6] (fun v w'=>v = .tuple #[]∧Hp w V (box b3 55 [.int .i64 h.kind,.slice h.a1 h.n1 h.c1,.slice h.a2 h.n2 h.c2,.slice h.a3 h.n3 h.c3,.slice h.a4 h.n4 h.c4]::il fS (hs.drop (k + 1)) (ns.drop (k + 1))::box b1 24 [vi root,.slice A hs.length c]::row 55 eHdr A c hs::G) w') (by kernel_rfl) (fun _=>by kernel_rfl) (fun w' hh=>(nl 6 f4 (hh.ix 5 [1,0,2,3,4])).mono (by rintro e_ w_ ⟨rfl,h_⟩;exact⟨_,rfl,rfl,h_.sub (dr1 kpr)⟩)) ?_)
   rintro v w' ⟨rfl,hh⟩
   refine⟨V,(box b3 55 [.int .i64 h.kind,.slice h.a1 h.n1 h.c1,.slice h.a2 h.n2 h.c2,.slice h.a3 h.n3 h.c3,.slice h.a4 h.n4 h.c4]::il fS (hs.drop (k + 1)) (ns.drop (k + 1))::box b1 24 [vi root,.slice A hs.length c]::row 55 eHdr A c hs::G),hh,?_⟩
   clear hh
   refine T.gN ?_
   refine T.gQ (T.k (vi (IntKind.i64.wrap ((k:Int) + 1))) ?_)
   refine T.ig 25 (vi ((k + 1:Nat) : Int)) rfl (by show Value.int .i64 _=Value.int .i64 _;congr 1;rw [IntKind.wrap_i64];omega) ?_
   refine T.k (vi ((k + 1:Nat) : Int)) (T.gN ?_)
   exact fun a w' hf hh=>⟨Fr.s hf,hh.ix 4 [2,3,1]⟩
  ·
   rintro a w' ⟨hf,hh⟩
   refine(?_:T 30 w V (box b1 24 [vi root,.slice A hs.length c]::row 55 eHdr A c hs::il fS (hs.drop hs.length) (ns.drop hs.length)::G) [(1,pB b1 0),(5,.slice A hs.length c),(6,vi (hs.length:Int)),(7,vi (hs.length:Int))] _) a w' hf hh
   clear hf hh
   refine T.sr (T.k (.bool (decide ((hs.length:Int) < (hs.length:Int)))) (T.gN ?_))
   refine T.gR (T.cb (decide ((hs.length:Int) < (hs.length:Int))) (fun hc=>absurd (of_decide_eq_true hc) (by omega)) (fun hc=>?_))
   refine T.iI (T.i8 (T.i8 (T.kZ ?_)))
   exact fun a w' hf hh=>⟨Fr.s hf,hh.ix 3 [0,1]⟩
 rintro a w' ⟨hf,hh⟩
 refine(?_:T 30 w V (box b1 24 [vi root,.slice A hs.length c]::row 55 eHdr A c hs::G) [(1,pB b1 0)] _) a w' hf hh
 clear hf hh
 refine T.gQ (T.k (pB b1 1) ?_)
 refine T.l (.slice A hs.length c) (ld1 0) ?_
 refine T.k (.agg #[vi 7,sN,sN,sN,sN]) ?_
 refine T.gO (W1.jJ 49 [.slice A hs.length c,.agg #[.int .i64 7,.slice none 0 0,.slice none 0 0,.slice none 0 0,.slice none 0 0]] (fun v w'=>v = .tuple #[]∧Hp w V (box b1 24 [vi root,.slice A hs.length c]::G) w') (by kernel_rfl) (fun _=>by kernel_rfl) (fun w' hh=>(pi (DHdr.mk 7 none 0 0 none 0 0 none 0 0 none 0 0) hlc (hh.ix 2 [1,0])).mono (by rintro e_ w_ ⟨rfl,h_⟩;exact⟨_,rfl,rfl,h_.sub (dr1 kpr)⟩)) ?_)
 rintro v w' ⟨rfl,hh⟩
 refine⟨V,(box b1 24 [vi root,.slice A hs.length c]::G),hh,?_⟩
 clear hh
 refine T.gN ?_
 exact T.jL rfl (fun w' hh=>⟨_,rfl,rfl,hh.sub (dr1 kpr)⟩)
theorem rO {w:World} {V:View} {G:List HObj} {w1:World} {A:Option Addr} {c:Nat} {hs:List DHdr} {ns:List DNode} (root:Int) (hh:Hp w V (row 55 eHdr A c hs::il fM hs ns::G) w1) :
 Calls Tryz.prog 14 #[.agg #[.int .i64 root,.slice A hs.length c]] w1 (fun e w2=>∃ v,e = .returned v∧v = .bool true∧Hp w V (row 55 eHdr A c hs::il fM hs ns::G) w2):=by
 refine T.iM (l:=[.agg #[vi root,.slice A hs.length c]]) Tryz.func14 rfl rfl rfl ?_ hh
 clear hh
 refine T.sr (T.gO (W1.np 24 [vi root,.slice A hs.length c] (fun b1=>T.k (.bool false) (T.gN ?_))))
 refine T.nq 2 (by rfl) (fun hl=>?_)
 refine T.kg 1 (by rfl) (fun hlc hcm=>?_)
 unfold maxLen at hcm
 refine T.gR ?_
 refine T.sr (T.k (pB b1 1) ?_)
 refine T.l (.slice A hs.length c) (ld1 0) ?_
 refine T.k2 (vi (hs.length:Int)) (vi 0) (T.gN ?_)
 refine T.jt (fun a w'=>Fr 41 [(2,.bool false)] a∧Hp w V (row 55 eHdr A c hs::il fM hs ns::G) w') ?_ ?_
 ·
  refine T.ie ?_
  refine T.lG hs.length (fun k a w'=>Fr 41 [(2,.bool false),(6,.slice A hs.length c),(7,vi (hs.length:Int)),(8,vi (k:Int))] a∧Hp w V (row 55 eHdr A c hs::il fM hs ns::G) w') ?_ ?_ ?_
  · exact fun a w' hf hh=>⟨Fr.s hf,hh.ix 3 [1,2]⟩
  ·
   rintro k hk a w' ⟨hf,hh⟩
   refine(?_:T 41 w V (row 55 eHdr A c hs::il fM hs ns::G) [(2,.bool false),(6,.slice A hs.length c),(7,vi (hs.length:Int)),(8,vi (k:Int))] _) a w' hf hh
   clear hf hh
   obtain⟨h,hh1⟩ : ∃ h,hs[k]? = some h:=⟨_,List.getElem?_eq_getElem hk⟩
   obtain⟨n,hn⟩ : ∃ n,ns[k]? = some n:=⟨_,List.getElem?_eq_getElem (by omega)⟩
   refine T.pY (p:=FitM h n) 1 (by rfl) hh1 hn rfl (fun hft=>?_)
   obtain⟨kd,a1,n1,c1,a2,n2,c2,a3,n3,c3,a4,n4,c4⟩:=h
   obtain⟨⟨f0,f1,f2,f3,f4⟩,g1,g2,g3,g4⟩:=hft
   dsimp only at f0 f1 f2 f3 f4 g1 g2 g3 g4
   subst f0 f1 f2 f3 f4 g1 g2 g3 g4
   refine T.sr (T.k (.bool (decide ((k:Int) < (hs.length:Int)))) (T.gN ?_))
   refine T.gR (T.cb (decide ((k:Int) < (hs.length:Int))) (fun hc=>?_) (fun hc=>absurd (of_decide_eq_false hc) (by omega)))
   refine T.gP ?_
   refine T.gR (T.ie ?_)
   refine T.gR (T.gQ (T.l (.pointer (some ((iE A).add ((k:Int).toNat * 5)))) (fun w' hh=>ib (e:=55) (s:=5) (n:=hs.length) (c:=c) (iv:=(k:Int)) (k:=.i64) rfl rfl rfl (by kernel_rfl) (by kernel_rfl) (by omega) (by omega) ((hh.row_slOk (i:=0) (by rfl)).some_ (k:=k) hh1 (by decide))) ?_))
   refine T.l (.agg #[.int .i64 n.kind,.slice a1 n.elems.length (n.elems.length + 3),.slice a2 n.kids.length (n.kids.length + 3),.slice a3 n.seps.length (n.seps.length + 3),.slice a4 n.tids.length (n.tids.length + 3)]) (fun w' hh=>j8 (cs:=[.int .i64 n.kind,.slice a1 n.elems.length (n.elems.length + 3),.slice a2 n.kids.length (n.kids.length + 3),.slice a3 n.seps.length (n.seps.length + 3),.slice a4 n.tids.length (n.tids.length + 3)]) rfl rfl (by kernel_rfl) (by kernel_rfl) (fun j u hj=>ia.wcellF (E:=eHdr) (hh.row_slOk (i:=0) (by rfl)) (k:=k) hh1 j (fun _ _ _ h=>h) hj)) ?_
   refine T.gO (W1.np 55 [vi 0,sN,sN,sN,sN] (fun b4=>?_))
   refine T.gO (W1.st 0 [.int .i64 n.kind,.slice a1 n.elems.length (n.elems.length + 3),.slice a2 n.kids.length (n.kids.length + 3),.slice a3 n.seps.length (n.seps.length + 3),.slice a4 n.tids.length (n.tids.length + 3)] (box b4 55 [.int .i64 n.kind,.slice a1 n.elems.length (n.elems.length + 3),.slice a2 n.kids.length (n.kids.length + 3),.slice a3 n.seps.length (n.seps.length + 3),.slice a4 n.tids.length (n.tids.length + 3)]::row 55 eHdr A c hs::il fM hs ns::G) [.int .i64 n.kind,.slice a1 n.elems.length (n.elems.length + 3),.slice a2 n.kids.length (n.kids.length + 3),.slice a3 n.seps.length (n.seps.length + 3),.slice a4 n.tids.length (n.tids.length + 3)] (T.gN ?_))
   refine T.rt 2 (by rfl) hh1 hn (fun hb1 hb2 hb4=>?_)
   refine T.sr (T.k (pB b4 1) ?_)
   refine T.l (.slice a1 n.elems.length (n.elems.length + 3)) (ld1 0) ?_
   refine T.gO (W1.jJ 42 [.slice a1 n.elems.length (n.elems.length + 3)] (fun v w'=>v = .bool true∧Hp w V (box b4 55 [.int .i64 n.kind,.slice a1 n.elems.length (n.elems.length + 3),.slice a2 n.kids.length (n.kids.length + 3),.slice a3 n.seps.length (n.seps.length + 3),.slice a4 n.tids.length (n.tids.length + 3)]::row 55 eHdr A c hs::il fM hs ns::G) w') (by kernel_rfl) (fun _=>by kernel_rfl) (fun w' hh=>rm hb1 (fun w' h=>(h.zAtI (i:=2) (by rfl) hh1 hn).row_slOk (i:=1) rfl) hh) ?_)
   rintro v w' ⟨rfl,hh⟩
   refine⟨V,(box b4 55 [.int .i64 n.kind,.slice a1 n.elems.length (n.elems.length + 3),.slice a2 n.kids.length (n.kids.length + 3),.slice a3 n.seps.length (n.seps.length + 3),.slice a4 n.tids.length (n.tids.length + 3)]::row 55 eHdr A c hs::il fM hs ns::G),hh,?_⟩
   clear hh
   refine T.k2 (.bool false) (.bool false) ?_
   refine T.k (pB b4 2) ?_
   refine T.l (.slice a2 n.kids.length (n.kids.length + 3)) (ld1 0) ?_
   refine T.k (pB b4 2) ?_
   refine T.l (.slice a2 n.kids.length (n.kids.length + 3)) (ld1 0) ?_
   refine T.k2 (vi (n.kids.length:Int)) (pB b4 2) ?_
   refine T.l (.slice a2 n.kids.length (n.kids.length + 3)) (ld1 0) ?_
   refine T.k (vi ((n.kids.length + 3:Nat) : Int)) ?_
   refine T.l (.slice (iP a2 (n.kids.length + 3) n.kids.length 1) (n.kids.length + 3 - n.kids.length) (n.kids.length + 3 - n.kids.length)) (fun w' hh=>ij (e:=3) (s:=1) (lx:=some _) (hx:=some _) (lo:=(n.kids.length:Int)) (hi:=((n.kids.length + 3:Nat) : Int)) (k:=.i64) (k':=.i64) rfl rfl (by kernel_rfl) (by kernel_rfl) rfl rfl (by omega) (by omega) (by omega)) ?_
   refine T.ig 25 (.slice (iP a2 (n.kids.length + 3) n.kids.length 1) 3 3) rfl (by rw [show n.kids.length + 3 - n.kids.length=3 by omega]) ?_
   refine T.gO (W1.jJ 43 [.slice (iP a2 (n.kids.length + 3) n.kids.length 1) 3 3,.func (.func 44) #[] #[]] (fun v w'=>v = .bool false∧Hp w V (box b4 55 [.int .i64 n.kind,.slice a1 n.elems.length (n.elems.length + 3),.slice a2 n.kids.length (n.kids.length + 3),.slice a3 n.seps.length (n.seps.length + 3),.slice a4 n.tids.length (n.tids.length + 3)]::row 55 eHdr A c hs::il fM hs ns::G) w') (by kernel_rfl) (fun _=>by kernel_rfl) (fun w' hh=>qe (fun w'' h=>ia.tail3 (l:=n.kids) ((h.zAtI (i:=2) (by rfl) hh1 hn).row_slOk (i:=2) rfl)) hh) ?_)
   rintro v w' ⟨rfl,hh⟩
   refine⟨V,(box b4 55 [.int .i64 n.kind,.slice a1 n.elems.length (n.elems.length + 3),.slice a2 n.kids.length (n.kids.length + 3),.slice a3 n.seps.length (n.seps.length + 3),.slice a4 n.tids.length (n.tids.length + 3)]::row 55 eHdr A c hs::il fM hs ns::G),hh,?_⟩
   clear hh
   refine T.k2 (.bool false) (.bool false) ?_
   refine T.k (pB b4 4) ?_
   refine T.l (.slice a4 n.tids.length (n.tids.length + 3)) (ld1 0) ?_
   refine T.k (pB b4 4) ?_
   refine T.l (.slice a4 n.tids.length (n.tids.length + 3)) (ld1 0) ?_
   refine T.k2 (vi (n.tids.length:Int)) (pB b4 4) ?_
   refine T.l (.slice a4 n.tids.length (n.tids.length + 3)) (ld1 0) ?_
   refine T.k (vi ((n.tids.length + 3:Nat) : Int)) ?_
   refine T.l (.slice (iP a4 (n.tids.length + 3) n.tids.length 1) (n.tids.length + 3 - n.tids.length) (n.tids.length + 3 - n.tids.length)) (fun w' hh=>ij (e:=3) (s:=1) (lx:=some _) (hx:=some _) (lo:=(n.tids.length:Int)) (hi:=((n.tids.length + 3:Nat) : Int)) (k:=.i64) (k':=.i64) rfl rfl (by kernel_rfl) (by kernel_rfl) rfl rfl (by omega) (by omega) (by omega)) ?_
   refine T.ig 37 (.slice (iP a4 (n.tids.length + 3) n.tids.length 1) 3 3) rfl (by rw [show n.tids.length + 3 - n.tids.length=3 by omega]) ?_
   refine T.gO (W1.jJ 43 [.slice (iP a4 (n.tids.length + 3) n.tids.length 1) 3 3,.func (.func 45) #[] #[]] (fun v w'=>v = .bool false∧Hp w V (box b4 55 [.int .i64 n.kind,.slice a1 n.elems.length (n.elems.length + 3),.slice a2 n.kids.length (n.kids.length + 3),.slice a3 n.seps.length (n.seps.length + 3),.slice a4 n.tids.length (n.tids.length + 3)]::row 55 eHdr A c hs::il fM hs ns::G) w') (by kernel_rfl) (fun _=>by kernel_rfl) (fun w' hh=>qd (fun w'' h=>ia.tail3 (l:=n.tids) ((h.zAtI (i:=2) (by rfl) hh1 hn).row_slOk (i:=4) rfl)) hh) ?_)
   rintro v w' ⟨rfl,hh⟩
   refine⟨V,(box b4 55 [.int .i64 n.kind,.slice a1 n.elems.length (n.elems.length + 3),.slice a2 n.kids.length (n.kids.length + 3),.slice a3 n.seps.length (n.seps.length + 3),.slice a4 n.tids.length (n.tids.length + 3)]::row 55 eHdr A c hs::il fM hs ns::G),hh,?_⟩
   clear hh
   refine T.k (.bool false) (T.gN ?_)
   refine T.jy false (by kernel_rfl) (by kernel_rfl) (fun h=>Bool.noConfusion h) (fun _=>?_)
   refine T.gP ?_
   refine T.gQ (T.k (vi (IntKind.i64.wrap ((k:Int) + 1))) ?_)
   refine T.ig 40 (vi ((k + 1:Nat) : Int)) rfl (by show Value.int .i64 _=Value.int .i64 _;congr 1;rw [IntKind.wrap_i64];omega) ?_
   refine T.k (vi ((k + 1:Nat) : Int)) (T.gN ?_)
   exact fun a w' hf hh=>⟨Fr.s hf,hh.sub (dr1 kpr)⟩
  ·
   rintro a w' ⟨hf,hh⟩
   refine(?_:T 41 w V (row 55 eHdr A c hs::il fM hs ns::G) [(2,.bool false),(6,.slice A hs.length c),(7,vi (hs.length:Int)),(8,vi (hs.length:Int))] _) a w' hf hh
   clear hf hh
   refine T.sr (T.k (.bool (decide ((hs.length:Int) < (hs.length:Int)))) (T.gN ?_))
   refine T.gR (T.cb (decide ((hs.length:Int) < (hs.length:Int))) (fun hc=>absurd (of_decide_eq_true hc) (by omega)) (fun hc=>?_))
   refine T.iI (T.i8 (T.i8 (T.kZ ?_)))
   exact fun a w' hf hh=>⟨Fr.s hf,hh⟩
 rintro a w' ⟨hf,hh⟩
 refine(?_:T 41 w V (row 55 eHdr A c hs::il fM hs ns::G) [(2,.bool false)] _) a w' hf hh
 clear hf hh
 refine T.sr (T.k (.bool true) (T.gN ?_))
 refine T.ik rfl ?_
 exact T.iq rfl (rT rfl) fun w' hh=>⟨_,rfl,rfl,hh⟩
end Go.Proofs.YtfbpiogbhkgieaaGreat
