/- What the functions copied, spoilTree and room do to trees of the call's own. Conditions: as each states. -/
import Derived.Test.YtfbpiogbhkgieaaGreatRoomTL
import Derived.Test.YtfbpiogbhkgieaaGreatTrFL
namespace Go.Proofs.YtfbpiogbhkgieaaGreat
open Go.RowKit
set_option linter.unusedVariables false
set_option linter.unusedSimpArgs false
set_option maxRecDepth 100000
set_option maxHeartbeats 4000000
section
variable {rl:Option Nat} {P:Program} {N:Sz} {w0:World} {V:View} {H:List HObj} {M:List (Nat × Value)} {φ:Act→World→Prop} {α β:Type} {f:α→β→List HObj}
theorem T.tr {H' : List HObj} (h1 : ∀ w,Hp w0 V H w→Hp w0 V H' w) (h:T N w0 V H' M φ) : T N w0 V H M φ:=fun a w hf hh=>h a w hf (h1 w hh)
theorem T.nf {al:List α} {bl:List β} (i:Nat) (hi:nth H i=some (iY f al bl)) (q:al.length=bl.length→T N w0 V H M φ) : T N w0 V H M φ:=fun a w hf hh=>q (hh.zLen hi) a w hf hh
theorem T.pW {al:List α} {bl:List β} {k:Nat} {a:α} {b:β} {p:Prop} {R:List HObj} (i:Nat) (hi:nth H i=some (iY f al bl)) (h1:al[k]? = some a) (h2:bl[k]? = some b) (hf:f a b=ka p::R) (q:p→T N w0 V H M φ) : T N w0 V H M φ :=
 fun x w hfr hh=>q (by have:=hh.zAtI hi h1 h2;rw [hf] at this;exact this.objs _ List.mem_cons_self) x w hfr hh
theorem Hp.nilRow {α:Type} {w0:World} {V:View} {H:List HObj} {w:World} (hh:Hp w0 V H w) {t:TypeId} {E:Enc α} : Hp w0 V (row t E none 0 []::H) w :=
 hh.fresh_obj _ ⟨rfl,rfl,rfl,Nat.le_refl _,fun _ _ _=>rfl⟩ ⟨Nat.le_refl _,by decide,.inl rfl⟩ (fun b hb=>by cases hb)
end
theorem T.ry {N:Sz} {w0:World} {V:View} {H:List HObj} {M:List (Nat × Value)} {φ:Act→World→Prop} {hs:List DHdr} {ns:List DNode} {k:Nat} {h:DHdr} {n:DNode} (i:Nat) (hi:nth H i=some (iY fM hs ns)) (h1:hs[k]? = some h) (h2:ns[k]? = some n)
 (q:n.elems.length + 3≤maxLen→n.kids.length + 3≤maxLen→n.tids.length + 3≤maxLen→T N w0 V H M φ) : T N w0 V H M φ:=fun a w hf hh=>by
 have h3:=hh.zAtI hi h1 h2
 exact q (h3.row_slOk (i:=1) rfl).2.1 (h3.row_slOk (i:=2) rfl).2.1 (h3.row_slOk (i:=4) rfl).2.1 a w hf hh
theorem oZ (p0:DTree) (hq:qr p0=true) (w:World) (A1:Option Addr) (c1:Nat) (hs1:ia (vw w) j9 A1 c1 p0.nodes) :
 Calls Tryz.prog 4 #[.agg #[.int .i64 p0.root,.slice A1 p0.nodes.length c1]] w (fun e w'=>∃ p:Option Addr × Nat × List DHdr,e = .returned (.agg #[.int .i64 p0.root,.slice p.1 p.2.2.length p.2.1])∧p.2.2.length=p0.nodes.length∧kZ w w' [row 55 eHdr p.1 p.2.1 p.2.2,iY fM p.2.2 p0.nodes]):=by
 obtain⟨hqn,hqa⟩:=qt hq
 refine T.iV (l:=[.agg #[vi p0.root,.slice A1 p0.nodes.length c1]]) Tryz.func4 rfl rfl rfl ?_
 refine T.sr (T.gO (W1.np 24 [vi p0.root,.slice A1 p0.nodes.length c1] (fun b1=>T.gO (W1.np 24 [vi 0,sN] (fun b2=>T.gN ?_)))))
 refine T.sr (T.k (pB b1 0) ?_)
 refine T.l (vi p0.root) (ld1 1) ?_
 refine T.k (.agg #[vi p0.root,sN]) ?_
 refine T.gO (W1.np 24 [vi 0,sN] (fun b3=>?_))
 refine T.gO (W1.st 0 [vi p0.root,sN] [box b3 24 [vi p0.root,sN],box b2 24 [vi 0,sN],box b1 24 [vi p0.root,.slice A1 p0.nodes.length c1]] [vi p0.root,sN] (T.gN ?_))
 refine T.gR ?_
 refine T.sr (T.k (pB b1 1) ?_)
 refine T.l (.slice A1 p0.nodes.length c1) (ld1 2) ?_
 refine T.k2 (vi (p0.nodes.length:Int)) (vi 0) (T.gN ?_)
 refine T.jf (fun a w'=>∃(B:Option Addr) (bc:Nat) (gs:List DHdr),Fr 40 [(2,pB b2 0),(3,pB b3 0)] a∧Hp w (vw w) [row 55 eHdr B bc gs,iY fM gs p0.nodes,box b3 24 [vi p0.root,.slice B gs.length bc],box b2 24 [vi 0,sN]] w') ?_ ?_
 ·
  refine T.ic ?_
  refine T.kh p0.nodes.length (fun k a w'=>∃(B:Option Addr) (bc:Nat) (gs:List DHdr),Fr 40 [(2,pB b2 0),(3,pB b3 0),(10,.slice A1 p0.nodes.length c1),(11,vi (p0.nodes.length:Int)),(12,vi (k:Int))] a∧Hp w (vw w) [row 55 eHdr B bc gs,iY fM gs (p0.nodes.take k),box b3 24 [vi p0.root,.slice B gs.length bc],box b2 24 [vi 0,sN]] w') ?_ ?_ ?_
  · exact fun a w' hf hh=>⟨none,0,[],Fr.s hf,(Hp.nilRow (Hp.zNil fM hh)).ix 60 [0,1,2,3]⟩
  ·
   rintro k hk a w' ⟨B,bc,gs,hf,hh⟩
   revert hf hh
   refine T.i ?_
   obtain⟨n,hn⟩ : ∃ n,p0.nodes[k]? = some n:=⟨_,List.getElem?_eq_getElem hk⟩
   obtain⟨q1,q2,q3,q4⟩:=qq (List.all_eq_true.1 hqa n (List.mem_of_getElem? hn))
   refine T.nf 1 (by rfl) (fun hgl=>?_)
   rw [List.length_take,Nat.min_eq_left (by omega)] at hgl
   obtain⟨cs1,hr2,hc2⟩:=ia.elem hs1 hn
   obtain⟨A4,c4,A5,c5,A6,c6,A7,c7,rfl,hs4,hs5,hs6,hs7⟩:=hr2
   refine T.sr (T.k (.bool (decide ((k:Int) < (p0.nodes.length:Int)))) (T.gN (T.gR (T.cb (decide ((k:Int) < (p0.nodes.length:Int))) (fun hc=>T.gP (T.gR (T.ic ?_))) (fun hc=>absurd (of_decide_eq_false hc) (by omega))))))
   let C:List Value:=[vi n.kind,.slice A4 n.elems.length c4,.slice A5 n.kids.length c5,.slice A6 n.seps.length c6,.slice A7 n.tids.length c7]
   refine T.gR (T.gQ (T.l (.pointer (some ((iC A1).add ((k:Int).toNat * 5)))) (fun w' hh=>ib (e:=55) (s:=5) rfl rfl rfl (by kernel_rfl) (by kernel_rfl) (by omega) (by omega) (hs1.some_ hn (by decide))) ?_))
   refine T.l (.agg (List.toArray C)) (fun w' hh=>kj (cs:=C) rfl rfl (by kernel_rfl) (by kernel_rfl) (fun j u hj=>hh.cell_view (View.cell_mono vr (hc2 j u hj).2))) ?_
   let OB:HObj:=row 55 eHdr B bc gs
   let O3:HObj:=box b3 24 [vi p0.root,.slice B gs.length bc]
   refine T.gO (W1.np 55 [vi 0,sN,sN,sN,sN] (fun b5=>?_))
   let O5:HObj:=box b5 55 C
   refine T.gO (W1.st 0 C [O5,OB,iY fM gs (p0.nodes.take k),O3,box b2 24 [vi 0,sN]] C (T.gN ?_))
   refine T.jf (fun a w'=>∃(B' : Option Addr) (bc' : Nat) (g1 g2 g3 g4:Option Addr),Fr 40 [(2,pB b2 0),(3,pB b3 0),(10,.slice A1 p0.nodes.length c1),(11,vi (p0.nodes.length:Int)),(12,vi (k:Int))] a∧Hp w (vw w) [row 55 eHdr B' bc' (gs ++ [(DHdr.mk n.kind g1 n.elems.length (n.elems.length + 3) g2 n.kids.length (n.kids.length + 3) g3 n.seps.length (n.seps.length + 3) g4 n.tids.length (n.tids.length + 3))]),iY fM (gs ++ [(DHdr.mk n.kind g1 n.elems.length (n.elems.length + 3) g2 n.kids.length (n.kids.length + 3) g3 n.seps.length (n.seps.length + 3) g4 n.tids.length (n.tids.length + 3))]) (p0.nodes.take k ++ [n]),box b3 24 [vi p0.root,.slice B' (gs ++ [(DHdr.mk n.kind g1 n.elems.length (n.elems.length + 3) g2 n.kids.length (n.kids.length + 3) g3 n.seps.length (n.seps.length + 3) g4 n.tids.length (n.tids.length + 3))]).length bc'],box b2 24 [vi 0,sN]] w') ?_ ?_
   ·
    refine T.jr 20 [O5,O3] (by kernel_rfl) ?_
    refine TL.tv 0 (pB b3 1) rfl (fun _ hh=>hh.ix 60 [0,3]) ?_
    refine TL.tk 1 (.slice B gs.length bc) [] rfl (fun _ hh=>hh.ix 60 [0,3]) (ld1 1) ?_
    refine TL.tv 2 (pB b5 0) rfl (fun _ hh=>hh.ix 60 [0,3]) ?_
    refine TL.tk 3 (vi n.kind) [19,18] rfl (fun _ hh=>hh.ix 60 [0,3]) (ld1 0) ?_
    refine TL.tv 4 (pB b5 1) rfl (fun _ hh=>hh.ix 60 [0,3]) ?_
    refine TL.tk 5 (.slice A4 n.elems.length c4) [19,18,7] rfl (fun _ hh=>hh.ix 60 [0,3]) (ld1 0) ?_
    refine TL.tv 8 (pB b5 2) rfl (fun _ hh=>hh.ix 60 [0,3]) ?_
    refine TL.tk 9 (.slice A5 n.kids.length c5) [19,18,10] rfl (fun _ hh=>hh.ix 60 [0,3]) (ld1 0) ?_
    refine TL.tv 11 (pB b5 3) rfl (fun _ hh=>hh.ix 60 [0,3]) ?_
    refine TL.tk 12 (.slice A6 n.seps.length c6) [19,18,14] rfl (fun _ hh=>hh.ix 60 [0,3]) (ld1 0) ?_
    refine TL.tv 13 (.agg #[vi 0,vi 0,vi 0,vi 99]) rfl (fun _ hh=>hh.ix 60 [0,3]) ?_
    refine TL.tv 15 (pB b5 4) rfl (fun _ hh=>hh.ix 60 [0,3]) ?_
    refine TL.tk 16 (.slice A7 n.tids.length c7) [19,18,17] rfl (fun _ hh=>hh.ix 60 [0,3]) (ld1 0) ?_
    let mV:Value:=.agg #[vi 0,vi 0,vi 0,vi 77,vi 0,.string (ByteArray.mk #[109,97,114,107])]
    refine TL.j 6 rfl (W1.cs (vAg eElem) lW 20 #[] mV (fun V u hu=>mg V u _ hu) (fun w' hh=>mb lW rfl w') ?_)
    refine TL.on (fun _ hh=>hh.ix 60 [0,3]) ?_
    refine TL.j 7 rfl (W1.jO 19 #[.slice A4 n.elems.length c4,mV] (fun p:Option Addr=>.slice p n.elems.length (n.elems.length + 3)) (fun p=>[row 28 eElem p (n.elems.length + 3) (n.elems ++ [lW,lW,lW])]) (fun _=>True) (by kernel_rfl) (fun _=>by kernel_rfl) (fun w' hh=>o9 n.elems lW A4 c4 w' (ia.mono hs4 hh.view) (decide_eq_true q1) (by unfold maxLen;omega)) ?_)
    intro g1 _
    let Rg1:HObj:=row 28 eElem g1 (n.elems.length + 3) (n.elems ++ [lW,lW,lW])
    refine T.iH (H':=[Rg1,O5,OB,iY fM gs (p0.nodes.take k),O3,box b2 24 [vi 0,sN]]) (by rfl) ?_
    refine TL.on (fun _ hh=>hh.ix 60 [1,4]) ?_
    refine TL.j 10 rfl (W1.jO 21 #[.slice A5 n.kids.length c5,vi 99] (fun p:Option Addr=>.slice p n.kids.length (n.kids.length + 3)) (fun p=>[row 3 hO p (n.kids.length + 3) (n.kids ++ [99,99,99])]) (fun _=>True) (by kernel_rfl) (fun _=>by kernel_rfl) (fun w' hh=>na n.kids 99 A5 c5 w' (ia.mono hs5 hh.view) (decide_eq_true q2) (by unfold maxLen;omega)) ?_)
    intro g2 _
    let Rg2:HObj:=row 3 hO g2 (n.kids.length + 3) (n.kids ++ [99,99,99])
    refine T.iH (H':=[Rg2,Rg1,O5,OB,iY fM gs (p0.nodes.take k),O3,box b2 24 [vi 0,sN]]) (by rfl) ?_
    refine TL.on (fun _ hh=>hh.ix 60 [2,5]) ?_
    refine TL.j 14 rfl (W1.jO 22 #[.slice A6 n.seps.length c6,.agg #[vi 0,vi 0,vi 0,vi 99]] (fun p:Option Addr=>.slice p n.seps.length (n.seps.length + 3)) (fun p=>[row 36 eSpot p (n.seps.length + 3) (n.seps ++ [nT,nT,nT])]) (fun _=>True) (by kernel_rfl) (fun _=>by kernel_rfl) (fun w' hh=>pa n.seps nT A6 c6 w' (ia.mono hs6 hh.view) (decide_eq_true q3) (by unfold maxLen;omega)) ?_)
    intro g3 _
    let Rg3:HObj:=row 36 eSpot g3 (n.seps.length + 3) (n.seps ++ [nT,nT,nT])
    refine T.iH (H':=[Rg3,Rg2,Rg1,O5,OB,iY fM gs (p0.nodes.take k),O3,box b2 24 [vi 0,sN]]) (by rfl) ?_
    refine TL.on (fun _ hh=>hh.ix 60 [3,6]) ?_
    refine TL.j 17 rfl (W1.jO 21 #[.slice A7 n.tids.length c7,vi 98] (fun p:Option Addr=>.slice p n.tids.length (n.tids.length + 3)) (fun p=>[row 3 hO p (n.tids.length + 3) (n.tids ++ [98,98,98])]) (fun _=>True) (by kernel_rfl) (fun _=>by kernel_rfl) (fun w' hh=>na n.tids 98 A7 c7 w' (ia.mono hs7 hh.view) (decide_eq_true q4) (by unfold maxLen;omega)) ?_)
    intro g4 _
    let Rg4:HObj:=row 3 hO g4 (n.tids.length + 3) (n.tids ++ [98,98,98])
    refine T.iH (H':=[Rg4,Rg3,Rg2,Rg1,O5,OB,iY fM gs (p0.nodes.take k),O3,box b2 24 [vi 0,sN]]) (by rfl) ?_
    refine TL.on (fun _ hh=>hh.ix 60 [4,7]) ?_
    let D:DHdr:=(DHdr.mk n.kind g1 n.elems.length (n.elems.length + 3) g2 n.kids.length (n.kids.length + 3) g3 n.seps.length (n.seps.length + 3) g4 n.tids.length (n.tids.length + 3))
    let DC:List Value:=[vi n.kind,.slice g1 n.elems.length (n.elems.length + 3),.slice g2 n.kids.length (n.kids.length + 3),.slice g3 n.seps.length (n.seps.length + 3),.slice g4 n.tids.length (n.tids.length + 3)]
    refine TL.tv 18 (.agg DC.toArray) rfl (fun _ hh=>hh.ix 60 [4,7]) ?_
    refine TL.j 19 rfl (W1.ns 55 DC (fun b6=>?_))
    refine TL.on (fun _ hh=>hh.ix 60 [5,8]) ?_
    refine TL.j 20 rfl (W1.a (E:=eHdr) (l:=gs) (m:=[D]) 6 104 (info_parts (P:=Tryz.prog) (e:=55) (z:=.agg #[vi 0,sN,sN,sN,sN]) (size:=5) (bytes:=104) (by kernel_rfl)) (fun w' hh=>rg (E:=eHdr) hh (i:=0) (by rfl) rfl) (decide_eq_true (by show (gs.length + 1) * 104≤_;omega)) (by show gs.length + 1≤_;unfold maxLen;omega) (fun B' bc'=>?_))
    refine T.iH (H':=[box b6 55 DC,Rg4,Rg3,Rg2,Rg1,O5,row 55 eHdr B' bc' (gs ++ [D]),iY fM gs (p0.nodes.take k),O3,box b2 24 [vi 0,sN]]) (by rfl) ?_
    refine TL.jp (by kernel_rfl) ?_
    refine TL.j4 21 (pB b3 1) rfl (by kernel_rfl) (by kernel_rfl) (by kernel_rfl) (fun _ _ _ h=>h) (by kernel_rfl) (by kernel_rfl) (by kernel_rfl) (fun _=>by kernel_rfl) ?_
    refine TL.j 22 rfl (W1.st 8 [vi p0.root,.slice B' (gs ++ [D]).length bc'] [box b6 55 DC,Rg4,Rg3,Rg2,Rg1,O5,row 55 eHdr B' bc' (gs ++ [D]),iY fM gs (p0.nodes.take k),box b3 24 [vi p0.root,.slice B' (gs ++ [D]).length bc'],box b2 24 [vi 0,sN]] [.slice B' (gs ++ [D]).length bc'] ?_)
    refine TL.jp (by kernel_rfl) ?_
    refine TL.d ?_
    exact fun a w' hf hh=>⟨B',bc',g1,g2,g3,g4,Fr.s hf,(Hp.zPush (f:=fM) (a:=D) (b:=n) (Hp.put (hh.ix 60 [4,3,2,1,7,6,8,9]) ⟨⟨rfl,rfl,rfl,rfl,rfl⟩,rfl,rfl,rfl,rfl⟩)).ix 60 [1,0,2,3]⟩
   rintro a w' ⟨B',bc',g1,g2,g3,g4,hf,hh⟩
   revert hf hh
   refine T.i ?_
   refine T.gQ (T.k (vi (IntKind.i64.wrap ((k:Int) + 1))) (T.ie 38 (vi ((k + 1:Nat) : Int)) rfl (wk (n:=k) (k:=1) (m:=p0.nodes.length) hk (by unfold maxLen;omega)) (T.k (vi ((k + 1:Nat) : Int)) (T.gN ?_))))
   exact fun a w' hf hh=>⟨B',bc',_,Fr.s hf,by rw [List.take_add_one,hn,Option.toList_some];exact hh⟩
  ·
   rintro a w' ⟨B,bc,gs,hf,hh⟩
   revert hf hh
   refine T.i ?_
   refine T.sr (T.k (.bool (decide ((p0.nodes.length:Int) < (p0.nodes.length:Int)))) (T.gN (T.gR (T.cb (decide ((p0.nodes.length:Int) < (p0.nodes.length:Int))) (fun hc=>absurd (of_decide_eq_true hc) (by omega)) (fun hc=>T.iE (T.iN (T.iN (T.jT ?_))))))))
   exact fun a w' hf hh=>⟨B,bc,gs,Fr.s hf,by rw [List.take_length] at hh;exact hh⟩
 rintro a w' ⟨B,bc,gs,hf,hh⟩
 revert hf hh
 refine T.i ?_
 refine T.nf 1 (by rfl) (fun hgl=>?_)
 refine T.sr (T.l (.agg #[vi p0.root,.slice B gs.length bc]) (ldN 2) ?_)
 refine T.gO (W1.st 3 [vi p0.root,.slice B gs.length bc] [row 55 eHdr B bc gs,iY fM gs p0.nodes,box b3 24 [vi p0.root,.slice B gs.length bc],box b2 24 [vi p0.root,.slice B gs.length bc]] [vi p0.root,.slice B gs.length bc] (T.gN ?_))
 refine T.ii rfl ?_
 exact T.ik rfl (rN 3) fun w' hh=>⟨(B,bc,gs),rfl,hgl,iP (X:=[row 55 eHdr B bc gs,iY fM gs p0.nodes]) (hh.ix 60 [0,1]) ⟨iG (fun _ _ _ _ h=>h),rL sB _ _,trivial⟩⟩
theorem nb {w:World} {V:View} {G:List HObj} {w1:World} {A:Option Addr} {c:Nat} {hs:List DHdr} {ns:List DNode} (root:Int) (hh:Hp w V (row 55 eHdr A c hs::iY fS hs ns::G) w1) :
 Calls Tryz.prog 15 #[.agg #[.int .i64 root,.slice A hs.length c]] w1 (fun e w2=>∃ v,e = .returned v∧v = .tuple #[]∧Hp w V G w2):=by
 refine T.iF (l:=[.agg #[vi root,.slice A hs.length c]]) Tryz.func15 rfl rfl rfl ?_ hh
 clear hh
 refine T.sr (T.gO (W1.np 24 [vi root,.slice A hs.length c] (fun b1=>T.gN ?_)))
 let O1:HObj:=box b1 24 [vi root,.slice A hs.length c]
 let S:Value:=(.slice A hs.length c)
 let R0:HObj:=row 55 eHdr A c hs
 refine T.nf 2 (by rfl) (fun hl=>?_)
 refine T.jY 1 (by rfl) (fun hlc hcm=>?_)
 refine T.gR ?_
 refine T.sr (T.k (pB b1 1) ?_)
 refine T.l S (ld1 0) ?_
 refine T.k2 (vi (hs.length:Int)) (vi 0) (T.gN ?_)
 refine T.jf (fun a w'=>Fr 30 [(1,pB b1 0)] a∧Hp w V (O1::R0::G) w') ?_ ?_
 ·
  refine T.ic ?_
  refine T.kh hs.length (fun k a w'=>Fr 30 [(1,pB b1 0),(5,.slice A hs.length c),(6,vi (hs.length:Int)),(7,vi (k:Int))] a∧Hp w V (O1::R0::iY fS (hs.drop k) (ns.drop k)::G) w') ?_ ?_ ?_
  · exact fun a w' hf hh=>⟨Fr.s hf,hh.ix 3 [0,1,2]⟩
  ·
   rintro k hk a w' ⟨hf,hh⟩
   revert hf hh
   refine T.i ?_
   obtain⟨h,hh1⟩ : ∃ h,hs[k]? = some h:=⟨_,List.getElem?_eq_getElem hk⟩
   obtain⟨n,hn⟩ : ∃ n,ns[k]? = some n:=⟨_,List.getElem?_eq_getElem (by omega)⟩
   have e1:hs.drop k=h::hs.drop (k + 1):=by rw [List.drop_eq_getElem_cons hk,← (List.getElem?_eq_some_iff.1 hh1).2]
   have e2:ns.drop k=n::ns.drop (k + 1):=by rw [List.drop_eq_getElem_cons (by omega),← (List.getElem?_eq_some_iff.1 hn).2]
   rw [e1,e2]
   refine T.pW (k:=0) (a:=h) (b:=n) (R:=iK tyL h n) (p:=tq h) 2 (by rfl) rfl rfl rfl (fun hft=>?_)
   obtain⟨f1,f2,f3,f4⟩:=hft
   let r1:HObj:=row 28 eElem h.a1 h.c1 n.elems
   let r2:HObj:=row 3 hO h.a2 h.c2 n.kids
   let r3:HObj:=row 36 eSpot h.a3 h.c3 n.seps
   let r4:HObj:=row 3 hO h.a4 h.c4 n.tids
   let Z:HObj:=iY fS (hs.drop (k + 1)) (ns.drop (k + 1))
   refine T.tr (H':=(r1::r2::r3::r4::Z::O1::R0::G)) (fun w' hh=>(Hp.zPop (f:=fS) (a:=h) (b:=n) (hh.ix 3 [2,0,1])).sub (.cons _ (List.Sublist.refl _))) ?_
   refine T.sr (T.k (.bool (decide ((k:Int) < (hs.length:Int)))) (T.gN (T.gR (T.cb (decide ((k:Int) < (hs.length:Int))) (fun hc=>T.gP (T.gR (T.ic ?_))) (fun hc=>absurd (of_decide_eq_false hc) (by omega))))))
   let C:List Value:=[.int .i64 h.kind,.slice h.a1 h.n1 h.c1,.slice h.a2 h.n2 h.c2,.slice h.a3 h.n3 h.c3,.slice h.a4 h.n4 h.c4]
   refine T.gR (T.gQ (T.l (.pointer (some ((iC A).add ((k:Int).toNat * 5)))) (fun w' hh=>ib (e:=55) (s:=5) (n:=hs.length) (c:=c) (iv:=(k:Int)) (k:=.i64) rfl rfl rfl (by kernel_rfl) (by kernel_rfl) (by omega) (by omega) ((hh.row_slOk (i:=6) (by rfl)).some_ (k:=k) hh1 (by decide))) ?_))
   refine T.l (.agg (List.toArray C)) (fun w' hh=>kj (cs:=C) rfl rfl (by kernel_rfl) (by kernel_rfl) (fun j u hj=>ia.wcellF (E:=eHdr) (hh.row_slOk (i:=6) (by rfl)) (k:=k) hh1 j (fun _ _ _ h=>h) hj)) ?_
   refine T.gO (W1.np 55 [vi 0,sN,sN,sN,sN] (fun b3=>?_))
   let O3:HObj:=box b3 55 C
   refine T.gO (W1.st 0 C (O3::r1::r2::r3::r4::Z::O1::R0::G) C (T.gN ?_))
   refine T.sr (T.k (pB b3 1) ?_)
   refine T.l (.slice h.a1 h.n1 h.c1) (ld1 0) ?_
   refine T.k (.agg #[.int .i64 0,.int .i64 0,.int .i64 0,.int .i64 3,.int .i64 0,.string (ByteArray.mk #[])]) ?_
   refine T.gO (W1.cv 46 [.slice h.a1 h.n1 h.c1,.agg #[.int .i64 0,.int .i64 0,.int .i64 0,.int .i64 3,.int .i64 0,.string (ByteArray.mk #[])]] (.tuple #[]) (O3::r2::r3::r4::Z::O1::R0::G) (fun w' hh=>pb (DElem.mk (DKey.mk 0 0 0) 3 0 (ByteArray.mk #[])) f1 (hh.ix 8 [1,0,2,3,4,5,6,7])) (T.gN ?_))
   refine T.sr (T.k (pB b3 2) ?_)
   refine T.l (.slice h.a2 h.n2 h.c2) (ld1 0) ?_
   refine T.gO (W1.cv 47 [.slice h.a2 h.n2 h.c2,.int .i64 5] (.tuple #[]) (O3::r3::r4::Z::O1::R0::G) (fun w' hh=>nc 5 f2 (hh.ix 7 [1,0,2,3,4,5,6])) (T.gN ?_))
   refine T.sr (T.k (pB b3 3) ?_)
   refine T.l (.slice h.a3 h.n3 h.c3) (ld1 0) ?_
   refine T.k (.agg #[.int .i64 0,.int .i64 0,.int .i64 0,.int .i64 4]) ?_
   refine T.gO (W1.cv 48 [.slice h.a3 h.n3 h.c3,.agg #[.int .i64 0,.int .i64 0,.int .i64 0,.int .i64 4]] (.tuple #[]) (O3::r4::Z::O1::R0::G) (fun w' hh=>pd (DSpot.mk (DKey.mk 0 0 0) 4) f3 (hh.ix 6 [1,0,2,3,4,5])) (T.gN ?_))
   refine T.gQ (T.k (pB b3 4) ?_)
   refine T.l (.slice h.a4 h.n4 h.c4) (ld1 0) ?_
   refine T.gO (W1.cv 47 [.slice h.a4 h.n4 h.c4,.int .i64 6] (.tuple #[]) (O3::Z::O1::R0::G) (fun w' hh=>nc 6 f4 (hh.ix 5 [1,0,2,3,4])) (T.gN ?_))
   refine T.gQ (T.k (vi (IntKind.i64.wrap ((k:Int) + 1))) (T.ie 25 (vi ((k + 1:Nat) : Int)) rfl (wk (n:=k) (k:=1) (m:=hs.length) hk (Nat.le_trans hlc hcm)) (T.k (vi ((k + 1:Nat) : Int)) (T.gN ?_))))
   exact fun a w' hf hh=>⟨Fr.s hf,hh.ix 4 [2,3,1]⟩
  ·
   rintro a w' ⟨hf,hh⟩
   revert hf hh
   refine T.i ?_
   refine T.sr (T.k (.bool (decide ((hs.length:Int) < (hs.length:Int)))) (T.gN (T.gR (T.cb (decide ((hs.length:Int) < (hs.length:Int))) (fun hc=>absurd (of_decide_eq_true hc) (by omega)) (fun hc=>T.iE (T.iN (T.iN (T.jT ?_))))))))
   exact fun a w' hf hh=>⟨Fr.s hf,hh.ix 3 [0,1]⟩
 rintro a w' ⟨hf,hh⟩
 revert hf hh
 refine T.i ?_
 refine T.gQ (T.k (pB b1 1) ?_)
 refine T.l S (ld1 0) ?_
 refine T.k (.agg #[vi 7,sN,sN,sN,sN]) ?_
 refine T.gO (W1.cv 49 [.slice A hs.length c,.agg #[.int .i64 7,.slice none 0 0,.slice none 0 0,.slice none 0 0,.slice none 0 0]] (.tuple #[]) (O1::G) (fun w' hh=>pc (DHdr.mk 7 none 0 0 none 0 0 none 0 0 none 0 0) hlc (hh.ix 2 [1,0])) (T.gN ?_))
 exact T.jD rfl (fun w' hh=>⟨_,rfl,rfl,hh.sub (dr1 kpr)⟩)
theorem rW {w:World} {V:View} {G:List HObj} {w1:World} {A:Option Addr} {c:Nat} {hs:List DHdr} {ns:List DNode} (root:Int) (hh:Hp w V (row 55 eHdr A c hs::iY fM hs ns::G) w1) :
 Calls Tryz.prog 14 #[.agg #[.int .i64 root,.slice A hs.length c]] w1 (fun e w2=>∃ v,e = .returned v∧v = .bool true∧Hp w V (row 55 eHdr A c hs::iY fM hs ns::G) w2):=by
 refine T.iF (l:=[.agg #[vi root,.slice A hs.length c]]) Tryz.func14 rfl rfl rfl ?_ hh
 clear hh
 refine T.sr (T.gO (W1.np 24 [vi root,.slice A hs.length c] (fun b1=>T.k (.bool false) (T.gN ?_))))
 refine T.nf 2 (by rfl) (fun hl=>?_)
 refine T.jY 1 (by rfl) (fun hlc hcm=>?_)
 refine T.gR ?_
 refine T.sr (T.k (pB b1 1) ?_)
 refine T.l (.slice A hs.length c) (ld1 0) ?_
 refine T.k2 (vi (hs.length:Int)) (vi 0) (T.gN ?_)
 let R0:HObj:=row 55 eHdr A c hs
 let S:Value:=(.slice A hs.length c)
 refine T.jf (fun a w'=>Fr 41 [(2,.bool false)] a∧Hp w V (R0::iY fM hs ns::G) w') ?_ ?_
 ·
  refine T.ic ?_
  refine T.kh hs.length (fun k a w'=>Fr 41 [(2,.bool false),(6,.slice A hs.length c),(7,vi (hs.length:Int)),(8,vi (k:Int))] a∧Hp w V (R0::iY fM hs ns::G) w') ?_ ?_ ?_
  · exact fun a w' hf hh=>⟨Fr.s hf,hh.ix 3 [1,2]⟩
  ·
   rintro k hk a w' ⟨hf,hh⟩
   revert hf hh
   refine T.i ?_
   obtain⟨h,hh1⟩ : ∃ h,hs[k]? = some h:=⟨_,List.getElem?_eq_getElem hk⟩
   obtain⟨n,hn⟩ : ∃ n,ns[k]? = some n:=⟨_,List.getElem?_eq_getElem (by omega)⟩
   refine T.pW (p:=FitM h n) 1 (by rfl) hh1 hn rfl (fun hft=>?_)
   obtain⟨kd,a1,n1,c1,a2,n2,c2,a3,n3,c3,a4,n4,c4⟩:=h
   obtain⟨⟨f0,f1,f2,f3,f4⟩,g1,g2,g3,g4⟩:=hft
   dsimp only at f0 f1 f2 f3 f4 g1 g2 g3 g4
   subst f0 f1 f2 f3 f4 g1 g2 g3 g4
   refine T.sr (T.k (.bool (decide ((k:Int) < (hs.length:Int)))) (T.gN (T.gR (T.cb (decide ((k:Int) < (hs.length:Int))) (fun hc=>T.gP (T.gR (T.ic ?_))) (fun hc=>absurd (of_decide_eq_false hc) (by omega))))))
   let C:List Value:=[.int .i64 n.kind,.slice a1 n.elems.length (n.elems.length + 3),.slice a2 n.kids.length (n.kids.length + 3),.slice a3 n.seps.length (n.seps.length + 3),.slice a4 n.tids.length (n.tids.length + 3)]
   refine T.gR (T.gQ (T.l (.pointer (some ((iC A).add ((k:Int).toNat * 5)))) (fun w' hh=>ib (e:=55) (s:=5) (n:=hs.length) (c:=c) (iv:=(k:Int)) (k:=.i64) rfl rfl rfl (by kernel_rfl) (by kernel_rfl) (by omega) (by omega) ((hh.row_slOk (i:=0) (by rfl)).some_ (k:=k) hh1 (by decide))) ?_))
   refine T.l (.agg (List.toArray C)) (fun w' hh=>kj (cs:=C) rfl rfl (by kernel_rfl) (by kernel_rfl) (fun j u hj=>ia.wcellF (E:=eHdr) (hh.row_slOk (i:=0) (by rfl)) (k:=k) hh1 j (fun _ _ _ h=>h) hj)) ?_
   refine T.gO (W1.np 55 [vi 0,sN,sN,sN,sN] (fun b4=>?_))
   let O4:HObj:=box b4 55 C
   refine T.gO (W1.st 0 C (O4::R0::iY fM hs ns::G) C (T.gN ?_))
   refine T.ry 2 (by rfl) hh1 hn (fun hb1 hb2 hb4=>?_)
   refine T.sr (T.k (pB b4 1) ?_)
   refine T.l (.slice a1 n.elems.length (n.elems.length + 3)) (ld1 0) ?_
   refine T.gO (W1.cv 42 [.slice a1 n.elems.length (n.elems.length + 3)] (.bool true) (O4::R0::iY fM hs ns::G) (fun w' hh=>rq hb1 (fun w' h=>(h.zAtI (i:=2) (by rfl) hh1 hn).row_slOk (i:=1) rfl) hh) ?_)
   refine T.k2 (.bool false) (.bool false) ?_
   refine T.k (pB b4 2) ?_
   refine T.l (.slice a2 n.kids.length (n.kids.length + 3)) (ld1 0) ?_
   refine T.k (pB b4 2) ?_
   refine T.l (.slice a2 n.kids.length (n.kids.length + 3)) (ld1 0) ?_
   refine T.k2 (vi (n.kids.length:Int)) (pB b4 2) ?_
   refine T.l (.slice a2 n.kids.length (n.kids.length + 3)) (ld1 0) ?_
   refine T.k (vi ((n.kids.length + 3:Nat) : Int)) ?_
   refine T.l (.slice (iM a2 (n.kids.length + 3) n.kids.length 1) (n.kids.length + 3 - n.kids.length) (n.kids.length + 3 - n.kids.length)) (fun w' hh=>im (e:=3) (s:=1) (lx:=some _) (hx:=some _) (lo:=(n.kids.length:Int)) (hi:=((n.kids.length + 3:Nat) : Int)) (k:=.i64) (k':=.i64) rfl rfl (by kernel_rfl) (by kernel_rfl) rfl rfl (by omega) (by omega) (by omega)) ?_
   refine T.ie 25 (.slice (iM a2 (n.kids.length + 3) n.kids.length 1) 3 3) rfl (by rw [show n.kids.length + 3 - n.kids.length=3 by omega]) ?_
   refine T.gO (W1.cv 43 [.slice (iM a2 (n.kids.length + 3) n.kids.length 1) 3 3,.func (.func 44) #[] #[]] (.bool false) (O4::R0::iY fM hs ns::G) (fun w' hh=>qc (fun w'' h=>ia.tail3 (l:=n.kids) ((h.zAtI (i:=2) (by rfl) hh1 hn).row_slOk (i:=2) rfl)) hh) ?_)
   refine T.k2 (.bool false) (.bool false) ?_
   refine T.k (pB b4 4) ?_
   refine T.l (.slice a4 n.tids.length (n.tids.length + 3)) (ld1 0) ?_
   refine T.k (pB b4 4) ?_
   refine T.l (.slice a4 n.tids.length (n.tids.length + 3)) (ld1 0) ?_
   refine T.k2 (vi (n.tids.length:Int)) (pB b4 4) ?_
   refine T.l (.slice a4 n.tids.length (n.tids.length + 3)) (ld1 0) ?_
   refine T.k (vi ((n.tids.length + 3:Nat) : Int)) ?_
   refine T.l (.slice (iM a4 (n.tids.length + 3) n.tids.length 1) (n.tids.length + 3 - n.tids.length) (n.tids.length + 3 - n.tids.length)) (fun w' hh=>im (e:=3) (s:=1) (lx:=some _) (hx:=some _) (lo:=(n.tids.length:Int)) (hi:=((n.tids.length + 3:Nat) : Int)) (k:=.i64) (k':=.i64) rfl rfl (by kernel_rfl) (by kernel_rfl) rfl rfl (by omega) (by omega) (by omega)) ?_
   refine T.ie 37 (.slice (iM a4 (n.tids.length + 3) n.tids.length 1) 3 3) rfl (by rw [show n.tids.length + 3 - n.tids.length=3 by omega]) ?_
   refine T.gO (W1.cv 43 [.slice (iM a4 (n.tids.length + 3) n.tids.length 1) 3 3,.func (.func 45) #[] #[]] (.bool false) (O4::R0::iY fM hs ns::G) (fun w' hh=>qb (fun w'' h=>ia.tail3 (l:=n.tids) ((h.zAtI (i:=2) (by rfl) hh1 hn).row_slOk (i:=4) rfl)) hh) ?_)
   refine T.k (.bool false) (T.gN ?_)
   refine T.mw false (by kernel_rfl) (by kernel_rfl) (fun h=>Bool.noConfusion h) (fun _=>?_)
   refine T.gP ?_
   refine T.gQ (T.k (vi (IntKind.i64.wrap ((k:Int) + 1))) (T.ie 40 (vi ((k + 1:Nat) : Int)) rfl (wk (n:=k) (k:=1) (m:=hs.length) hk (Nat.le_trans hlc hcm)) (T.k (vi ((k + 1:Nat) : Int)) (T.gN ?_))))
   exact fun a w' hf hh=>⟨Fr.s hf,hh.sub (dr1 kpr)⟩
  ·
   rintro a w' ⟨hf,hh⟩
   revert hf hh
   refine T.i ?_
   refine T.sr (T.k (.bool (decide ((hs.length:Int) < (hs.length:Int)))) (T.gN (T.gR (T.cb (decide ((hs.length:Int) < (hs.length:Int))) (fun hc=>absurd (of_decide_eq_true hc) (by omega)) (fun hc=>T.iE (T.iN (T.iN (T.jT ?_))))))))
   exact fun a w' hf hh=>⟨Fr.s hf,hh⟩
 rintro a w' ⟨hf,hh⟩
 revert hf hh
 refine T.i ?_
 refine T.sr (T.k (.bool true) (T.gN ?_))
 refine T.ii rfl ?_
 exact T.ik rfl (rT rfl) fun w' hh=>⟨_,rfl,rfl,hh⟩
end Go.Proofs.YtfbpiogbhkgieaaGreat
