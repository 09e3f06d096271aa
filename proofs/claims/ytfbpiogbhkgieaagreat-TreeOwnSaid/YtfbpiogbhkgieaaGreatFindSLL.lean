/- The Go functions of group FindS compute its pure functions, where these yield a result. -/
import Derived.Test.YtfbpiogbhkgieaaGreatShAL
import Derived.Test.YtfbpiogbhkgieaaGreatTreeLL
import Derived.Test.YtfbpiogbhkgieaaGreatRangeL
import Derived.Test.YtfbpiogbhkgieaaGreatClearL
import Derived.Test.YtfbpiogbhkgieaaGreatFindSFL
import Derived.Test.YtfbpiogbhkgieaaGreatEqLL
namespace Go.Proofs.YtfbpiogbhkgieaaGreat
open IntKind (i64)
set_option maxRecDepth 100000
set_option maxHeartbeats 4000000
set_option linter.unusedVariables false
theorem qg (F:Nat) (p0:DTree) (p1:DSpot) (r:DElem × Int) (hF:nR F p0 p1=some r) (w:World) (A1:Option Addr) (c1:Nat) (hs1:ia (vw w) j9 A1 c1 p0.nodes) :
 Calls Tryz.prog 27 #[.agg #[.int .i64 p0.root,.slice A1 p0.nodes.length c1],.agg #[.int .i64 p1.key.pfs,.int .i64 p1.key.obj,.int .i64 p1.key.off,.int .i64 p1.made]] w (ko (vT2 (vAg eElem) (vSc hO)) r w):=by
 unfold nR at hF
 let a42_:Value:=.agg #[vi p0.root,.slice A1 p0.nodes.length c1]
 let a43_:Value:=.agg #[vi p1.key.pfs,vi p1.key.obj,vi p1.key.off,vi p1.made]
 let v35_:List Value:=[a42_,a43_]
 refine T.lZ (l:=v35_) Tryz.func27 rfl rfl rfl ?_
 refine T.gR (T.gQ ?_)
 let v36_:List Value:=[vi p0.root,.slice A1 p0.nodes.length c1]
 refine T.gO (W1.np 24 v36_ (fun b1=>?_))
 let v37_:List Value:=[vi p1.key.pfs,vi p1.key.obj,vi p1.key.off,vi p1.made]
 refine T.gO (W1.np 36 v37_ (fun b2=>?_))
 let v38_:List Value:=[vi 0,vi 0,vi 0,vi 0,vi 0,.string (ByteArray.mk #[])]
 refine T.gO (W1.np 28 v38_ (fun b3=>?_))
 refine T.gO (W1.np 31 [vi 0] (fun b4=>?_))
 refine T.gN (T.gR (T.gR (T.gQ (T.l a42_ (ldN 3) ?_))))
 obtain⟨r1,hb1,hF⟩:=ob hF
 refine T.gO (W1.w1 (vSc hO) r1 50 #[a42_] (fun w' hh=>mr F p0 r1 hb1 w' A1 c1 (ia.mono hs1 hh.view)) ?_)
 intro u V1 hV1 hu
 obtain rfl:=ir _ _ _ hu
 refine T.k (vi r1) (T.gN (T.gR (T.gQ (T.k2 (vi r1) (.bool (r1 != 0)) (T.gN ?_)))))
 refine T.cb (r1 != 0) (fun hc1=>?_) (fun hc1=>?_)
 ·
  rw [hc1,cond_true] at hF
  refine T.gR (T.gQ (T.k2 (.agg #[vi 0,vi 0,vi 0,vi 0,vi 0,.string (ByteArray.mk #[])]) (vi r1) ?_))
  let i1_:HObj:=box b3 28 v38_
  let i2_:HObj:=box b2 36 v37_
  let i3_:HObj:=box b1 24 v36_
  let t4_:List HObj:=i2_::i3_::[]
  let t5_:List HObj:=i1_::t4_
  refine T.gO (W1.st 1 v38_ ((box b4 31 [vi 0])::t5_) v38_ ?_)
  refine T.gO (W1.st 0 [vi r1] ((box b4 31 [vi r1])::t5_) [vi r1] ?_)
  refine T.gN ?_
  cases hF
  refine T.ii rfl ?_
  refine T.jU ((box b4 31 [vi r1])::t5_) [] (fun w' hh=>hh.u) ?_
  exact T.jy rfl (rN 1) (kI.cell1 0 rfl (by rfl) (fun _=>by kernel_rfl)) fun w' hh=>⟨_,rfl,hh.below,(vT2.mk (vAg.mk rfl) (show _ from rfl))⟩
 rw [hc1,cond_false] at hF
 refine T.gP ?_
 obtain⟨q1,hX1,hF⟩:=ob hF
 refine T.ji (fun a w'=>∃(z1:Int) (z2:Int) (z3:Int) (z4:Int) (z5:Int) (z6:ByteArray),q1=Sum.inl (z1,z2,z3,z4,z5,z6)∧∃(d1:Nat) (V2:View),View.le V1 V2∧Fr ⟨24,[d1]⟩ [(4,pB b3 0),(5,pB b4 0)] a∧Hp w V2 [iu d1,box b4 31 [vi 0],box b3 28 [vi z1,vi z2,vi z3,vi z4,vi z5,.string z6]] w') ?_ ?_
 ·
  refine T.gR (T.gQ (T.l a42_ (ldN 3) ?_))
  refine T.l a43_ (ldN 2) ?_
  let i6_:HObj:=box b3 28 v38_
  let i7_:HObj:=box b2 36 v37_
  let i8_:HObj:=box b1 24 v36_
  refine T.gO (W1.jw 56 v35_ (fun v w'=>∃(b6:Nat) (b5:Nat),v = .func (.func 76) #[] #[pB b5 0,pB b6 0]∧Hp w V1 ((box b6 36 v37_)::(box b5 24 v36_)::(box b4 31 [vi 0])::i6_::i7_::i8_::[]) w') Tryz.func56 rfl rfl (by kernel_rfl) (fun _=>by kernel_rfl) rfl ?_ ?_)
  ·
   refine T.gR (T.gQ (T.gO (W1.np 24 v36_ (fun b5=>?_))))
   refine T.gO (W1.np 36 v37_ (fun b6=>?_))
   refine T.k (.nilFunc) (T.gN (T.gR (T.gQ (T.k2 (.func (.func 76) #[] #[pB b5 0,pB b6 0]) (.func (.func 76) #[] #[pB b5 0,pB b6 0]) (T.gN ?_)))))
   refine T.ii rfl ?_
   exact T.ik rfl (rT rfl) fun w' hh=>⟨_,rfl,⟨b6,b5,rfl,(hh.u)⟩⟩
  rintro v w' ⟨b6,b5,rfl,hh⟩
  let i9_:HObj:=box b6 36 v37_
  let i10_:HObj:=box b5 24 v36_
  refine⟨V1,(i9_::i10_::(box b4 31 [vi 0])::i6_::i7_::i8_::[]),hh,?_⟩
  clear hh
  refine T.gN (T.ic ?_)
  obtain⟨q2,hX2,hX1⟩:=ob hX1
  refine T.mO (gf:=76) (lb:=[pB b5 0,pB b6 0]) .ret [(.exit 0)] (fun l1 d1 lr1 w'=>∃(k1:Nat) (z7:Int) (z8:Int) (z9:Int) (z10:Int) (z11:Int) (z12:ByteArray),q2=(k1,z7,z8,z9,z10,z11,z12)∧∃(V3:View),View.le V1 V3∧Hp w V3 [iD l1 lr1 .ret [(.exit 0)] k1,iu d1,box b4 31 [vi 0],box b3 28 [vi z7,vi z8,vi z9,vi z10,vi z11,.string z12]] w') (by kernel_rfl) (by kernel_rfl) (fun _ _=>by kernel_rfl) ?_ ?_
  ·
   intro l1 d1 lr1 hl1 hl2 hl3 hl4 w1 hh
   refine T.iF (l:=[.func (.yield l1) #[] #[],pB b5 0,pB b6 0]) Tryz.func76 rfl rfl rfl ?_ hh
   clear hh
   refine T.gQ (T.l a42_ (ldN 3) ?_)
   refine T.k (pB b5 0) (T.l (vi p0.root) (ld1 3) ?_)
   refine T.l a43_ (ldN 2) ?_
   refine T.k (.func (.yield l1) #[] #[]) ?_
   obtain⟨q3,hz1,hX2⟩:=ob hX2
   let i11_:HObj:=iD l1 lr1 .ret [(.exit 0)] 0
   refine(have hq1:=kQ (fun (s_:Int × Int × Int × Int × Int × ByteArray × Int) (r_:Nat × Int × Int × Int × Int × Int × ByteArray)=>∀(x1:Int) (x2:Int) (x3:Int) (x4:Int) (x5:Int) (x6:ByteArray) (x7:Int),s_=(x1,x2,x3,x4,x5,x6,x7)→∀(V4:View) (G1:List HObj) (w1:World),View.le V1 V4→Hp w V4 (i11_::(iu d1)::(box b4 31 [vi 0])::(box b3 28 [vi x1,vi x2,vi x3,vi x4,vi x5,.string x6])::i7_::G1) w1→Calls Tryz.prog 77 #[a42_,vi x7,a43_,.func (.yield l1) #[] #[]] w1 (fun e w2=>∃ v,e = .returned v∧∃(k2:Nat) (z13:Int) (z14:Int) (z15:Int) (z16:Int) (z17:Int) (z18:ByteArray),r_=(k2,z13,z14,z15,z16,z17,z18)∧∃(V5:View),View.le V4 V5∧v = .bool (isz k2)∧Hp w V5 ((iD l1 lr1 .ret [(.exit 0)] k2)::(iu d1)::(box b4 31 [vi 0])::(box b3 28 [vi z13,vi z14,vi z15,vi z16,vi z17,.string z18])::i7_::G1) w2)) hz1 ?_;?_)
   ·
    rintro rf1 ih1 s_ r_ hS1 x1 x2 x3 x4 x5 x6 x7 rfl V4 G1 w1 hV4 hh
    try dsimp only at hS1
    refine T.iF (l:=[a42_,vi x7,a43_,.func (.yield l1) #[] #[]]) Tryz.func77 rfl rfl rfl ?_ hh
    clear hh
    refine T.gR (T.gQ (T.gO (W1.np 24 v36_ (fun b7=>?_))))
    refine T.gO (W1.np 36 v37_ (fun b8=>?_))
    refine T.k (.bool false) (T.gN (T.gR (T.gQ (T.k (pB b7 1) (T.l (.slice A1 p0.nodes.length c1) (ld1 1) ?_)))))
    refine T.k (vi x7) ?_
    obtain⟨e1,hb2,hS1⟩:=ob hS1
    obtain⟨hi1,hi2,hi3⟩:=iq hb2
    obtain⟨cs1,hr1,hc2⟩:=ia.elem (ia.mono hs1 (vt hV1 hV4)) hi3
    obtain⟨A2,c2,A3,c3,A4,c4,A5,c5,rfl,hs2,hs3,hs4,hs5⟩:=hr1
    refine T.l (.pointer (some ((iC A1).add (x7.toNat * 5)))) (fun w' hh=>ib (e:=55) (s:=5) rfl rfl rfl (by kernel_rfl) (by kernel_rfl) hi1 hi2 ((ia.mono hs1 (vt hV1 hV4)).some_ hi3 (by decide))) ?_
    let v39_:List Value:=[vi e1.kind,.slice A2 e1.elems.length c2,.slice A3 e1.kids.length c3,.slice A4 e1.seps.length c4,.slice A5 e1.tids.length c5]
    let a44_:Value:=.agg #[vi e1.kind,.slice A2 e1.elems.length c2,.slice A3 e1.kids.length c3,.slice A4 e1.seps.length c4,.slice A5 e1.tids.length c5]
    refine T.l a44_ (fun w' hh=>lN (fun j u hj=>hh.cell_view (View.cell_mono vr (hc2 j u hj).2))) ?_
    refine T.gO (W1.np 55 [vi 0,sN,sN,sN,sN] (fun b9=>?_))
    let i12_:HObj:=box b9 55 v39_
    let i13_:HObj:=box b8 36 v37_
    let i14_:HObj:=box b7 24 v36_
    refine T.gO (W1.st 0 v39_ (i12_::i13_::i14_::i11_::(iu d1)::(box b4 31 [vi 0])::(box b3 28 [vi x1,vi x2,vi x3,vi x4,vi x5,.string x6])::i7_::G1) v39_ ?_)
    refine T.gN (T.gR (T.gR (T.gQ (T.k (pB b9 1) (T.l (.slice A2 e1.elems.length c2) (ld1 0) ?_)))))
    refine T.k2 (vi (e1.elems.length:Int)) (vi 0) (T.gN ?_)
    obtain⟨q4,hz2,hS1⟩:=ob hS1
    refine T.jf (fun a w'=>∃(z19:Int) (z20:Int) (z21:Int) (z22:Int) (z23:Int) (z24:ByteArray),q4=Sum.inl (z19,z20,z21,z22,z23,z24)∧∃(V7:View),View.le V4 V7∧Fr 59 [(3,.func (.yield l1) #[] #[]),(4,pB b7 0),(6,pB b8 0),(9,pB b9 0)] a∧Hp w V7 (i12_::i13_::i14_::i11_::(iu d1)::(box b4 31 [vi 0])::(box b3 28 [vi z19,vi z20,vi z21,vi z22,vi z23,.string z24])::i7_::G1) w') ?_ ?_
    ·
     refine T.ic ?_
     refine T.jh (fun s1 a w'=>∃(x8:Int) (x9:Int) (x10:Int) (x11:Int) (x12:Int) (x13:ByteArray) (x14:Int),s1=(x8,x9,x10,x11,x12,x13,x14)∧∃(V6:View),View.le V4 V6∧Fr 59 [(3,.func (.yield l1) #[] #[]),(4,pB b7 0),(6,pB b8 0),(9,pB b9 0),(20,.slice A2 e1.elems.length c2),(21,vi (e1.elems.length:Int)),(22,vi x14)] a∧Hp w V6 (i12_::i13_::i14_::i11_::(iu d1)::(box b4 31 [vi 0])::(box b3 28 [vi x8,vi x9,vi x10,vi x11,vi x12,.string x13])::i7_::G1) w') hz2 ?_ ?_
     ·
      exact fun a w' hf hh=>⟨x1,x2,x3,x4,x5,x6,0,rfl,V4,vr,(Fr.s hf),(hh.u)⟩
     rintro s1 y1 hY1 hr2 a w' ⟨x8,x9,x10,x11,x12,x13,x14,rfl,V6,hV6,hf,hh⟩
     let i15_:HObj:=box b3 28 [vi x8,vi x9,vi x10,vi x11,vi x12,.string x13]
     let t16_:List HObj:=i15_::i7_::G1
     let t17_:List HObj:=(box b4 31 [vi 0])::t16_
     let t18_:List HObj:=(iu d1)::t17_
     let t19_:List HObj:=i11_::t18_
     let t20_:List HObj:=i14_::t19_
     let t21_:List HObj:=i13_::t20_
     let t22_:List HObj:=i12_::t21_
     refine(?_:T 59 w V6 t22_ [(3,.func (.yield l1) #[] #[]),(4,pB b7 0),(6,pB b8 0),(9,pB b9 0),(20,.slice A2 e1.elems.length c2),(21,vi (e1.elems.length:Int)),(22,vi x14)] _) a w' hf hh
     clear hf hh
     try dsimp only at hY1
     refine T.gR (T.gQ (T.k (.bool (decide (x14 < (e1.elems.length:Int)))) (T.gN (T.gR ?_))))
     refine T.cb (decide (x14 < (e1.elems.length:Int))) (fun hc3=>?_) (fun hc3=>?_)
     ·
      rw [hc3,cond_true] at hY1
      refine T.gP ?_
      refine T.gR (T.ic (T.gR (T.gQ ?_)))
      obtain⟨e2,hb3,hY1⟩:=ob hY1
      obtain⟨hi4,hi5,hi6⟩:=iq hb3
      refine T.l (.pointer (some ((iC A2).add (x14.toNat * 6)))) (fun w' hh=>ib (e:=28) (s:=6) rfl rfl rfl (by kernel_rfl) (by kernel_rfl) hi4 hi5 ((ia.mono hs2 hV6).some_ hi6 (by decide))) ?_
      let v40_:List Value:=[vi e2.key.pfs,vi e2.key.obj,vi e2.key.off,vi e2.made,vi e2.gone,.string e2.val]
      let a45_:Value:=.agg #[vi e2.key.pfs,vi e2.key.obj,vi e2.key.off,vi e2.made,vi e2.gone,.string e2.val]
      refine T.l a45_ (fun w' hh=>lN (fun j u hj=>(hh.cell_view (ia.cellF (E:=eElem) (ia.mono hs2 hV6) hi6 j (fun _ _ _ h=>h) hj)))) ?_
      refine T.gO (W1.np 28 v38_ (fun b10=>?_))
      let i23_:HObj:=box b10 28 v40_
      let t24_:List HObj:=i23_::t22_
      refine T.gO (W1.st 0 v40_ t24_ v40_ ?_)
      refine T.gN ?_
      obtain⟨q5,hX3,hY1⟩:=ob hY1
      refine T.ji (fun a w'=>∃(k3:Nat) (z25:Int) (z26:Int) (z27:Int) (z28:Int) (z29:Int) (z30:ByteArray),q5=(k3,z25,z26,z27,z28,z29,z30)∧∃(V8:View),View.le V6 V8∧Fr 59 [(3,.func (.yield l1) #[] #[]),(4,pB b7 0),(6,pB b8 0),(9,pB b9 0),(20,.slice A2 e1.elems.length c2),(21,vi (e1.elems.length:Int)),(22,vi x14),(36,.bool (!(isz k3)))] a∧Hp w V8 (i12_::i13_::i14_::(iD l1 lr1 .ret [(.exit 0)] k3)::(iu d1)::(box b4 31 [vi 0])::(box b3 28 [vi z25,vi z26,vi z27,vi z28,vi z29,.string z30])::i7_::G1) w') ?_ ?_
      ·
       refine T.oG (by kernel_rfl) ?_
       obtain⟨r2,hb4,hX3⟩:=ob hX3
       let a46_:Value:=.agg #[vi r2.key.pfs,vi r2.key.obj,vi r2.key.off,vi r2.made]
       refine TI.kJ 8 #[true,true,true,false,false,false,false,false,false,false,false] (fun a w'=>∃(V10:View),View.le V6 V10∧Fr 59 [(3,.func (.yield l1) #[] #[]),(4,pB b7 0),(6,pB b8 0),(9,pB b9 0),(11,pB b10 0),(20,.slice A2 e1.elems.length c2),(21,vi (e1.elems.length:Int)),(22,vi x14),(27,a46_),(28,a43_)] a∧Hp w V10 t24_ w') ?_ (fun hD1=>?_)
       ·
        rintro a w' ⟨V10,hV10,hf,hh⟩
        refine(?_:T 59 w V10 t24_ [(3,.func (.yield l1) #[] #[]),(4,pB b7 0),(6,pB b8 0),(9,pB b9 0),(11,pB b10 0),(20,.slice A2 e1.elems.length c2),(21,vi (e1.elems.length:Int)),(22,vi x14),(27,a46_),(28,a43_)] _) a w' hf hh
        clear hf hh
        refine TI.a [3] ⟨?_,trivial⟩
        obtain⟨r3,hb5,hX3⟩:=ob hX3
        refine TI.br rfl <| W1.iy (W1.w1 (vSc hO) r3 59 #[a46_,a43_] (fun w' hh=>jl r2 p1 r3 hb5 w') ?_)
        intro u V11 hV11 hu
        obtain rfl:=ir _ _ _ hu
        refine TI.a [4] ⟨?_,trivial⟩
        refine TI.br rfl (W1.iy (W1.l (.bool (decide ((0:Int)≤r3))) (fun _ _=>by kernel_rfl) ?_))
        refine TI.a [5] ⟨?_,trivial⟩
        refine TI.br rfl (W1.iy (W1.l (.bool (decide ((0:Int)≤r3))) (fun _ _=>by kernel_rfl) ?_))
        cases hg1:decide ((0:Int)≤r3)
        ·
         rw [hg1,cond_false] at hX3
         refine TI.kJ 3 #[true,true,true,true,true,true,true,true,false,false,false] (fun a w'=>Fr 59 [(3,.func (.yield l1) #[] #[]),(4,pB b7 0),(6,pB b8 0),(9,pB b9 0),(20,.slice A2 e1.elems.length c2),(21,vi (e1.elems.length:Int)),(22,vi x14),(31,.bool false)] a∧Hp w V11 t22_ w') ?_ (fun hD2=>?_)
         ·
          rintro a w' ⟨hf,hh⟩
          refine(?_:T 59 w V11 t22_ [(3,.func (.yield l1) #[] #[]),(4,pB b7 0),(6,pB b8 0),(9,pB b9 0),(20,.slice A2 e1.elems.length c2),(21,vi (e1.elems.length:Int)),(22,vi x14),(31,.bool false)] _) a w' hf hh
          clear hf hh
          refine TI.a [8] ⟨?_,trivial⟩
          refine TI.n ?_
          refine TI.a [9] ⟨?_,trivial⟩
          refine TI.n ?_
          refine TI.a [10] ⟨?_,trivial⟩
          refine TI.br rfl (W1.iy (W1.l (.bool false) (fun _ _=>by kernel_rfl) ?_))
          refine TI.d ?_
          cases hX3
          exact fun a w' hf hh=>⟨0,x8,x9,x10,x11,x12,x13,rfl,V11,(vt hV10 hV11),(Fr.s hf),(hh.u)⟩
         refine TI.a [6,7] ⟨?_,?_,trivial⟩
         ·
          refine TI.n ?_
          refine TI.a [7] ⟨?_,trivial⟩
          refine TI.n ?_
          exact TI.jz hD2 (by kernel_rfl) (fun a w' hf hh=>⟨(((((((((Fr.nil hf).pick hf 31 rfl).pick hf 22 rfl).pick hf 21 rfl).pick hf 20 rfl).pick hf 9 rfl).pick hf 6 rfl).pick hf 4 rfl).pick hf 3 rfl),(hh.u)⟩)
         refine TI.n ?_
         refine TI.a [6] ⟨?_,trivial⟩
         refine TI.n ?_
         exact TI.jz hD2 (by kernel_rfl) (fun a w' hf hh=>⟨(((((((((Fr.nil hf).pick hf 31 rfl).pick hf 22 rfl).pick hf 21 rfl).pick hf 20 rfl).pick hf 9 rfl).pick hf 6 rfl).pick hf 4 rfl).pick hf 3 rfl),(hh.u)⟩)
        rw [hg1,cond_true] at hX3
        refine TI.kJ 3 #[true,true,true,true,true,true,true,true,false,false,false] (fun a w'=>Fr 59 [(3,.func (.yield l1) #[] #[]),(4,pB b7 0),(6,pB b8 0),(9,pB b9 0),(20,.slice A2 e1.elems.length c2),(21,vi (e1.elems.length:Int)),(22,vi x14),(31,.bool true),(32,.func (.yield l1) #[] #[]),(33,a45_)] a∧Hp w V11 t22_ w') ?_ (fun hD2=>?_)
        ·
         rintro a w' ⟨hf,hh⟩
         refine(?_:T 59 w V11 t22_ [(3,.func (.yield l1) #[] #[]),(4,pB b7 0),(6,pB b8 0),(9,pB b9 0),(20,.slice A2 e1.elems.length c2),(21,vi (e1.elems.length:Int)),(22,vi x14),(31,.bool true),(32,.func (.yield l1) #[] #[]),(33,a45_)] _) a w' hf hh
         clear hf hh
         refine TI.a [8] ⟨?_,trivial⟩
         obtain⟨q6,hX4,hX3⟩:=ob hX3
         refine TI.br rfl (W1R.lu 3 l1 (fun v w'=>∃(k4:Nat) (z31:Int) (z32:Int) (z33:Int) (z34:Int) (z35:Int) (z36:ByteArray),q6=(k4,z31,z32,z33,z34,z35,z36)∧∃(V12:View),View.le V11 V12∧v = .bool false∧Hp w V12 (i12_::i13_::i14_::(iD l1 lr1 .ret [(.exit 0)] (k4 + 1))::(iu d1)::(box b4 31 [vi 0])::(box b3 28 [vi z31,vi z32,vi z33,vi z34,vi z35,.string z36])::i7_::G1) w') (by rfl) hl1 hl2 hl3 hl4 (by rfl) (by kernel_rfl) rfl (by kernel_rfl) rfl ?_ ?_)
         ·
          refine T.gQ (T.gO (W1.np 28 v38_ (fun b11=>?_)))
          let i25_:HObj:=box b11 28 v40_
          refine T.gO (W1.st 0 v40_ (i25_::t22_) v40_ ?_)
          refine T.gN ?_
          refine T.jo ?_
          let t26_:List HObj:=(kK l1 lr1)::t18_
          let t27_:List HObj:=i14_::t26_
          let t28_:List HObj:=i13_::t27_
          let t29_:List HObj:=i12_::t28_
          let t30_:List HObj:=i25_::t29_
          refine T.mN 4 t30_ (by rfl) rfl ?_
          refine T.ic (T.gR (T.gR ?_))
          refine T.oG (by kernel_rfl) ?_
          obtain⟨r4,hb6,hX4⟩:=ob hX4
          let a47_:Value:=.agg #[vi r4.key.pfs,vi r4.key.obj,vi r4.key.off,vi r4.made]
          refine TI.kJ 1 #[true,true,true,false] (fun a w'=>∃(V14:View),View.le V11 V14∧Fr 24 [(4,pB b3 0),(5,pB b4 0),(7,pB b11 0),(19,a47_),(20,a43_)] a∧Hp w V14 t30_ w') ?_ (fun hD3=>?_)
          ·
           rintro a w' ⟨V14,hV14,hf,hh⟩
           refine(?_:T 24 w V14 t30_ [(4,pB b3 0),(5,pB b4 0),(7,pB b11 0),(19,a47_),(20,a43_)] _) a w' hf hh
           clear hf hh
           refine TI.a [3] ⟨?_,trivial⟩
           refine TI.br rfl (W1.iy (W1.l (.bool (r4 == p1)) (fun w' hh=>kA r4 p1 w' rfl rfl rfl) ?_))
           refine TI.d ?_
           refine T.cb (r4 == p1) (fun hc4=>?_) (fun hc4=>?_)
           ·
            rw [hc4,cond_true] at hX4
            refine T.gR (T.gQ (T.l a45_ (ldN 0) ?_))
            let i31_:HObj:=box b3 28 v40_
            let t32_:List HObj:=i31_::i7_::G1
            let t33_:List HObj:=(box b4 31 [vi 0])::t32_
            let t34_:List HObj:=(iu d1)::t33_
            refine T.gO (W1.st 7 v40_ (i25_::i12_::i13_::i14_::(kK l1 lr1)::t34_) v40_ ?_)
            refine T.gO (W1.st 6 [vi 0] (i25_::i12_::i13_::i14_::(kK l1 lr1)::t34_) [vi 0] ?_)
            refine T.gN ?_
            cases hX4
            refine T.ii rfl ?_
            repeat first | refine T.py ?_ | refine T.oI ?_
            exact T.oH .ret [(.exit 0)] 0 4 (i25_::i12_::i13_::i14_::(iD l1 lr1 .ret [(.exit 0)] (0 + 1))::t34_) (by rfl) rfl rfl (fun w' hh=>⟨_,rfl,⟨0,e2.key.pfs,e2.key.obj,e2.key.off,e2.made,e2.gone,e2.val,rfl,V14,hV14,rfl,(hh.u)⟩⟩)
           rw [hc4,cond_false] at hX4
           refine T.gP ?_
           refine T.iE ?_
           cases hX4
           repeat first | refine T.iN ?_ | refine T.ng rfl ?_
           exact T.my .ret [(.exit 0)] 1 4 (i25_::i12_::i13_::i14_::(iD l1 lr1 .ret [(.exit 0)] (1 + 1))::t18_) (by rfl) rfl rfl (fun w' hh=>⟨_,rfl,⟨1,x8,x9,x10,x11,x12,x13,rfl,V14,hV14,rfl,(hh.u)⟩⟩)
          refine TI.a [0,2] ⟨?_,?_,trivial⟩
          ·
           refine TI.br rfl (W1.iy (W1.l a45_ (ldN 0) ?_))
           refine TI.a [1,2] ⟨?_,?_,trivial⟩
           ·
            refine TI.br rfl <| W1.iy (W1.w1 (vAg eSpot) r4 35 #[a45_] (fun w' hh=>iz e2 r4 hb6 w') ?_)
            intro u V13 hV13 hu
            obtain rfl:=iU _ _ _ hu
            refine TI.a [2] ⟨?_,trivial⟩
            refine TI.br rfl (W1.iy (W1.l a43_ (ldN 8) ?_))
            exact TI.jz hD3 (by kernel_rfl) (fun a w' hf hh=>⟨V13,hV13,((((((Fr.nil hf).pick hf 20 rfl).pick hf 19 rfl).pick hf 7 rfl).pick hf 5 rfl).pick hf 4 rfl),(hh.u)⟩)
           refine TI.br rfl (W1.iy (W1.l a43_ (ldN 8) ?_))
           refine TI.a [1] ⟨?_,trivial⟩
           refine TI.br rfl <| W1.iy (W1.w1 (vAg eSpot) r4 35 #[a45_] (fun w' hh=>iz e2 r4 hb6 w') ?_)
           intro u V13 hV13 hu
           obtain rfl:=iU _ _ _ hu
           exact TI.jz hD3 (by kernel_rfl) (fun a w' hf hh=>⟨V13,hV13,((((((Fr.nil hf).pick hf 20 rfl).pick hf 19 rfl).pick hf 7 rfl).pick hf 5 rfl).pick hf 4 rfl),(hh.u)⟩)
          refine TI.br rfl (W1.iy (W1.l a43_ (ldN 8) ?_))
          refine TI.a [0] ⟨?_,trivial⟩
          refine TI.br rfl (W1.iy (W1.l a45_ (ldN 0) ?_))
          refine TI.a [1] ⟨?_,trivial⟩
          refine TI.br rfl <| W1.iy (W1.w1 (vAg eSpot) r4 35 #[a45_] (fun w' hh=>iz e2 r4 hb6 w') ?_)
          intro u V13 hV13 hu
          obtain rfl:=iU _ _ _ hu
          exact TI.jz hD3 (by kernel_rfl) (fun a w' hf hh=>⟨V13,hV13,((((((Fr.nil hf).pick hf 20 rfl).pick hf 19 rfl).pick hf 7 rfl).pick hf 5 rfl).pick hf 4 rfl),(hh.u)⟩)
         rintro v w' ⟨k4,z31,z32,z33,z34,z35,z36,rfl,V12,hV12,rfl,hh⟩
         try dsimp only at hX3
         refine⟨V12,(i12_::i13_::i14_::(iD l1 lr1 .ret [(.exit 0)] (k4 + 1))::(iu d1)::(box b4 31 [vi 0])::(box b3 28 [vi z31,vi z32,vi z33,vi z34,vi z35,.string z36])::i7_::G1),hh,?_⟩
         clear hh
         refine TI.a [9] ⟨?_,trivial⟩
         refine TI.br rfl (W1.iy (W1.l (.bool true) (fun _ _=>by kernel_rfl) ?_))
         refine TI.a [10] ⟨?_,trivial⟩
         refine TI.br rfl (W1.iy (W1.l (.bool true) (fun _ _=>by kernel_rfl) ?_))
         refine TI.d ?_
         cases hX3
         exact fun a w' hf hh=>⟨(k4 + 1),z31,z32,z33,z34,z35,z36,rfl,V12,(vt (vt hV10 hV11) hV12),(Fr.s hf),(hh.u)⟩
        refine TI.a [6,7] ⟨?_,?_,trivial⟩
        ·
         refine TI.br rfl (W1.iy (W1.l (.func (.yield l1) #[] #[]) (fun _ _=>by kernel_rfl) ?_))
         refine TI.a [7] ⟨?_,trivial⟩
         refine TI.br rfl (W1.iy (W1.l a45_ (ldN 0) ?_))
         exact TI.jz hD2 (by kernel_rfl) (fun a w' hf hh=>⟨(((((((((((Fr.nil hf).pick hf 33 rfl).pick hf 32 rfl).pick hf 31 rfl).pick hf 22 rfl).pick hf 21 rfl).pick hf 20 rfl).pick hf 9 rfl).pick hf 6 rfl).pick hf 4 rfl).pick hf 3 rfl),(hh.u)⟩)
        refine TI.br rfl (W1.iy (W1.l a45_ (ldN 0) ?_))
        refine TI.a [6] ⟨?_,trivial⟩
        refine TI.br rfl (W1.iy (W1.l (.func (.yield l1) #[] #[]) (fun _ _=>by kernel_rfl) ?_))
        exact TI.jz hD2 (by kernel_rfl) (fun a w' hf hh=>⟨(((((((((((Fr.nil hf).pick hf 33 rfl).pick hf 32 rfl).pick hf 31 rfl).pick hf 22 rfl).pick hf 21 rfl).pick hf 20 rfl).pick hf 9 rfl).pick hf 6 rfl).pick hf 4 rfl).pick hf 3 rfl),(hh.u)⟩)
       refine TI.a [0,2] ⟨?_,?_,trivial⟩
       ·
        refine TI.br rfl (W1.iy (W1.l a45_ (ldN 0) ?_))
        refine TI.a [1,2] ⟨?_,?_,trivial⟩
        ·
         refine TI.br rfl <| W1.iy (W1.w1 (vAg eSpot) r2 35 #[a45_] (fun w' hh=>iz e2 r2 hb4 w') ?_)
         intro u V9 hV9 hu
         obtain rfl:=iU _ _ _ hu
         refine TI.a [2] ⟨?_,trivial⟩
         refine TI.br rfl (W1.iy (W1.l a43_ (ldN 2) ?_))
         exact TI.jz hD1 (by kernel_rfl) (fun a w' hf hh=>⟨V9,hV9,(((((((((((Fr.nil hf).pick hf 28 rfl).pick hf 27 rfl).pick hf 22 rfl).pick hf 21 rfl).pick hf 20 rfl).pick hf 11 rfl).pick hf 9 rfl).pick hf 6 rfl).pick hf 4 rfl).pick hf 3 rfl),(hh.u)⟩)
        refine TI.br rfl (W1.iy (W1.l a43_ (ldN 2) ?_))
        refine TI.a [1] ⟨?_,trivial⟩
        refine TI.br rfl <| W1.iy (W1.w1 (vAg eSpot) r2 35 #[a45_] (fun w' hh=>iz e2 r2 hb4 w') ?_)
        intro u V9 hV9 hu
        obtain rfl:=iU _ _ _ hu
        exact TI.jz hD1 (by kernel_rfl) (fun a w' hf hh=>⟨V9,hV9,(((((((((((Fr.nil hf).pick hf 28 rfl).pick hf 27 rfl).pick hf 22 rfl).pick hf 21 rfl).pick hf 20 rfl).pick hf 11 rfl).pick hf 9 rfl).pick hf 6 rfl).pick hf 4 rfl).pick hf 3 rfl),(hh.u)⟩)
       refine TI.br rfl (W1.iy (W1.l a43_ (ldN 2) ?_))
       refine TI.a [0] ⟨?_,trivial⟩
       refine TI.br rfl (W1.iy (W1.l a45_ (ldN 0) ?_))
       refine TI.a [1] ⟨?_,trivial⟩
       refine TI.br rfl <| W1.iy (W1.w1 (vAg eSpot) r2 35 #[a45_] (fun w' hh=>iz e2 r2 hb4 w') ?_)
       intro u V9 hV9 hu
       obtain rfl:=iU _ _ _ hu
       exact TI.jz hD1 (by kernel_rfl) (fun a w' hf hh=>⟨V9,hV9,(((((((((((Fr.nil hf).pick hf 28 rfl).pick hf 27 rfl).pick hf 22 rfl).pick hf 21 rfl).pick hf 20 rfl).pick hf 11 rfl).pick hf 9 rfl).pick hf 6 rfl).pick hf 4 rfl).pick hf 3 rfl),(hh.u)⟩)
      rintro a w' ⟨k3,z25,z26,z27,z28,z29,z30,rfl,V8,hV8,hf,hh⟩
      try dsimp only at hY1
      refine(?_:T 59 w V8 (i12_::i13_::i14_::(iD l1 lr1 .ret [(.exit 0)] k3)::(iu d1)::(box b4 31 [vi 0])::(box b3 28 [vi z25,vi z26,vi z27,vi z28,vi z29,.string z30])::i7_::G1) [(3,.func (.yield l1) #[] #[]),(4,pB b7 0),(6,pB b8 0),(9,pB b9 0),(20,.slice A2 e1.elems.length c2),(21,vi (e1.elems.length:Int)),(22,vi x14),(36,.bool (!(isz k3)))] _) a w' hf hh
      clear hf hh
      cases k3 with
      | zero =>
       rw [iI] at hY1
       refine T.cb false (fun h=>Bool.noConfusion h) (fun _=>?_)
       refine T.gP ?_
       refine T.gQ (T.k2 (vi (IntKind.i64.wrap (x14 + 1))) (vi (IntKind.i64.wrap (x14 + 1))) (T.gN ?_))
       cases hY1
       exact fun a w' hf hh=>⟨(z25,z26,z27,z28,z29,z30,IntKind.i64.wrap (x14 + 1)),rfl,z25,z26,z27,z28,z29,z30,(IntKind.i64.wrap (x14 + 1)),rfl,V8,(vt hV6 hV8),(Fr.s hf),(hh.u)⟩
      | succ k5 =>
       rw [iQ] at hY1
       refine T.cb true (fun _=>?_) (fun h=>Bool.noConfusion h)
       refine T.gR (T.gQ (T.k (.bool false) (T.gN ?_)))
       cases hY1
       cases (hr2 _ rfl)
       try dsimp only at hS1
       have hres:=Option.some.inj hS1
       subst hres
       refine T.ii rfl ?_
       repeat first | refine T.ij ?_ | refine T.ig ?_
       exact T.ik rfl (rT rfl) fun w' hh=>⟨_,rfl,⟨(k5 + 1),z25,z26,z27,z28,z29,z30,rfl,V8,(vt hV6 hV8),rfl,(hh.u)⟩⟩
     rw [hc3,cond_false] at hY1
     refine T.iE ?_
     cases hY1
     cases (hr2 _ rfl)
     exact fun a w' hf hh=>⟨x8,x9,x10,x11,x12,x13,rfl,V6,hV6,(Fr.s hf),(hh.u)⟩
    rintro a w' ⟨z19,z20,z21,z22,z23,z24,rfl,V7,hV7,hf,hh⟩
    try dsimp only at hS1
    refine(?_:T 59 w V7 (i12_::i13_::i14_::i11_::(iu d1)::(box b4 31 [vi 0])::(box b3 28 [vi z19,vi z20,vi z21,vi z22,vi z23,.string z24])::i7_::G1) [(3,.func (.yield l1) #[] #[]),(4,pB b7 0),(6,pB b8 0),(9,pB b9 0)] _) a w' hf hh
    clear hf hh
    refine T.gR (T.gR (T.gQ (T.k (pB b9 0) (T.l (vi e1.kind) (ld1 0) ?_))))
    refine T.k (.bool (e1.kind == 1)) (T.gN ?_)
    refine T.cb (e1.kind == 1) (fun hc5=>?_) (fun hc5=>?_)
    ·
     rw [hc5,cond_true] at hS1
     refine T.gR (T.gQ (T.k (.bool true) (T.gN ?_)))
     have hres:=Option.some.inj hS1
     subst hres
     refine T.ii rfl ?_
     repeat first | refine T.ij ?_ | refine T.ig ?_
     exact T.ik rfl (rT rfl) fun w' hh=>⟨_,rfl,⟨0,z19,z20,z21,z22,z23,z24,rfl,V7,hV7,rfl,(hh.u)⟩⟩
    rw [hc5,cond_false] at hS1
    refine T.gP ?_
    refine T.gR (T.gR ?_)
    refine T.jX (by kernel_rfl) (by kernel_rfl) ?_
    refine TQ.k (pB b9 2) ?_
    refine TQ.l (.slice A3 e1.kids.length c3) (ld1 0) ?_
    refine TQ.l a44_ (ldN 0) ?_
    refine TQ.l a43_ (ldN 1) ?_
    obtain⟨r4,hb6,hS1⟩:=ob hS1
    refine TQ.jG (vSc hO) r4 55 #[a44_,a43_] (vi r4) (fun V u hu=>ir V u _ hu) (by kernel_rfl) (fun _=>by kernel_rfl) (fun w' hh=>lF F e1 p1 r4 hb6 w' A2 c2 (ia.mono (ia.mono hs2 hV7) hh.view) A3 c3 (ia.mono (ia.mono hs3 hV7) hh.view) A4 c4 (ia.mono (ia.mono hs4 hV7) hh.view) A5 c5 (ia.mono (ia.mono hs5 hV7) hh.view)) ?_
    obtain⟨s2,hb7,hS1⟩:=ob hS1
    refine TQ.l (.slice (iM A3 c3 r4.toNat 1) s2.length (c3 - r4.toNat)) (fun w' hh=>je (e:=3) (s:=1) (lx:=(some _)) (hx:=none) (k:=.i64) (k':=.i64) rfl rfl (by kernel_rfl) (by kernel_rfl) ((ia.mono hs3 hV7)).1 rfl rfl hb7) ?_
    refine TQ.k (vi (s2.length:Int)) ?_
    refine TQ.k (vi 0) ?_
    refine TQ.jN ?_
    obtain⟨q7,hz3,hS1⟩:=ob hS1
    refine T.jf (fun a w'=>∃(z37:Int) (z38:Int) (z39:Int) (z40:Int) (z41:Int) (z42:ByteArray),q7=Sum.inl (z37,z38,z39,z40,z41,z42)∧∃(V14:View),View.le V7 V14∧Fr 59 [] a∧Hp w V14 (i11_::(iu d1)::(box b4 31 [vi 0])::(box b3 28 [vi z37,vi z38,vi z39,vi z40,vi z41,.string z42])::i7_::G1) w') ?_ ?_
    ·
     refine T.ic ?_
     refine T.jh (fun s3 a w'=>∃(x15:Int) (x16:Int) (x17:Int) (x18:Int) (x19:Int) (x20:ByteArray) (x21:Int),s3=(x15,x16,x17,x18,x19,x20,x21)∧∃(A6:Option Addr) (c6:Nat) (V13:View),View.le V7 V13∧ia V13 hO A6 c6 s2∧Fr 59 [(3,.func (.yield l1) #[] #[]),(4,pB b7 0),(6,pB b8 0),(46,.slice A6 s2.length c6),(47,vi (s2.length:Int)),(48,vi x21)] a∧Hp w V13 (i13_::i14_::i11_::(iu d1)::(box b4 31 [vi 0])::(box b3 28 [vi x15,vi x16,vi x17,vi x18,vi x19,.string x20])::i7_::G1) w') hz3 ?_ ?_
     ·
      exact fun a w' hf hh=>⟨z19,z20,z21,z22,z23,z24,0,rfl,(iM A3 c3 r4.toNat 1),(c3 - r4.toNat),V7,vr,(ia.cut (ia.mono hs3 hV7) hb7),(Fr.s hf),(hh.u)⟩
     rintro s3 y2 hY2 hr3 a w' ⟨x15,x16,x17,x18,x19,x20,x21,rfl,A6,c6,V13,hV13,hs6,hf,hh⟩
     refine(?_:T 59 w V13 (i13_::i14_::i11_::(iu d1)::(box b4 31 [vi 0])::(box b3 28 [vi x15,vi x16,vi x17,vi x18,vi x19,.string x20])::i7_::G1) [(3,.func (.yield l1) #[] #[]),(4,pB b7 0),(6,pB b8 0),(46,.slice A6 s2.length c6),(47,vi (s2.length:Int)),(48,vi x21)] _) a w' hf hh
     clear hf hh
     try dsimp only at hY2
     refine T.gR (T.gQ (T.k (.bool (decide (x21 < (s2.length:Int)))) (T.gN (T.gR ?_))))
     refine T.cb (decide (x21 < (s2.length:Int))) (fun hc6=>?_) (fun hc6=>?_)
     ·
      rw [hc6,cond_true] at hY2
      refine T.gP ?_
      refine T.gR (T.ic (T.gR (T.gQ ?_)))
      obtain⟨e3,hb8,hY2⟩:=ob hY2
      obtain⟨hi7,hi8,hi9⟩:=iq hb8
      refine T.l (.pointer (some ((iC A6).add (x21.toNat * 1)))) (fun w' hh=>ib (e:=3) (s:=1) rfl rfl rfl (by kernel_rfl) (by kernel_rfl) hi7 hi8 (hs6.some_ hi9 (by decide))) ?_
      refine T.l (vi e3) (fun w' hh=>iB rfl rfl (by kernel_rfl) (hh.cell_view (ia.cellF0 (E:=hO) hs6 hi9 (fun _ _ _ h=>h) rfl))) ?_
      refine T.k (vi e3) (T.gN ?_)
      obtain⟨q8,hX5,hY2⟩:=ob hY2
      refine T.ji (fun a w'=>∃(k6:Nat) (z43:Int) (z44:Int) (z45:Int) (z46:Int) (z47:Int) (z48:ByteArray),q8=(k6,z43,z44,z45,z46,z47,z48)∧∃(V15:View),View.le V13 V15∧Fr 59 [(3,.func (.yield l1) #[] #[]),(4,pB b7 0),(6,pB b8 0),(46,.slice A6 s2.length c6),(47,vi (s2.length:Int)),(48,vi x21),(57,.bool (!(isz k6)))] a∧Hp w V15 (i13_::i14_::(iD l1 lr1 .ret [(.exit 0)] k6)::(iu d1)::(box b4 31 [vi 0])::(box b3 28 [vi z43,vi z44,vi z45,vi z46,vi z47,.string z48])::i7_::G1) w') ?_ ?_
      ·
       refine T.gQ (T.l a42_ (ldN 1) ?_)
       refine T.k (vi e3) (T.l a43_ (ldN 0) ?_)
       refine T.k (.func (.yield l1) #[] #[]) ?_
       obtain⟨q9,hz4,hX5⟩:=ob hX5
       refine T.gO (W1.cj (fun w' hh=>ih1 _ _ hz4 x15 x16 x17 x18 x19 x20 e3 rfl V13 (i13_::i14_::G1) w' (vt (vt hV4 hV7) hV13) (hh.ix 7 [2,3,4,5,6,0,1])) ?_)
       rintro v w' ⟨z49,z50,z51,z52,z53,z54,z55,rfl,V16,hV16,rfl,hh⟩
       try dsimp only at hX5
       refine⟨V16,(i13_::i14_::(iD l1 lr1 .ret [(.exit 0)] z49)::(iu d1)::(box b4 31 [vi 0])::(box b3 28 [vi z50,vi z51,vi z52,vi z53,vi z54,.string z55])::i7_::G1),hh.ix 7 [5,6,0,1,2,3,4],?_⟩
       clear hh
       cases z49 with
       | zero =>
        rw [iI] at hX5
        refine T.k (.bool false) (T.gN ?_)
        cases hX5
        exact fun a w' hf hh=>⟨0,z50,z51,z52,z53,z54,z55,rfl,V16,hV16,(Fr.s hf),(hh.u)⟩
       | succ k7 =>
        rw [iQ] at hX5
        refine T.k (.bool true) (T.gN ?_)
        cases hX5
        exact fun a w' hf hh=>⟨(k7 + 1),z50,z51,z52,z53,z54,z55,rfl,V16,hV16,(Fr.s hf),(hh.u)⟩
      rintro a w' ⟨k6,z43,z44,z45,z46,z47,z48,rfl,V15,hV15,hf,hh⟩
      try dsimp only at hY2
      refine(?_:T 59 w V15 (i13_::i14_::(iD l1 lr1 .ret [(.exit 0)] k6)::(iu d1)::(box b4 31 [vi 0])::(box b3 28 [vi z43,vi z44,vi z45,vi z46,vi z47,.string z48])::i7_::G1) [(3,.func (.yield l1) #[] #[]),(4,pB b7 0),(6,pB b8 0),(46,.slice A6 s2.length c6),(47,vi (s2.length:Int)),(48,vi x21),(57,.bool (!(isz k6)))] _) a w' hf hh
      clear hf hh
      cases k6 with
      | zero =>
       rw [iI] at hY2
       refine T.cb false (fun h=>Bool.noConfusion h) (fun _=>?_)
       refine T.gP ?_
       refine T.gQ (T.k2 (vi (IntKind.i64.wrap (x21 + 1))) (vi (IntKind.i64.wrap (x21 + 1))) (T.gN ?_))
       cases hY2
       exact fun a w' hf hh=>⟨(z43,z44,z45,z46,z47,z48,IntKind.i64.wrap (x21 + 1)),rfl,z43,z44,z45,z46,z47,z48,(IntKind.i64.wrap (x21 + 1)),rfl,A6,c6,V15,(vt hV13 hV15),(ia.mono hs6 hV15),(Fr.s hf),(hh.u)⟩
      | succ k8 =>
       rw [iQ] at hY2
       refine T.cb true (fun _=>?_) (fun h=>Bool.noConfusion h)
       refine T.gR (T.gQ (T.k (.bool false) (T.gN ?_)))
       cases hY2
       cases (hr3 _ rfl)
       try dsimp only at hS1
       have hres:=Option.some.inj hS1
       subst hres
       refine T.ii rfl ?_
       repeat first | refine T.ij ?_ | refine T.ig ?_
       exact T.ik rfl (rT rfl) fun w' hh=>⟨_,rfl,⟨(k8 + 1),z43,z44,z45,z46,z47,z48,rfl,V15,(vt (vt hV7 hV13) hV15),rfl,(hh.u)⟩⟩
     rw [hc6,cond_false] at hY2
     refine T.iE ?_
     cases hY2
     cases (hr3 _ rfl)
     exact fun a w' hf hh=>⟨x15,x16,x17,x18,x19,x20,rfl,V13,hV13,(Fr.nil hf),(hh.u)⟩
    rintro a w' ⟨z37,z38,z39,z40,z41,z42,rfl,V14,hV14,hf,hh⟩
    try dsimp only at hS1
    refine(?_:T 59 w V14 (i11_::(iu d1)::(box b4 31 [vi 0])::(box b3 28 [vi z37,vi z38,vi z39,vi z40,vi z41,.string z42])::i7_::G1) [] _) a w' hf hh
    clear hf hh
    refine T.gR (T.gQ (T.k (.bool true) (T.gN ?_)))
    have hres:=Option.some.inj hS1
    subst hres
    refine T.ii rfl ?_
    repeat first | refine T.ij ?_ | refine T.ig ?_
    exact T.ik rfl (rT rfl) fun w' hh=>⟨_,rfl,⟨0,z37,z38,z39,z40,z41,z42,rfl,V14,(vt hV7 hV14),rfl,(hh.u)⟩⟩
   refine T.gO (W1.cj (fun w' hh=>hq1 0 0 0 0 0 (ByteArray.mk #[]) p0.root rfl V1 (i9_::i10_::i8_::[]) w' vr (hh.ix 7 [0,1,4,5,6,2,3])) ?_)
   rintro v w' ⟨z56,z57,z58,z59,z60,z61,z62,rfl,V17,hV17,rfl,hh⟩
   try dsimp only at hX2
   refine⟨V17,[iD l1 lr1 .ret [(.exit 0)] z56,iu d1,box b6 36 v37_,box b5 24 v36_,box b4 31 [vi 0],box b3 28 [vi z57,vi z58,vi z59,vi z60,vi z61,.string z62],box b2 36 v37_,box b1 24 v36_],hh.ix 7 [0,1,5,6,2,3,4],?_⟩
   clear hh
   cases z56 with
   | zero =>
    rw [iI] at hX2
    refine T.gN ?_
    cases hX2
    repeat first | refine T.jo ?_ | refine T.jB ?_
    exact T.jD rfl (fun w' hh=>⟨_,rfl,⟨0,z57,z58,z59,z60,z61,z62,rfl,V17,hV17,(hh.u)⟩⟩)
   | succ k9 =>
    rw [iQ] at hX2
    refine T.gN ?_
    cases hX2
    repeat first | refine T.jo ?_ | refine T.jB ?_
    exact T.jD rfl (fun w' hh=>⟨_,rfl,⟨(k9 + 1),z57,z58,z59,z60,z61,z62,rfl,V17,hV17,(hh.u)⟩⟩)
  rintro l1 d1 lr1 w' ⟨k1,z7,z8,z9,z10,z11,z12,rfl,V3,hV3,hh⟩
  try dsimp only at hX1
  let v41_:List Value:=[vi z7,vi z8,vi z9,vi z10,vi z11,.string z12]
  refine⟨V3,[iu d1,box b4 31 [vi 0],box b3 28 v41_],k1,hh,?_⟩
  clear hh
  cases k1 with
  | zero =>
   rw [iI] at hX1
   rw [iI]
   cases hX1
   exact fun a w' hf hh=>⟨z7,z8,z9,z10,z11,z12,rfl,d1,V3,hV3,(Fr.s hf),(hh.u)⟩
  | succ k10 =>
   rw [iQ] at hX1
   rw [iQ]
   cases k10 with
   | zero =>
    rw [iI] at hX1
    rw [pF]
    cases hX1
    try dsimp only at hF
    cases hF
    refine T.ii rfl ?_
    refine T.jU ((box b4 31 [vi 0])::(box b3 28 v41_)::[]) [d1] (fun w' hh=>hh.u) ?_
    exact T.jy rfl (rN 1) (kI.cell1 0 rfl (by rfl) (fun _=>by kernel_rfl)) fun w' hh=>⟨_,rfl,hh.below,(vT2.mk (vAg.mk rfl) (show _ from rfl))⟩
   | succ k11 =>
    rw [iQ] at hX1
    rw [pE]
    rw [ph]
    refine T.iE ?_
    cases hX1
    exact fun a w' hf hh=>⟨z7,z8,z9,z10,z11,z12,rfl,d1,V3,hV3,(Fr.s hf),(hh.u)⟩
 rintro a w' ⟨z1,z2,z3,z4,z5,z6,rfl,d1,V2,hV2,hf,hh⟩
 try dsimp only at hF
 refine(?_:T ⟨24,[d1]⟩ w V2 [iu d1,box b4 31 [vi 0],box b3 28 [vi z1,vi z2,vi z3,vi z4,vi z5,.string z6]] [(4,pB b3 0),(5,pB b4 0)] _) a w' hf hh
 clear hf hh
 refine T.gR (T.gQ (T.k (.agg #[vi 0,vi 0,vi 0,vi 0,vi 0,.string (ByteArray.mk #[])]) (T.gO (W1.st 2 v38_ [iu d1,box b4 31 [vi 0],box b3 28 v38_] v38_ ?_))))
 refine T.gO (W1.st 1 [vi 4] [iu d1,box b4 31 [vi 4],box b3 28 v38_] [vi 4] ?_)
 refine T.gN ?_
 cases hF
 refine T.ii rfl ?_
 refine T.jU ((box b4 31 [vi 4])::(box b3 28 v38_)::[]) [d1] (fun w' hh=>hh.u) ?_
 exact T.jy rfl (rN 1) (kI.cell1 0 rfl (by rfl) (fun _=>by kernel_rfl)) fun w' hh=>⟨_,rfl,hh.below,(vT2.mk (vAg.mk rfl) (show _ from rfl))⟩
end Go.Proofs.YtfbpiogbhkgieaaGreat
