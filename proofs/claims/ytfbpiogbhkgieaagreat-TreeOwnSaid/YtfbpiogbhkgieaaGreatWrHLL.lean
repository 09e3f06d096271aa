/- The Go functions of group WrH compute its pure functions, where these yield a result. -/
import Derived.Test.YtfbpiogbhkgieaaGreatShAL
import Derived.Test.YtfbpiogbhkgieaaGreatCpLL
import Derived.Test.YtfbpiogbhkgieaaGreatRangeL
import Derived.Test.YtfbpiogbhkgieaaGreatClearL
import Derived.Test.YtfbpiogbhkgieaaGreatWrHFL
import Derived.Test.YtfbpiogbhkgieaaGreatEqLL
namespace Go.Proofs.YtfbpiogbhkgieaaGreat
open IntKind (i64)
set_option maxRecDepth 100000
set_option maxHeartbeats 4000000
set_option linter.unusedVariables false
theorem om (F:Nat) (p0:DTree) (p1:DKey) (r:DElem × Bool) (hF:mU F p0 p1=some r) (w:World) (A1:Option Addr) (c1:Nat) (hs1:ia (vw w) j9 A1 c1 p0.nodes) :
 Calls Tryz.prog 32 #[.agg #[.int .i64 p0.root,.slice A1 p0.nodes.length c1],.agg #[.int .i64 p1.pfs,.int .i64 p1.obj,.int .i64 p1.off]] w (ko (vT2 (vAg eElem) (vSc eBool)) r w):=by
 unfold mU at hF
 let a30_:Value:=.agg #[vi p0.root,.slice A1 p0.nodes.length c1]
 let a31_:Value:=.agg #[vi p1.pfs,vi p1.obj,vi p1.off]
 refine T.lZ (l:=[a30_,a31_]) Tryz.func32 rfl rfl rfl ?_
 refine T.gR (T.gQ ?_)
 let v23_:List Value:=[vi p0.root,.slice A1 p0.nodes.length c1]
 refine T.gO (W1.np 24 v23_ (fun b1=>?_))
 let v24_:List Value:=[vi p1.pfs,vi p1.obj,vi p1.off]
 refine T.gO (W1.np 26 v24_ (fun b2=>?_))
 let v25_:List Value:=[vi 0,vi 0,vi 0,vi 0,vi 0,.string (ByteArray.mk #[])]
 refine T.gO (W1.np 28 v25_ (fun b3=>?_))
 refine T.gO (W1.np 4 [.bool false] (fun b4=>?_))
 refine T.gN ?_
 obtain⟨q1,hX1,hF⟩:=ob hF
 refine T.ji (fun a w'=>∃(z1:Bool) (z2:Int) (z3:Int) (z4:Int) (z5:Int) (z6:Int) (z7:ByteArray),q1=Sum.inl (z1,z2,z3,z4,z5,z6,z7)∧∃(d1:Nat) (V1:View),View.le (vw w) V1∧Fr ⟨21,[d1]⟩ [(4,pB b3 0),(5,pB b4 0)] a∧Hp w V1 [iu d1,box b4 4 [.bool z1],box b3 28 [vi z2,vi z3,vi z4,vi z5,vi z6,.string z7]] w') ?_ ?_
 ·
  refine T.gR (T.gQ (T.l a30_ (ldN 3) ?_))
  refine T.l a31_ (ldN 2) ?_
  let a32_:Value:=.agg #[vi p1.pfs,vi p1.obj,vi p1.off,vi 0]
  refine T.k a32_ ?_
  let i1_:HObj:=box b3 28 v25_
  let i2_:HObj:=box b2 26 v24_
  let i3_:HObj:=box b1 24 v23_
  let v26_:List Value:=[vi p1.pfs,vi p1.obj,vi p1.off,vi 0]
  refine T.gO (W1.jw 56 [a30_,a32_] (fun v w'=>∃(b6:Nat) (b5:Nat),v = .func (.func 76) #[] #[pB b5 0,pB b6 0]∧Hp w (vw w) ((box b6 36 v26_)::(box b5 24 v23_)::(box b4 4 [.bool false])::i1_::i2_::i3_::[]) w') Tryz.func56 rfl rfl (by kernel_rfl) (fun _=>by kernel_rfl) rfl ?_ ?_)
  ·
   refine T.gR (T.gQ (T.gO (W1.np 24 v23_ (fun b5=>?_))))
   refine T.gO (W1.np 36 v26_ (fun b6=>?_))
   refine T.k (.nilFunc) (T.gN (T.gR (T.gQ (T.k2 (.func (.func 76) #[] #[pB b5 0,pB b6 0]) (.func (.func 76) #[] #[pB b5 0,pB b6 0]) (T.gN ?_)))))
   refine T.ii rfl ?_
   exact T.ik rfl (rT rfl) fun w' hh=>⟨_,rfl,⟨b6,b5,rfl,(hh.u)⟩⟩
  rintro v w' ⟨b6,b5,rfl,hh⟩
  let i4_:HObj:=box b6 36 v26_
  let i5_:HObj:=box b5 24 v23_
  refine⟨(vw w),(i4_::i5_::(box b4 4 [.bool false])::i1_::i2_::i3_::[]),hh,?_⟩
  clear hh
  refine T.gN (T.ic ?_)
  obtain⟨q2,hX2,hX1⟩:=ob hX1
  refine T.mO (gf:=76) (lb:=[pB b5 0,pB b6 0]) (.exit 0) [.ret] (fun l1 d1 lr1 w'=>∃(k1:Nat) (z8:Bool) (z9:Int) (z10:Int) (z11:Int) (z12:Int) (z13:Int) (z14:ByteArray),q2=(k1,z8,z9,z10,z11,z12,z13,z14)∧∃(V2:View),View.le (vw w) V2∧Hp w V2 [iD l1 lr1 (.exit 0) [.ret] k1,iu d1,box b4 4 [.bool z8],box b3 28 [vi z9,vi z10,vi z11,vi z12,vi z13,.string z14]] w') (by kernel_rfl) (by kernel_rfl) (fun _ _=>by kernel_rfl) ?_ ?_
  ·
   intro l1 d1 lr1 hl1 hl2 hl3 hl4 w1 hh
   refine T.iF (l:=[.func (.yield l1) #[] #[],pB b5 0,pB b6 0]) Tryz.func76 rfl rfl rfl ?_ hh
   clear hh
   refine T.gQ (T.l a30_ (ldN 3) ?_)
   refine T.k (pB b5 0) (T.l (vi p0.root) (ld1 3) ?_)
   refine T.l a32_ (ldN 2) ?_
   refine T.k (.func (.yield l1) #[] #[]) ?_
   obtain⟨q3,hz1,hX2⟩:=ob hX2
   let i6_:HObj:=iD l1 lr1 (.exit 0) [.ret] 0
   refine(have hq1:=kQ (fun (s_:Bool × Int × Int × Int × Int × Int × ByteArray × Int) (r_:Nat × Bool × Int × Int × Int × Int × Int × ByteArray)=>∀(x1:Bool) (x2:Int) (x3:Int) (x4:Int) (x5:Int) (x6:Int) (x7:ByteArray) (x8:Int),s_=(x1,x2,x3,x4,x5,x6,x7,x8)→∀(V3:View) (G1:List HObj) (w1:World),View.le (vw w) V3→Hp w V3 (i6_::(iu d1)::(box b4 4 [.bool x1])::(box b3 28 [vi x2,vi x3,vi x4,vi x5,vi x6,.string x7])::i2_::G1) w1→Calls Tryz.prog 77 #[a30_,vi x8,a32_,.func (.yield l1) #[] #[]] w1 (fun e w2=>∃ v,e = .returned v∧∃(k2:Nat) (z15:Bool) (z16:Int) (z17:Int) (z18:Int) (z19:Int) (z20:Int) (z21:ByteArray),r_=(k2,z15,z16,z17,z18,z19,z20,z21)∧∃(V4:View),View.le V3 V4∧v = .bool (isz k2)∧Hp w V4 ((iD l1 lr1 (.exit 0) [.ret] k2)::(iu d1)::(box b4 4 [.bool z15])::(box b3 28 [vi z16,vi z17,vi z18,vi z19,vi z20,.string z21])::i2_::G1) w2)) hz1 ?_;?_)
   ·
    rintro rf1 ih1 s_ r_ hS1 x1 x2 x3 x4 x5 x6 x7 x8 rfl V3 G1 w1 hV3 hh
    try dsimp only at hS1
    refine T.iF (l:=[a30_,vi x8,a32_,.func (.yield l1) #[] #[]]) Tryz.func77 rfl rfl rfl ?_ hh
    clear hh
    refine T.gR (T.gQ (T.gO (W1.np 24 v23_ (fun b7=>?_))))
    refine T.gO (W1.np 36 v26_ (fun b8=>?_))
    refine T.k (.bool false) (T.gN (T.gR (T.gQ (T.k (pB b7 1) (T.l (.slice A1 p0.nodes.length c1) (ld1 1) ?_)))))
    refine T.k (vi x8) ?_
    obtain⟨e1,hb1,hS1⟩:=ob hS1
    obtain⟨hi1,hi2,hi3⟩:=iq hb1
    obtain⟨cs1,hr1,hc1⟩:=ia.elem (ia.mono hs1 hV3) hi3
    obtain⟨A2,c2,A3,c3,A4,c4,A5,c5,rfl,hs2,hs3,hs4,hs5⟩:=hr1
    refine T.l (.pointer (some ((iC A1).add (x8.toNat * 5)))) (fun w' hh=>ib (e:=55) (s:=5) rfl rfl rfl (by kernel_rfl) (by kernel_rfl) hi1 hi2 ((ia.mono hs1 hV3).some_ hi3 (by decide))) ?_
    let v27_:List Value:=[vi e1.kind,.slice A2 e1.elems.length c2,.slice A3 e1.kids.length c3,.slice A4 e1.seps.length c4,.slice A5 e1.tids.length c5]
    let a33_:Value:=.agg #[vi e1.kind,.slice A2 e1.elems.length c2,.slice A3 e1.kids.length c3,.slice A4 e1.seps.length c4,.slice A5 e1.tids.length c5]
    refine T.l a33_ (fun w' hh=>lN (fun j u hj=>hh.cell_view (View.cell_mono vr (hc1 j u hj).2))) ?_
    refine T.gO (W1.np 55 [vi 0,sN,sN,sN,sN] (fun b9=>?_))
    let i7_:HObj:=box b9 55 v27_
    let i8_:HObj:=box b8 36 v26_
    let i9_:HObj:=box b7 24 v23_
    refine T.gO (W1.st 0 v27_ (i7_::i8_::i9_::i6_::(iu d1)::(box b4 4 [.bool x1])::(box b3 28 [vi x2,vi x3,vi x4,vi x5,vi x6,.string x7])::i2_::G1) v27_ ?_)
    refine T.gN (T.gR (T.gR (T.gQ (T.k (pB b9 1) (T.l (.slice A2 e1.elems.length c2) (ld1 0) ?_)))))
    refine T.k2 (vi (e1.elems.length:Int)) (vi 0) (T.gN ?_)
    obtain⟨q4,hz2,hS1⟩:=ob hS1
    refine T.jf (fun a w'=>∃(z22:Bool) (z23:Int) (z24:Int) (z25:Int) (z26:Int) (z27:Int) (z28:ByteArray),q4=Sum.inl (z22,z23,z24,z25,z26,z27,z28)∧∃(V6:View),View.le V3 V6∧Fr 59 [(3,.func (.yield l1) #[] #[]),(4,pB b7 0),(6,pB b8 0),(9,pB b9 0)] a∧Hp w V6 (i7_::i8_::i9_::i6_::(iu d1)::(box b4 4 [.bool z22])::(box b3 28 [vi z23,vi z24,vi z25,vi z26,vi z27,.string z28])::i2_::G1) w') ?_ ?_
    ·
     refine T.ic ?_
     refine T.jh (fun s1 a w'=>∃(x9:Bool) (x10:Int) (x11:Int) (x12:Int) (x13:Int) (x14:Int) (x15:ByteArray) (x16:Int),s1=(x9,x10,x11,x12,x13,x14,x15,x16)∧∃(V5:View),View.le V3 V5∧Fr 59 [(3,.func (.yield l1) #[] #[]),(4,pB b7 0),(6,pB b8 0),(9,pB b9 0),(20,.slice A2 e1.elems.length c2),(21,vi (e1.elems.length:Int)),(22,vi x16)] a∧Hp w V5 (i7_::i8_::i9_::i6_::(iu d1)::(box b4 4 [.bool x9])::(box b3 28 [vi x10,vi x11,vi x12,vi x13,vi x14,.string x15])::i2_::G1) w') hz2 ?_ ?_
     ·
      exact fun a w' hf hh=>⟨x1,x2,x3,x4,x5,x6,x7,0,rfl,V3,vr,(Fr.s hf),(hh.u)⟩
     rintro s1 y1 hY1 hr2 a w' ⟨x9,x10,x11,x12,x13,x14,x15,x16,rfl,V5,hV5,hf,hh⟩
     let i10_:HObj:=box b3 28 [vi x10,vi x11,vi x12,vi x13,vi x14,.string x15]
     let t11_:List HObj:=i10_::i2_::G1
     let t12_:List HObj:=(box b4 4 [.bool x9])::t11_
     let t13_:List HObj:=(iu d1)::t12_
     let t14_:List HObj:=i6_::t13_
     let t15_:List HObj:=i9_::t14_
     let t16_:List HObj:=i8_::t15_
     let t17_:List HObj:=i7_::t16_
     refine(?_:T 59 w V5 t17_ [(3,.func (.yield l1) #[] #[]),(4,pB b7 0),(6,pB b8 0),(9,pB b9 0),(20,.slice A2 e1.elems.length c2),(21,vi (e1.elems.length:Int)),(22,vi x16)] _) a w' hf hh
     clear hf hh
     try dsimp only at hY1
     refine T.gR (T.gQ (T.k (.bool (decide (x16 < (e1.elems.length:Int)))) (T.gN (T.gR ?_))))
     refine T.cb (decide (x16 < (e1.elems.length:Int))) (fun hc2=>?_) (fun hc2=>?_)
     ·
      rw [hc2,cond_true] at hY1
      refine T.gP ?_
      refine T.gR (T.ic (T.gR (T.gQ ?_)))
      obtain⟨e2,hb2,hY1⟩:=ob hY1
      obtain⟨hi4,hi5,hi6⟩:=iq hb2
      refine T.l (.pointer (some ((iC A2).add (x16.toNat * 6)))) (fun w' hh=>ib (e:=28) (s:=6) rfl rfl rfl (by kernel_rfl) (by kernel_rfl) hi4 hi5 ((ia.mono hs2 hV5).some_ hi6 (by decide))) ?_
      let v28_:List Value:=[vi e2.key.pfs,vi e2.key.obj,vi e2.key.off,vi e2.made,vi e2.gone,.string e2.val]
      let a34_:Value:=.agg #[vi e2.key.pfs,vi e2.key.obj,vi e2.key.off,vi e2.made,vi e2.gone,.string e2.val]
      refine T.l a34_ (fun w' hh=>lN (fun j u hj=>(hh.cell_view (ia.cellF (E:=eElem) (ia.mono hs2 hV5) hi6 j (fun _ _ _ h=>h) hj)))) ?_
      refine T.gO (W1.np 28 v25_ (fun b10=>?_))
      let i18_:HObj:=box b10 28 v28_
      let t19_:List HObj:=i18_::t17_
      refine T.gO (W1.st 0 v28_ t19_ v28_ ?_)
      refine T.gN ?_
      obtain⟨q5,hX3,hY1⟩:=ob hY1
      refine T.ji (fun a w'=>∃(k3:Nat) (z29:Bool) (z30:Int) (z31:Int) (z32:Int) (z33:Int) (z34:Int) (z35:ByteArray),q5=(k3,z29,z30,z31,z32,z33,z34,z35)∧∃(V7:View),View.le V5 V7∧Fr 59 [(3,.func (.yield l1) #[] #[]),(4,pB b7 0),(6,pB b8 0),(9,pB b9 0),(20,.slice A2 e1.elems.length c2),(21,vi (e1.elems.length:Int)),(22,vi x16),(36,.bool (!(isz k3)))] a∧Hp w V7 (i7_::i8_::i9_::(iD l1 lr1 (.exit 0) [.ret] k3)::(iu d1)::(box b4 4 [.bool z29])::(box b3 28 [vi z30,vi z31,vi z32,vi z33,vi z34,.string z35])::i2_::G1) w') ?_ ?_
      ·
       refine T.oG (by kernel_rfl) ?_
       obtain⟨r1,hb3,hX3⟩:=ob hX3
       let a35_:Value:=.agg #[vi r1.key.pfs,vi r1.key.obj,vi r1.key.off,vi r1.made]
       refine TI.kJ 8 #[true,true,true,false,false,false,false,false,false,false,false] (fun a w'=>∃(V9:View),View.le V5 V9∧Fr 59 [(3,.func (.yield l1) #[] #[]),(4,pB b7 0),(6,pB b8 0),(9,pB b9 0),(11,pB b10 0),(20,.slice A2 e1.elems.length c2),(21,vi (e1.elems.length:Int)),(22,vi x16),(27,a35_),(28,a32_)] a∧Hp w V9 t19_ w') ?_ (fun hD1=>?_)
       ·
        rintro a w' ⟨V9,hV9,hf,hh⟩
        refine(?_:T 59 w V9 t19_ [(3,.func (.yield l1) #[] #[]),(4,pB b7 0),(6,pB b8 0),(9,pB b9 0),(11,pB b10 0),(20,.slice A2 e1.elems.length c2),(21,vi (e1.elems.length:Int)),(22,vi x16),(27,a35_),(28,a32_)] _) a w' hf hh
        clear hf hh
        refine TI.a [3] ⟨?_,trivial⟩
        obtain⟨r2,hb4,hX3⟩:=ob hX3
        refine TI.br rfl <| W1.iy (W1.w1 (vSc hO) r2 59 #[a35_,a32_] (fun w' hh=>jl r1 (DSpot.mk p1 0) r2 hb4 w') ?_)
        intro u V10 hV10 hu
        obtain rfl:=ir _ _ _ hu
        refine TI.a [4] ⟨?_,trivial⟩
        refine TI.br rfl (W1.iy (W1.l (.bool (decide ((0:Int)≤r2))) (fun _ _=>by kernel_rfl) ?_))
        refine TI.a [5] ⟨?_,trivial⟩
        refine TI.br rfl (W1.iy (W1.l (.bool (decide ((0:Int)≤r2))) (fun _ _=>by kernel_rfl) ?_))
        cases hg1:decide ((0:Int)≤r2)
        ·
         rw [hg1,cond_false] at hX3
         refine TI.kJ 3 #[true,true,true,true,true,true,true,true,false,false,false] (fun a w'=>Fr 59 [(3,.func (.yield l1) #[] #[]),(4,pB b7 0),(6,pB b8 0),(9,pB b9 0),(20,.slice A2 e1.elems.length c2),(21,vi (e1.elems.length:Int)),(22,vi x16),(31,.bool false)] a∧Hp w V10 t17_ w') ?_ (fun hD2=>?_)
         ·
          rintro a w' ⟨hf,hh⟩
          refine(?_:T 59 w V10 t17_ [(3,.func (.yield l1) #[] #[]),(4,pB b7 0),(6,pB b8 0),(9,pB b9 0),(20,.slice A2 e1.elems.length c2),(21,vi (e1.elems.length:Int)),(22,vi x16),(31,.bool false)] _) a w' hf hh
          clear hf hh
          refine TI.a [8] ⟨?_,trivial⟩
          refine TI.n ?_
          refine TI.a [9] ⟨?_,trivial⟩
          refine TI.n ?_
          refine TI.a [10] ⟨?_,trivial⟩
          refine TI.br rfl (W1.iy (W1.l (.bool false) (fun _ _=>by kernel_rfl) ?_))
          refine TI.d ?_
          cases hX3
          exact fun a w' hf hh=>⟨0,x9,x10,x11,x12,x13,x14,x15,rfl,V10,(vt hV9 hV10),(Fr.s hf),(hh.u)⟩
         refine TI.a [6,7] ⟨?_,?_,trivial⟩
         ·
          refine TI.n ?_
          refine TI.a [7] ⟨?_,trivial⟩
          refine TI.n ?_
          exact TI.jz hD2 (by kernel_rfl) (fun a w' hf hh=>⟨(((((((((Fr.nil hf).pick hf 31 rfl).pick hf 22 rfl).pick hf 21 rfl).pick hf 20 rfl).pick hf 9 rfl).pick hf 6 rfl).pick hf 4 rfl).pick hf 3 rfl),(hh.u)⟩)
         refine TI.n ?_
         refine TI.a [6] ⟨?_,trivial⟩
         refine TI.n ?_
         exact TI.jz hD2 (by kernel_rfl) (fun a w' hf hh=>⟨(((((((((Fr.nil hf).pick hf 31 rfl).pick hf 22 rfl).pick hf 21 rfl).pick hf 20 rfl).pick hf 9 rfl).pick hf 6 rfl).pick hf 4 rfl).pick hf 3 rfl),(hh.u)⟩)
        rw [hg1,cond_true] at hX3
        refine TI.kJ 3 #[true,true,true,true,true,true,true,true,false,false,false] (fun a w'=>Fr 59 [(3,.func (.yield l1) #[] #[]),(4,pB b7 0),(6,pB b8 0),(9,pB b9 0),(20,.slice A2 e1.elems.length c2),(21,vi (e1.elems.length:Int)),(22,vi x16),(31,.bool true),(32,.func (.yield l1) #[] #[]),(33,a34_)] a∧Hp w V10 t17_ w') ?_ (fun hD2=>?_)
        ·
         rintro a w' ⟨hf,hh⟩
         refine(?_:T 59 w V10 t17_ [(3,.func (.yield l1) #[] #[]),(4,pB b7 0),(6,pB b8 0),(9,pB b9 0),(20,.slice A2 e1.elems.length c2),(21,vi (e1.elems.length:Int)),(22,vi x16),(31,.bool true),(32,.func (.yield l1) #[] #[]),(33,a34_)] _) a w' hf hh
         clear hf hh
         refine TI.a [8] ⟨?_,trivial⟩
         obtain⟨q6,hX4,hX3⟩:=ob hX3
         refine TI.br rfl (W1R.lu 3 l1 (fun v w'=>∃(k4:Nat) (z36:Bool) (z37:Int) (z38:Int) (z39:Int) (z40:Int) (z41:Int) (z42:ByteArray),q6=(k4,z36,z37,z38,z39,z40,z41,z42)∧v = .bool (isz k4)∧Hp w V10 (i7_::i8_::i9_::(iD l1 lr1 (.exit 0) [.ret] k4)::(iu d1)::(box b4 4 [.bool z36])::(box b3 28 [vi z37,vi z38,vi z39,vi z40,vi z41,.string z42])::i2_::G1) w') (by rfl) hl1 hl2 hl3 hl4 (by rfl) (by kernel_rfl) rfl (by kernel_rfl) rfl ?_ ?_)
         ·
          refine T.gQ (T.gO (W1.np 28 v25_ (fun b11=>?_)))
          let i20_:HObj:=box b11 28 v28_
          refine T.gO (W1.st 0 v28_ (i20_::t17_) v28_ ?_)
          refine T.gN ?_
          refine T.jo ?_
          refine T.mN 4 (i20_::i7_::i8_::i9_::(kK l1 lr1)::t13_) (by rfl) rfl ?_
          refine T.ic (T.gR (T.gR (T.gQ (T.k (pB b11 0) (T.l (.agg #[vi e2.key.pfs,vi e2.key.obj,vi e2.key.off]) (ldN 0) ?_)))))
          refine T.l a31_ (ldN 8) ?_
          refine T.l (.bool (!(e2.key == p1))) (fun w' hh=>pr e2.key p1 w' rfl rfl rfl) ?_
          refine T.gN ?_
          refine T.cb (!(e2.key == p1)) (fun hc3=>?_) (fun hc3=>?_)
          ·
           rw [hc3,cond_true] at hX4
           refine T.iE ?_
           cases hX4
           repeat first | refine T.iN ?_ | refine T.ng rfl ?_
           exact T.my (.exit 0) [.ret] 0 4 (i20_::i7_::i8_::i9_::(iD l1 lr1 (.exit 0) [.ret] (0 + 1))::t13_) (by rfl) rfl rfl (fun w' hh=>⟨_,rfl,⟨(0 + 1),x9,x10,x11,x12,x13,x14,x15,rfl,rfl,(hh.u)⟩⟩)
          rw [hc3,cond_false] at hX4
          refine T.gP ?_
          refine T.gR (T.gQ (T.k (pB b11 4) (T.l (vi e2.gone) (ld1 0) ?_)))
          refine T.k (.bool (e2.gone == 0)) (T.gN ?_)
          refine T.cb (e2.gone == 0) (fun hc4=>?_) (fun hc4=>?_)
          ·
           rw [hc4,cond_true] at hX4
           refine T.gR (T.gQ (T.l a34_ (ldN 0) ?_))
           let i21_:HObj:=box b3 28 v28_
           let t22_:List HObj:=i21_::i2_::G1
           refine T.gO (W1.st 7 v28_ (i20_::i7_::i8_::i9_::(kK l1 lr1)::(iu d1)::(box b4 4 [.bool x9])::t22_) v28_ ?_)
           refine T.gO (W1.st 6 [.bool true] (i20_::i7_::i8_::i9_::(kK l1 lr1)::(iu d1)::(box b4 4 [.bool true])::t22_) [.bool true] ?_)
           refine T.gN ?_
           cases hX4
           refine T.ii rfl ?_
           repeat first | refine T.py ?_ | refine T.oI ?_
           exact T.oH (.exit 0) [.ret] 1 4 (i20_::i7_::i8_::i9_::(iD l1 lr1 (.exit 0) [.ret] (1 + 1))::(iu d1)::(box b4 4 [.bool true])::t22_) (by rfl) rfl rfl (fun w' hh=>⟨_,rfl,⟨(1 + 1),true,e2.key.pfs,e2.key.obj,e2.key.off,e2.made,e2.gone,e2.val,rfl,rfl,(hh.u)⟩⟩)
          rw [hc4,cond_false] at hX4
          refine T.gP ?_
          cases hX4
          repeat first | refine T.jo ?_ | refine T.jB ?_
          exact T.kN (.exit 0) [.ret] 4 (i20_::t17_) (by rfl) rfl (fun w' hh=>⟨_,rfl,⟨0,x9,x10,x11,x12,x13,x14,x15,rfl,rfl,(hh.u)⟩⟩)
         rintro v w' ⟨k4,z36,z37,z38,z39,z40,z41,z42,rfl,rfl,hh⟩
         try dsimp only at hX3
         refine⟨V10,(i7_::i8_::i9_::(iD l1 lr1 (.exit 0) [.ret] k4)::(iu d1)::(box b4 4 [.bool z36])::(box b3 28 [vi z37,vi z38,vi z39,vi z40,vi z41,.string z42])::i2_::G1),hh,?_⟩
         clear hh
         cases k4 with
         | zero =>
          rw [iI] at hX3
          refine TI.a [9] ⟨?_,trivial⟩
          refine TI.br rfl (W1.iy (W1.l (.bool false) (fun _ _=>by kernel_rfl) ?_))
          refine TI.a [10] ⟨?_,trivial⟩
          refine TI.br rfl (W1.iy (W1.l (.bool false) (fun _ _=>by kernel_rfl) ?_))
          refine TI.d ?_
          cases hX3
          exact fun a w' hf hh=>⟨0,z36,z37,z38,z39,z40,z41,z42,rfl,V10,(vt hV9 hV10),(Fr.s hf),(hh.u)⟩
         | succ k5 =>
          rw [iQ] at hX3
          refine TI.a [9] ⟨?_,trivial⟩
          refine TI.br rfl (W1.iy (W1.l (.bool true) (fun _ _=>by kernel_rfl) ?_))
          refine TI.a [10] ⟨?_,trivial⟩
          refine TI.br rfl (W1.iy (W1.l (.bool true) (fun _ _=>by kernel_rfl) ?_))
          refine TI.d ?_
          cases hX3
          exact fun a w' hf hh=>⟨(k5 + 1),z36,z37,z38,z39,z40,z41,z42,rfl,V10,(vt hV9 hV10),(Fr.s hf),(hh.u)⟩
        refine TI.a [6,7] ⟨?_,?_,trivial⟩
        ·
         refine TI.br rfl (W1.iy (W1.l (.func (.yield l1) #[] #[]) (fun _ _=>by kernel_rfl) ?_))
         refine TI.a [7] ⟨?_,trivial⟩
         refine TI.br rfl (W1.iy (W1.l a34_ (ldN 0) ?_))
         exact TI.jz hD2 (by kernel_rfl) (fun a w' hf hh=>⟨(((((((((((Fr.nil hf).pick hf 33 rfl).pick hf 32 rfl).pick hf 31 rfl).pick hf 22 rfl).pick hf 21 rfl).pick hf 20 rfl).pick hf 9 rfl).pick hf 6 rfl).pick hf 4 rfl).pick hf 3 rfl),(hh.u)⟩)
        refine TI.br rfl (W1.iy (W1.l a34_ (ldN 0) ?_))
        refine TI.a [6] ⟨?_,trivial⟩
        refine TI.br rfl (W1.iy (W1.l (.func (.yield l1) #[] #[]) (fun _ _=>by kernel_rfl) ?_))
        exact TI.jz hD2 (by kernel_rfl) (fun a w' hf hh=>⟨(((((((((((Fr.nil hf).pick hf 33 rfl).pick hf 32 rfl).pick hf 31 rfl).pick hf 22 rfl).pick hf 21 rfl).pick hf 20 rfl).pick hf 9 rfl).pick hf 6 rfl).pick hf 4 rfl).pick hf 3 rfl),(hh.u)⟩)
       refine TI.a [0,2] ⟨?_,?_,trivial⟩
       ·
        refine TI.br rfl (W1.iy (W1.l a34_ (ldN 0) ?_))
        refine TI.a [1,2] ⟨?_,?_,trivial⟩
        ·
         refine TI.br rfl <| W1.iy (W1.w1 (vAg eSpot) r1 35 #[a34_] (fun w' hh=>iz e2 r1 hb3 w') ?_)
         intro u V8 hV8 hu
         obtain rfl:=iU _ _ _ hu
         refine TI.a [2] ⟨?_,trivial⟩
         refine TI.br rfl (W1.iy (W1.l a32_ (ldN 2) ?_))
         exact TI.jz hD1 (by kernel_rfl) (fun a w' hf hh=>⟨V8,hV8,(((((((((((Fr.nil hf).pick hf 28 rfl).pick hf 27 rfl).pick hf 22 rfl).pick hf 21 rfl).pick hf 20 rfl).pick hf 11 rfl).pick hf 9 rfl).pick hf 6 rfl).pick hf 4 rfl).pick hf 3 rfl),(hh.u)⟩)
        refine TI.br rfl (W1.iy (W1.l a32_ (ldN 2) ?_))
        refine TI.a [1] ⟨?_,trivial⟩
        refine TI.br rfl <| W1.iy (W1.w1 (vAg eSpot) r1 35 #[a34_] (fun w' hh=>iz e2 r1 hb3 w') ?_)
        intro u V8 hV8 hu
        obtain rfl:=iU _ _ _ hu
        exact TI.jz hD1 (by kernel_rfl) (fun a w' hf hh=>⟨V8,hV8,(((((((((((Fr.nil hf).pick hf 28 rfl).pick hf 27 rfl).pick hf 22 rfl).pick hf 21 rfl).pick hf 20 rfl).pick hf 11 rfl).pick hf 9 rfl).pick hf 6 rfl).pick hf 4 rfl).pick hf 3 rfl),(hh.u)⟩)
       refine TI.br rfl (W1.iy (W1.l a32_ (ldN 2) ?_))
       refine TI.a [0] ⟨?_,trivial⟩
       refine TI.br rfl (W1.iy (W1.l a34_ (ldN 0) ?_))
       refine TI.a [1] ⟨?_,trivial⟩
       refine TI.br rfl <| W1.iy (W1.w1 (vAg eSpot) r1 35 #[a34_] (fun w' hh=>iz e2 r1 hb3 w') ?_)
       intro u V8 hV8 hu
       obtain rfl:=iU _ _ _ hu
       exact TI.jz hD1 (by kernel_rfl) (fun a w' hf hh=>⟨V8,hV8,(((((((((((Fr.nil hf).pick hf 28 rfl).pick hf 27 rfl).pick hf 22 rfl).pick hf 21 rfl).pick hf 20 rfl).pick hf 11 rfl).pick hf 9 rfl).pick hf 6 rfl).pick hf 4 rfl).pick hf 3 rfl),(hh.u)⟩)
      rintro a w' ⟨k3,z29,z30,z31,z32,z33,z34,z35,rfl,V7,hV7,hf,hh⟩
      try dsimp only at hY1
      refine(?_:T 59 w V7 (i7_::i8_::i9_::(iD l1 lr1 (.exit 0) [.ret] k3)::(iu d1)::(box b4 4 [.bool z29])::(box b3 28 [vi z30,vi z31,vi z32,vi z33,vi z34,.string z35])::i2_::G1) [(3,.func (.yield l1) #[] #[]),(4,pB b7 0),(6,pB b8 0),(9,pB b9 0),(20,.slice A2 e1.elems.length c2),(21,vi (e1.elems.length:Int)),(22,vi x16),(36,.bool (!(isz k3)))] _) a w' hf hh
      clear hf hh
      cases k3 with
      | zero =>
       rw [iI] at hY1
       refine T.cb false (fun h=>Bool.noConfusion h) (fun _=>?_)
       refine T.gP ?_
       refine T.gQ (T.k2 (vi (IntKind.i64.wrap (x16 + 1))) (vi (IntKind.i64.wrap (x16 + 1))) (T.gN ?_))
       cases hY1
       exact fun a w' hf hh=>⟨(z29,z30,z31,z32,z33,z34,z35,IntKind.i64.wrap (x16 + 1)),rfl,z29,z30,z31,z32,z33,z34,z35,(IntKind.i64.wrap (x16 + 1)),rfl,V7,(vt hV5 hV7),(Fr.s hf),(hh.u)⟩
      | succ k6 =>
       rw [iQ] at hY1
       refine T.cb true (fun _=>?_) (fun h=>Bool.noConfusion h)
       refine T.gR (T.gQ (T.k (.bool false) (T.gN ?_)))
       cases hY1
       cases (hr2 _ rfl)
       try dsimp only at hS1
       have hres:=Option.some.inj hS1
       subst hres
       refine T.ii rfl ?_
       repeat first | refine T.ij ?_ | refine T.ig ?_
       exact T.ik rfl (rT rfl) fun w' hh=>⟨_,rfl,⟨(k6 + 1),z29,z30,z31,z32,z33,z34,z35,rfl,V7,(vt hV5 hV7),rfl,(hh.u)⟩⟩
     rw [hc2,cond_false] at hY1
     refine T.iE ?_
     cases hY1
     cases (hr2 _ rfl)
     exact fun a w' hf hh=>⟨x9,x10,x11,x12,x13,x14,x15,rfl,V5,hV5,(Fr.s hf),(hh.u)⟩
    rintro a w' ⟨z22,z23,z24,z25,z26,z27,z28,rfl,V6,hV6,hf,hh⟩
    try dsimp only at hS1
    refine(?_:T 59 w V6 (i7_::i8_::i9_::i6_::(iu d1)::(box b4 4 [.bool z22])::(box b3 28 [vi z23,vi z24,vi z25,vi z26,vi z27,.string z28])::i2_::G1) [(3,.func (.yield l1) #[] #[]),(4,pB b7 0),(6,pB b8 0),(9,pB b9 0)] _) a w' hf hh
    clear hf hh
    refine T.gR (T.gR (T.gQ (T.k (pB b9 0) (T.l (vi e1.kind) (ld1 0) ?_))))
    refine T.k (.bool (e1.kind == 1)) (T.gN ?_)
    refine T.cb (e1.kind == 1) (fun hc5=>?_) (fun hc5=>?_)
    ·
     rw [hc5,cond_true] at hS1
     refine T.gR (T.gQ (T.k (.bool true) (T.gN ?_)))
     have hres:=Option.some.inj hS1
     subst hres
     refine T.ii rfl ?_
     repeat first | refine T.ij ?_ | refine T.ig ?_
     exact T.ik rfl (rT rfl) fun w' hh=>⟨_,rfl,⟨0,z22,z23,z24,z25,z26,z27,z28,rfl,V6,hV6,rfl,(hh.u)⟩⟩
    rw [hc5,cond_false] at hS1
    refine T.gP ?_
    refine T.gR (T.gR ?_)
    refine T.jX (by kernel_rfl) (by kernel_rfl) ?_
    refine TQ.k (pB b9 2) ?_
    refine TQ.l (.slice A3 e1.kids.length c3) (ld1 0) ?_
    refine TQ.l a33_ (ldN 0) ?_
    refine TQ.l a32_ (ldN 1) ?_
    obtain⟨r3,hb5,hS1⟩:=ob hS1
    refine TQ.jG (vSc hO) r3 55 #[a33_,a32_] (vi r3) (fun V u hu=>ir V u _ hu) (by kernel_rfl) (fun _=>by kernel_rfl) (fun w' hh=>lF F e1 (DSpot.mk p1 0) r3 hb5 w' A2 c2 (ia.mono (ia.mono hs2 hV6) hh.view) A3 c3 (ia.mono (ia.mono hs3 hV6) hh.view) A4 c4 (ia.mono (ia.mono hs4 hV6) hh.view) A5 c5 (ia.mono (ia.mono hs5 hV6) hh.view)) ?_
    obtain⟨s2,hb6,hS1⟩:=ob hS1
    refine TQ.l (.slice (iM A3 c3 r3.toNat 1) s2.length (c3 - r3.toNat)) (fun w' hh=>je (e:=3) (s:=1) (lx:=(some _)) (hx:=none) (k:=.i64) (k':=.i64) rfl rfl (by kernel_rfl) (by kernel_rfl) ((ia.mono hs3 hV6)).1 rfl rfl hb6) ?_
    refine TQ.k (vi (s2.length:Int)) ?_
    refine TQ.k (vi 0) ?_
    refine TQ.jN ?_
    obtain⟨q7,hz3,hS1⟩:=ob hS1
    refine T.jf (fun a w'=>∃(z43:Bool) (z44:Int) (z45:Int) (z46:Int) (z47:Int) (z48:Int) (z49:ByteArray),q7=Sum.inl (z43,z44,z45,z46,z47,z48,z49)∧∃(V12:View),View.le V6 V12∧Fr 59 [] a∧Hp w V12 (i6_::(iu d1)::(box b4 4 [.bool z43])::(box b3 28 [vi z44,vi z45,vi z46,vi z47,vi z48,.string z49])::i2_::G1) w') ?_ ?_
    ·
     refine T.ic ?_
     refine T.jh (fun s3 a w'=>∃(x17:Bool) (x18:Int) (x19:Int) (x20:Int) (x21:Int) (x22:Int) (x23:ByteArray) (x24:Int),s3=(x17,x18,x19,x20,x21,x22,x23,x24)∧∃(A6:Option Addr) (c6:Nat) (V11:View),View.le V6 V11∧ia V11 hO A6 c6 s2∧Fr 59 [(3,.func (.yield l1) #[] #[]),(4,pB b7 0),(6,pB b8 0),(46,.slice A6 s2.length c6),(47,vi (s2.length:Int)),(48,vi x24)] a∧Hp w V11 (i8_::i9_::i6_::(iu d1)::(box b4 4 [.bool x17])::(box b3 28 [vi x18,vi x19,vi x20,vi x21,vi x22,.string x23])::i2_::G1) w') hz3 ?_ ?_
     ·
      exact fun a w' hf hh=>⟨z22,z23,z24,z25,z26,z27,z28,0,rfl,(iM A3 c3 r3.toNat 1),(c3 - r3.toNat),V6,vr,(ia.cut (ia.mono hs3 hV6) hb6),(Fr.s hf),(hh.u)⟩
     rintro s3 y2 hY2 hr3 a w' ⟨x17,x18,x19,x20,x21,x22,x23,x24,rfl,A6,c6,V11,hV11,hs6,hf,hh⟩
     refine(?_:T 59 w V11 (i8_::i9_::i6_::(iu d1)::(box b4 4 [.bool x17])::(box b3 28 [vi x18,vi x19,vi x20,vi x21,vi x22,.string x23])::i2_::G1) [(3,.func (.yield l1) #[] #[]),(4,pB b7 0),(6,pB b8 0),(46,.slice A6 s2.length c6),(47,vi (s2.length:Int)),(48,vi x24)] _) a w' hf hh
     clear hf hh
     try dsimp only at hY2
     refine T.gR (T.gQ (T.k (.bool (decide (x24 < (s2.length:Int)))) (T.gN (T.gR ?_))))
     refine T.cb (decide (x24 < (s2.length:Int))) (fun hc6=>?_) (fun hc6=>?_)
     ·
      rw [hc6,cond_true] at hY2
      refine T.gP ?_
      refine T.gR (T.ic (T.gR (T.gQ ?_)))
      obtain⟨e3,hb7,hY2⟩:=ob hY2
      obtain⟨hi7,hi8,hi9⟩:=iq hb7
      refine T.l (.pointer (some ((iC A6).add (x24.toNat * 1)))) (fun w' hh=>ib (e:=3) (s:=1) rfl rfl rfl (by kernel_rfl) (by kernel_rfl) hi7 hi8 (hs6.some_ hi9 (by decide))) ?_
      refine T.l (vi e3) (fun w' hh=>iB rfl rfl (by kernel_rfl) (hh.cell_view (ia.cellF0 (E:=hO) hs6 hi9 (fun _ _ _ h=>h) rfl))) ?_
      refine T.k (vi e3) (T.gN ?_)
      obtain⟨q8,hX5,hY2⟩:=ob hY2
      refine T.ji (fun a w'=>∃(k7:Nat) (z50:Bool) (z51:Int) (z52:Int) (z53:Int) (z54:Int) (z55:Int) (z56:ByteArray),q8=(k7,z50,z51,z52,z53,z54,z55,z56)∧∃(V13:View),View.le V11 V13∧Fr 59 [(3,.func (.yield l1) #[] #[]),(4,pB b7 0),(6,pB b8 0),(46,.slice A6 s2.length c6),(47,vi (s2.length:Int)),(48,vi x24),(57,.bool (!(isz k7)))] a∧Hp w V13 (i8_::i9_::(iD l1 lr1 (.exit 0) [.ret] k7)::(iu d1)::(box b4 4 [.bool z50])::(box b3 28 [vi z51,vi z52,vi z53,vi z54,vi z55,.string z56])::i2_::G1) w') ?_ ?_
      ·
       refine T.gQ (T.l a30_ (ldN 1) ?_)
       refine T.k (vi e3) (T.l a32_ (ldN 0) ?_)
       refine T.k (.func (.yield l1) #[] #[]) ?_
       obtain⟨q9,hz4,hX5⟩:=ob hX5
       refine T.gO (W1.cj (fun w' hh=>ih1 _ _ hz4 x17 x18 x19 x20 x21 x22 x23 e3 rfl V11 (i8_::i9_::G1) w' (vt (vt hV3 hV6) hV11) (hh.ix 7 [2,3,4,5,6,0,1])) ?_)
       rintro v w' ⟨z57,z58,z59,z60,z61,z62,z63,z64,rfl,V14,hV14,rfl,hh⟩
       try dsimp only at hX5
       refine⟨V14,(i8_::i9_::(iD l1 lr1 (.exit 0) [.ret] z57)::(iu d1)::(box b4 4 [.bool z58])::(box b3 28 [vi z59,vi z60,vi z61,vi z62,vi z63,.string z64])::i2_::G1),hh.ix 7 [5,6,0,1,2,3,4],?_⟩
       clear hh
       cases z57 with
       | zero =>
        rw [iI] at hX5
        refine T.k (.bool false) (T.gN ?_)
        cases hX5
        exact fun a w' hf hh=>⟨0,z58,z59,z60,z61,z62,z63,z64,rfl,V14,hV14,(Fr.s hf),(hh.u)⟩
       | succ k8 =>
        rw [iQ] at hX5
        refine T.k (.bool true) (T.gN ?_)
        cases hX5
        exact fun a w' hf hh=>⟨(k8 + 1),z58,z59,z60,z61,z62,z63,z64,rfl,V14,hV14,(Fr.s hf),(hh.u)⟩
      rintro a w' ⟨k7,z50,z51,z52,z53,z54,z55,z56,rfl,V13,hV13,hf,hh⟩
      try dsimp only at hY2
      refine(?_:T 59 w V13 (i8_::i9_::(iD l1 lr1 (.exit 0) [.ret] k7)::(iu d1)::(box b4 4 [.bool z50])::(box b3 28 [vi z51,vi z52,vi z53,vi z54,vi z55,.string z56])::i2_::G1) [(3,.func (.yield l1) #[] #[]),(4,pB b7 0),(6,pB b8 0),(46,.slice A6 s2.length c6),(47,vi (s2.length:Int)),(48,vi x24),(57,.bool (!(isz k7)))] _) a w' hf hh
      clear hf hh
      cases k7 with
      | zero =>
       rw [iI] at hY2
       refine T.cb false (fun h=>Bool.noConfusion h) (fun _=>?_)
       refine T.gP ?_
       refine T.gQ (T.k2 (vi (IntKind.i64.wrap (x24 + 1))) (vi (IntKind.i64.wrap (x24 + 1))) (T.gN ?_))
       cases hY2
       exact fun a w' hf hh=>⟨(z50,z51,z52,z53,z54,z55,z56,IntKind.i64.wrap (x24 + 1)),rfl,z50,z51,z52,z53,z54,z55,z56,(IntKind.i64.wrap (x24 + 1)),rfl,A6,c6,V13,(vt hV11 hV13),(ia.mono hs6 hV13),(Fr.s hf),(hh.u)⟩
      | succ k9 =>
       rw [iQ] at hY2
       refine T.cb true (fun _=>?_) (fun h=>Bool.noConfusion h)
       refine T.gR (T.gQ (T.k (.bool false) (T.gN ?_)))
       cases hY2
       cases (hr3 _ rfl)
       try dsimp only at hS1
       have hres:=Option.some.inj hS1
       subst hres
       refine T.ii rfl ?_
       repeat first | refine T.ij ?_ | refine T.ig ?_
       exact T.ik rfl (rT rfl) fun w' hh=>⟨_,rfl,⟨(k9 + 1),z50,z51,z52,z53,z54,z55,z56,rfl,V13,(vt (vt hV6 hV11) hV13),rfl,(hh.u)⟩⟩
     rw [hc6,cond_false] at hY2
     refine T.iE ?_
     cases hY2
     cases (hr3 _ rfl)
     exact fun a w' hf hh=>⟨x17,x18,x19,x20,x21,x22,x23,rfl,V11,hV11,(Fr.nil hf),(hh.u)⟩
    rintro a w' ⟨z43,z44,z45,z46,z47,z48,z49,rfl,V12,hV12,hf,hh⟩
    try dsimp only at hS1
    refine(?_:T 59 w V12 (i6_::(iu d1)::(box b4 4 [.bool z43])::(box b3 28 [vi z44,vi z45,vi z46,vi z47,vi z48,.string z49])::i2_::G1) [] _) a w' hf hh
    clear hf hh
    refine T.gR (T.gQ (T.k (.bool true) (T.gN ?_)))
    have hres:=Option.some.inj hS1
    subst hres
    refine T.ii rfl ?_
    repeat first | refine T.ij ?_ | refine T.ig ?_
    exact T.ik rfl (rT rfl) fun w' hh=>⟨_,rfl,⟨0,z43,z44,z45,z46,z47,z48,z49,rfl,V12,(vt hV6 hV12),rfl,(hh.u)⟩⟩
   refine T.gO (W1.cj (fun w' hh=>hq1 false 0 0 0 0 0 (ByteArray.mk #[]) p0.root rfl (vw w) (i4_::i5_::i3_::[]) w' vr (hh.ix 7 [0,1,4,5,6,2,3])) ?_)
   rintro v w' ⟨z65,z66,z67,z68,z69,z70,z71,z72,rfl,V15,hV15,rfl,hh⟩
   try dsimp only at hX2
   refine⟨V15,[iD l1 lr1 (.exit 0) [.ret] z65,iu d1,box b6 36 v26_,box b5 24 v23_,box b4 4 [.bool z66],box b3 28 [vi z67,vi z68,vi z69,vi z70,vi z71,.string z72],box b2 26 v24_,box b1 24 v23_],hh.ix 7 [0,1,5,6,2,3,4],?_⟩
   clear hh
   cases z65 with
   | zero =>
    rw [iI] at hX2
    refine T.gN ?_
    cases hX2
    repeat first | refine T.jo ?_ | refine T.jB ?_
    exact T.jD rfl (fun w' hh=>⟨_,rfl,⟨0,z66,z67,z68,z69,z70,z71,z72,rfl,V15,hV15,(hh.u)⟩⟩)
   | succ k10 =>
    rw [iQ] at hX2
    refine T.gN ?_
    cases hX2
    repeat first | refine T.jo ?_ | refine T.jB ?_
    exact T.jD rfl (fun w' hh=>⟨_,rfl,⟨(k10 + 1),z66,z67,z68,z69,z70,z71,z72,rfl,V15,hV15,(hh.u)⟩⟩)
  rintro l1 d1 lr1 w' ⟨k1,z8,z9,z10,z11,z12,z13,z14,rfl,V2,hV2,hh⟩
  try dsimp only at hX1
  let v29_:List Value:=[vi z9,vi z10,vi z11,vi z12,vi z13,.string z14]
  refine⟨V2,[iu d1,box b4 4 [.bool z8],box b3 28 v29_],k1,hh,?_⟩
  clear hh
  cases k1 with
  | zero =>
   rw [iI] at hX1
   rw [iI]
   cases hX1
   exact fun a w' hf hh=>⟨z8,z9,z10,z11,z12,z13,z14,rfl,d1,V2,hV2,(Fr.s hf),(hh.u)⟩
  | succ k11 =>
   rw [iQ] at hX1
   rw [iQ]
   cases k11 with
   | zero =>
    rw [iI] at hX1
    rw [pF]
    refine T.iE ?_
    cases hX1
    exact fun a w' hf hh=>⟨z8,z9,z10,z11,z12,z13,z14,rfl,d1,V2,hV2,(Fr.s hf),(hh.u)⟩
   | succ k12 =>
    rw [iQ] at hX1
    rw [pE]
    rw [ph]
    cases hX1
    try dsimp only at hF
    cases hF
    refine T.ii rfl ?_
    refine T.jU ((box b4 4 [.bool z8])::(box b3 28 v29_)::[]) [d1] (fun w' hh=>hh.u) ?_
    exact T.jy rfl (rN 1) (kI.cell1 0 rfl (by rfl) (fun _=>by kernel_rfl)) fun w' hh=>⟨_,rfl,hh.below,(vT2.mk (vAg.mk rfl) (show _ from rfl))⟩
 rintro a w' ⟨z1,z2,z3,z4,z5,z6,z7,rfl,d1,V1,hV1,hf,hh⟩
 try dsimp only at hF
 refine(?_:T ⟨21,[d1]⟩ w V1 [iu d1,box b4 4 [.bool z1],box b3 28 [vi z2,vi z3,vi z4,vi z5,vi z6,.string z7]] [(4,pB b3 0),(5,pB b4 0)] _) a w' hf hh
 clear hf hh
 refine T.gR (T.gQ (T.k (.agg #[vi 0,vi 0,vi 0,vi 0,vi 0,.string (ByteArray.mk #[])]) (T.gO (W1.st 2 v25_ [iu d1,box b4 4 [.bool z1],box b3 28 v25_] v25_ ?_))))
 refine T.gO (W1.st 1 [.bool false] [iu d1,box b4 4 [.bool false],box b3 28 v25_] [.bool false] ?_)
 refine T.gN ?_
 cases hF
 refine T.ii rfl ?_
 refine T.jU ((box b4 4 [.bool false])::(box b3 28 v25_)::[]) [d1] (fun w' hh=>hh.u) ?_
 exact T.jy rfl (rN 1) (kI.cell1 0 rfl (by rfl) (fun _=>by kernel_rfl)) fun w' hh=>⟨_,rfl,hh.below,(vT2.mk (vAg.mk rfl) (show _ from rfl))⟩
theorem nL (F:Nat) (f:DTree) (c:Int) (r:Bool) (q:mt F f c=some r) (w:World) (m:Option Addr) (o:Nat) (L:ia (vw w) j9 m o f.nodes) :
 Calls Tryz.prog 31 #[.agg #[.int .i64 f.root,.slice m f.nodes.length o],.int .i64 c] w (ko (vSc eBool) r w):=by
 unfold mt at q;refine T.iV (l:=[.agg #[vi f.root,sl m f.nodes o],vi c]) Tryz.func31 rfl rfl rfl ?_;refine T.sr (T.gO (W1.np 24 [vi f.root,sl m f.nodes o] (fun C=>(T.k (.bool false) (T.gN ?_)))));obtain⟨z1,d,q⟩:=ob q;refine T.ji (fun a g=>∃(t:View),View.le (vw w) t∧Fr 22 [(4,.bool z1)] a∧Hp w t [] g) ?_ ?_;refine T.gQ (T.k3 (vi c) (.bool (decide (c < 1))) (.bool (decide (c < 1))) ?_);cases I:decide (c < 1);rw [I,cond_false] at d
 refine T.k4 (vi c) (.bool (decide ((2147483647:Int) < c))) (.bool (decide ((2147483647:Int) < c))) (.bool (decide ((2147483647:Int) < c))) ?_;cases J:decide ((2147483647:Int) < c);rw [J,cond_false] at d;refine T.k2 (vi c) (pB C 1) (T.l (sl m f.nodes o) (ld1 0) (T.k (pB C 0) (T.l (vi f.root) (ld1 0) ?_)));obtain⟨n,O,d⟩:=ob d;obtain⟨R,S,K⟩:=iq O;obtain⟨ab,U,Q⟩:=ia.elem L K;obtain⟨v,D,x,E,y,G,A,H,rfl,V,W,X,Y⟩:=U
 refine T.l (.pointer (some ((iC m).add (f.root.toNat * 5)))) (fun g b=>ib (e:=55) (s:=5) rfl rfl rfl (by kernel_rfl) (by kernel_rfl) R S (L.some_ K (by decide))) ?_;let B:Value:=.agg #[vi n.kind,sl v n.elems D,sl x n.kids E,sl y n.seps G,sl A n.tids H];refine T.l B (fun g b=>lN (fun j u hj=>b.cell_view (View.cell_mono vr (Q j u hj).2))) ?_;obtain⟨p,P,d⟩:=ob d
 refine T.gO (W1.w1 (vSc hO) p 54 #[B] (fun g b=>iw F n p P g v D (ia.mono V b.view) x E (ia.mono W b.view) y G (ia.mono X b.view) A H (ia.mono Y b.view)) ?_);intro u M N Z;obtain rfl:=ir _ _ _ Z;refine T.k3 (.bool (decide (c < p))) (.bool (decide (c < p))) (.bool (decide (c < p))) (T.gN ?_);cases d;exact fun a g h b=>⟨M,N,(Fr.s h),(b.u)⟩;rw [J,cond_true] at d;refine T.z (T.z (T.z (T.z (T.z (T.z (T.z (T.z (T.z (T.k2 (.bool true) (.bool true) (T.gN ?_))))))))));cases d
 exact fun a g h b=>⟨(vw w),vr,(Fr.s h),(b.u)⟩;rw [I,cond_true] at d;refine T.z (T.z (T.k2 (.bool true) (.bool true) (T.z (T.z (T.z (T.z (T.z (T.z (T.z (T.z (T.z (T.k2 (.bool true) (.bool true) (T.gN ?_)))))))))))));cases d;exact fun a g h b=>⟨(vw w),vr,(Fr.s h),(b.u)⟩;rintro a g ⟨t,ac,h,b⟩;revert h b;refine T.i ?_;cases q;refine T.ii rfl ?_;exact T.ik rfl (rT rfl) fun g b=>⟨_,rfl,b.below,(show _ from rfl)⟩
theorem pU (F:Nat) (B:DTree) (r:Bool) (hF:nu F B=some r) (w:World) (M:Option Addr) (V:Nat) (az:ia (vw w) j9 M V B.nodes) :
 Calls Tryz.prog 33 #[.agg #[.int .i64 B.root,.slice M B.nodes.length V]] w (ko (vSc eBool) r w):=by
 unfold nu at hF;let ai:Value:=.agg #[vi B.root,sl M B.nodes V];refine T.lZ (l:=[ai]) Tryz.func33 rfl rfl rfl ?_;refine T.sr ?_;let N:=[vi B.root,sl M B.nodes V];refine T.gO (W1.np 24 N (fun b1=>(T.k (.bool false) (T.gN (T.sr (T.gO (W1.np 3 [vi 0] (fun t=>?_))))))));let aC:=box b1 24 N;let ag:=(box t 3 [vi 0])::aC::[]
 refine T.gO (W1.st 0 [vi 0] ag [vi 0] (T.gN (T.gR (T.sr (T.l ai (ldN 1) (T.gO (W1.jw 38 [ai] (fun v d=>∃(f:Nat) (m:Nat),v = .func (.func 62) #[] #[pB f 0,pB m 0]∧Hp w (vw w) ((box f 106 [.func (.func 61) #[] #[pB m 0,pB f 0]])::(box m 24 N)::ag) d) Tryz.func38 rfl rfl (by kernel_rfl) (fun _=>by kernel_rfl) rfl ?_ ?_)))))))
 refine T.sr (T.gO (W1.np 24 N (fun m=>(T.k (.nilFunc) (T.gN (T.sr (T.gO (W1.np 106 [.nilFunc] (fun f=>(T.gN (T.sr (T.k (.func (.func 61) #[] #[pB m 0,pB f 0]) (T.gO (W1.st 0 [.func (.func 61) #[] #[pB m 0,pB f 0]] ((box f 106 [.func (.func 61) #[] #[pB m 0,pB f 0]])::(box m 24 N)::ag) [.func (.func 61) #[] #[pB m 0,pB f 0]] (T.gN (T.sr (T.k2 (.func (.func 62) #[] #[pB f 0,pB m 0]) (.func (.func 62) #[] #[pB f 0,pB m 0]) (T.gN ?_))))))))))))))))));refine T.ii rfl ?_;exact T.ik rfl (rT rfl) fun d b=>⟨_,rfl,⟨f,m,rfl,(b.u)⟩⟩
 rintro v d ⟨f,m,rfl,b⟩;let C:=box f 106 [.func (.func 61) #[] #[pB m 0,pB f 0]];let D:=box m 24 N;refine⟨(vw w),(C::D::ag),b,?_⟩;clear b;refine T.gN (T.ic ?_);obtain⟨P,ae,hF⟩:=ob hF;refine T.mO (gf:=62) (lb:=[pB f 0,pB m 0]) .skip [] (fun g p q d=>∃(Y:View),View.le (vw w) Y∧Hp w Y [iD g q .skip [] 0,iu p,box t 3 [vi P]] d) (by kernel_rfl) (by kernel_rfl) (fun _ _=>by kernel_rfl) ?_ ?_;intro g p q a4 a5 a6 a7 w1 b
 refine T.iF (l:=[.func (.yield g) #[] #[],pB f 0,pB m 0]) Tryz.func62 rfl rfl rfl ?_ b;clear b;refine T.gQ (T.l (.func (.func 61) #[] #[pB m 0,pB f 0]) (ld1 2) (T.k (pB m 0) (T.l (vi B.root) (ld1 3) (T.k (.func (.yield g) #[] #[]) ?_))));obtain⟨q1,bc,ae⟩:=ob ae
 refine(have a8:=kQ (fun (s_:Int × Int) (r_:Int)=>∀(X:Int) (O:Int),s_=(X,O)→∀(z:View) (y:List HObj) (w1:World),View.le (vw w) z→Hp w z ((iD g q .skip [] 0)::(iu p)::C::D::(box t 3 [vi X])::y) w1→Calls Tryz.prog 61 #[vi O,.func (.yield g) #[] #[],pB m 0,pB f 0] w1 (fun e w2=>∃ v,e = .returned v∧∃(z2:Int),r_=z2∧∃(V3:View),View.le z V3∧v = .bool true∧Hp w V3 ((iD g q .skip [] 0)::(iu p)::C::D::(box t 3 [vi z2])::y) w2)) bc ?_;?_)
 rintro bu bh s_ r_ J X O rfl z y w1 aj b;(try dsimp only at J);refine T.iF (l:=[vi O,.func (.yield g) #[] #[],pB m 0,pB f 0]) Tryz.func61 rfl rfl rfl ?_ b;clear b;refine T.sr (T.k (.bool false) (T.gN (T.sr (T.k (pB m 1) (T.l (sl M B.nodes V) (ld1 3) (T.k (vi O) ?_))))));obtain⟨n,aS,J⟩:=ob J;obtain⟨aY,aZ,aw⟩:=iq aS;obtain⟨bp,a9,aV⟩:=ia.elem (ia.mono az aj) aw;obtain⟨Q,c2,R,c3,A4,c4,A5,c5,rfl,aA,aB,br,bs⟩:=a9
 refine T.l (.pointer (some ((iC M).add (O.toNat * 5)))) (fun d b=>ib (e:=55) (s:=5) rfl rfl rfl (by kernel_rfl) (by kernel_rfl) aY aZ ((ia.mono az aj).some_ aw (by decide))) ?_;let al:=[vi n.kind,sl Q n.elems c2,sl R n.kids c3,sl A4 n.seps c4,sl A5 n.tids c5];refine T.l (.agg #[vi n.kind,sl Q n.elems c2,sl R n.kids c3,sl A4 n.seps c4,sl A5 n.tids c5]) (fun d b=>lN (fun j u hj=>b.cell_view (View.cell_mono vr (aV j u hj).2))) (T.gO (W1.np 55 [vi 0,sN,sN,sN,sN] (fun U=>?_)));let L:=box U 55 al
 refine T.gO (W1.st 0 al (L::(iD g q .skip [] 0)::(iu p)::C::D::(box t 3 [vi X])::y) al (T.gN (T.gR (T.sr (T.k (pB U 1) (T.l (sl Q n.elems c2) (ld1 0) (T.k2 (vi (n.elems.length:Int)) (vi 0) (T.gN ?_))))))));obtain⟨z3,bd,J⟩:=ob J;refine T.jf (fun a d=>Fr 42 [(1,.func (.yield g) #[] #[]),(3,pB f 0),(7,pB U 0)] a∧Hp w z (L::(iD g q .skip [] 0)::(iu p)::C::D::(box t 3 [vi z3])::y) d) ?_ ?_;refine T.ic ?_
 refine T.jh (fun s1 a d=>∃(G:Int) (H:Int),s1=(G,H)∧Fr 42 [(1,.func (.yield g) #[] #[]),(3,pB f 0),(7,pB U 0),(18,sl Q n.elems c2),(19,vi (n.elems.length:Int)),(20,vi H)] a∧Hp w z (L::(iD g q .skip [] 0)::(iu p)::C::D::(box t 3 [vi G])::y) d) bd ?_ ?_;exact fun a d o b=>⟨X,0,rfl,(Fr.s o),(b.u)⟩;rintro s1 y1 K ba a d ⟨G,H,rfl,o,b⟩;let bi:=D::(box t 3 [vi G])::y;let bj:=C::bi;let aF:=(iu p)::bj;revert o b;refine T.i ?_;(try dsimp only at K)
 refine T.sr (T.k (.bool (decide (H < (n.elems.length:Int)))) (T.gN (T.gR ?_)));revert K;refine T.c (fun aW K=>?_) (fun aW K=>?_);refine T.gP (T.gR (T.ic (T.sr ?_)));obtain⟨x,aT,K⟩:=ob K;obtain⟨a0,a1,ax⟩:=iq aT;refine T.l (.pointer (some ((iC Q).add (H.toNat * 6)))) (fun d b=>ib (e:=28) (s:=6) rfl rfl rfl (by kernel_rfl) (by kernel_rfl) a0 a1 (aA.some_ ax (by decide))) ?_;let am:=[vi x.key.pfs,vi x.key.obj,vi x.key.off,vi x.made,vi x.gone,.string x.val]
 let ar:Value:=.agg #[vi x.key.pfs,vi x.key.obj,vi x.key.off,vi x.made,vi x.gone,.string x.val];refine T.l ar (fun d b=>lN (fun j u hj=>(b.cell_view (ia.cellF (E:=eElem) aA ax j (fun _ _ _ h=>h) hj)))) (T.gO (W1.np 28 [vi 0,vi 0,vi 0,vi 0,vi 0,.string (ByteArray.mk #[])] (fun b6=>?_)));let af:=box b6 28 am;refine T.gO (W1.st 0 am (af::L::(iD g q .skip [] 0)::aF) am (T.gN (T.sr (T.k (.func (.yield g) #[] #[]) (T.l ar (ldN 0) ?_)))));let an:=[vi (i64.wrap (G + 1))];let bg:=box t 3 an
 let bk:=D::bg::y;let bl:=C::bk;let aG:=(iu p)::bl;let bm:=(iD g q .skip [] 0)::aG;let bn:=L::bm;let ak:=af::bn;refine T.oB (W1R.lu 2 g (fun v d=>v = .bool true∧Hp w z ak d) (by rfl) a4 a5 a6 a7 (by rfl) (by kernel_rfl) rfl (by kernel_rfl) rfl ?_ ?_);refine T.gP ?_;refine T.jo ?_;refine T.mN 2 (af::L::(kK g q)::aF) (by rfl) rfl ?_
 refine T.ic (T.gQ (T.l (vi G) (ld1 6) (T.k (vi (i64.wrap (G + 1))) (T.gO (W1.st 6 an (af::L::(kK g q)::aG) an (T.gN ?_))))));(repeat first | refine T.jo ?_ | refine T.jB ?_);exact T.kN .skip [] 2 ak (by rfl) rfl (fun d b=>⟨_,rfl,⟨rfl,(b.u)⟩⟩);rintro v d ⟨rfl,b⟩;refine⟨z,ak,b,?_⟩;clear b;refine T.k (.bool false) (T.gN (T.cb false (fun h=>Bool.noConfusion h) (fun _=>(T.gP (T.gQ (T.k2 (vi (i64.wrap (H + 1))) (vi (i64.wrap (H + 1))) (T.gN ?_)))))));cases K
 exact fun a d o b=>⟨(i64.wrap (G + 1),i64.wrap (H + 1)),rfl,(i64.wrap (G + 1)),(i64.wrap (H + 1)),rfl,(Fr.s o),(b.u)⟩;refine T.iE ?_;cases K;cases (ba _ rfl);exact fun a d o b=>⟨(Fr.s o),(b.u)⟩;rintro a d ⟨o,b⟩;revert o b;refine T.i ?_;refine T.gR (T.sr (T.k (pB U 2) (T.l (sl R n.kids c3) (ld1 0) (T.k2 (vi (n.kids.length:Int)) (vi 0) (T.gN ?_)))));obtain⟨z4,be,J⟩:=ob J;refine T.jf (fun a d=>∃(Z:View),View.le z Z∧Fr 42 [] a∧Hp w Z ((iD g q .skip [] 0)::(iu p)::C::D::(box t 3 [vi z4])::y) d) ?_ ?_
 refine T.ic ?_;refine T.jh (fun s2 a d=>∃(x5:Int) (I:Int),s2=(x5,I)∧∃(S:View),View.le z S∧Fr 42 [(1,.func (.yield g) #[] #[]),(3,pB f 0),(30,sl R n.kids c3),(31,vi (n.kids.length:Int)),(32,vi I)] a∧Hp w S ((iD g q .skip [] 0)::(iu p)::C::D::(box t 3 [vi x5])::y) d) be ?_ ?_;exact fun a d o b=>⟨z3,0,rfl,z,vr,(Fr.s o),(b.u)⟩;rintro s2 y2 A bb a d ⟨x5,I,rfl,S,W,o,b⟩;revert o b;refine T.i ?_;(try dsimp only at A)
 refine T.sr (T.k (.bool (decide (I < (n.kids.length:Int)))) (T.gN (T.gR ?_)));revert A;refine T.c (fun aX A=>?_) (fun aX A=>?_);refine T.gP (T.gR (T.ic (T.sr ?_)));obtain⟨e3,aU,A⟩:=ob A;obtain⟨a2,a3,ay⟩:=iq aU
 refine T.l (.pointer (some ((iC R).add (I.toNat * 1)))) (fun d b=>ib (e:=3) (s:=1) rfl rfl rfl (by kernel_rfl) (by kernel_rfl) a2 a3 ((ia.mono aB W).some_ ay (by decide))) (T.l (vi e3) (fun d b=>iB rfl rfl (by kernel_rfl) (b.cell_view (ia.cellF0 (E:=hO) (ia.mono aB W) ay (fun _ _ _ h=>h) rfl))) (T.k (vi e3) (T.gN (T.sr (T.l (.func (.func 61) #[] #[pB m 0,pB f 0]) (ld1 2) (T.k2 (vi e3) (.func (.yield g) #[] #[]) ?_))))));obtain⟨z5,bf,A⟩:=ob A
 refine T.gO (W1.cj (fun d b=>bh _ _ bf x5 e3 rfl S y d (vt aj W) (b.u)) ?_);rintro v d ⟨z5x,rfl,V6,aQ,rfl,b⟩;(try dsimp only at A);refine⟨_,_,b,?_⟩;clear b;refine T.k (.bool false) (T.gN (T.cb false (fun h=>Bool.noConfusion h) (fun _=>(T.gP (T.gQ (T.k2 (vi (i64.wrap (I + 1))) (vi (i64.wrap (I + 1))) (T.gN ?_)))))));cases A;exact fun a d o b=>⟨(z5,i64.wrap (I + 1)),rfl,z5,(i64.wrap (I + 1)),rfl,V6,(vt W aQ),(Fr.s o),(b.u)⟩;refine T.iE ?_;cases A;cases (bb _ rfl);exact fun a d o b=>⟨S,W,(Fr.nil o),(b.u)⟩
 rintro a d ⟨Z,aP,o,b⟩;revert o b;refine T.i ?_;refine T.sr (T.k (.bool true) (T.gN ?_));have hres:=Option.some.inj J;subst hres;refine T.ii rfl ?_;(repeat first | refine T.ij ?_ | refine T.ig ?_);exact T.ik rfl (rT rfl) fun d b=>⟨_,rfl,⟨z4,rfl,Z,aP,rfl,(b.u)⟩⟩;refine T.gO (W1.cj (fun d b=>a8 0 B.root rfl (vw w) (aC::[]) d vr (b.u)) ?_);rintro v d ⟨q1x,rfl,V7,aR,rfl,b⟩;(try dsimp only at ae);refine⟨_,_,b,?_⟩;clear b;refine T.gN ?_;cases ae;(repeat first | refine T.jo ?_ | refine T.jB ?_)
 exact T.jD rfl (fun d b=>⟨_,rfl,⟨V7,aR,(b.u)⟩⟩);rintro g p q d ⟨Y,bq,b⟩;refine⟨Y,[iu p,box t 3 [vi P]],0,b,?_⟩;clear b;rw [iI];refine T.sr (T.l (vi P) (ld1 1) (T.k2 (.bool (decide ((400:Int)≤P))) (.bool (decide ((400:Int)≤P))) (T.gN ?_)));cases hF;refine T.ii rfl ?_;refine T.jU ((box t 3 [vi P])::[]) [p] (fun d b=>b.u) ?_;exact T.ik rfl (rT rfl) fun d b=>⟨_,rfl,b.below,(show _ from rfl)⟩
end Go.Proofs.YtfbpiogbhkgieaaGreat
