/- The Go functions of group WrH compute its pure functions, where these yield a result. -/
import Derived.Test.YtaoocidchclpnaaGreatZY
import Derived.Test.YtaoocidchclpnaaGreatShAY
import Derived.Test.YtaoocidchclpnaaGreatCpFY
import Derived.Test.YtaoocidchclpnaaGreatCpLY
import Derived.Test.YtaoocidchclpnaaGreatRangeY
import Derived.Test.YtaoocidchclpnaaGreatClearY
import Derived.Test.YtaoocidchclpnaaGreatWrHFY
import Derived.Test.YtaoocidchclpnaaGreatEqLY
open Bool renaming noConfusion→a_
open Option renaming some→d_
open ByteArray renaming mk→f_
namespace Go.Proofs.YtaoocidchclpnaaGreat
open IntKind (i64)
set_option maxRecDepth 100000
set_option maxHeartbeats 4000000
set_option linter.unusedVariables false
theorem pm (F:Nat) (p0:DTree) (p1:DKey) (r:DElem × Bool) (hF:nL F p0 p1=some r) (w:World) (A1:Option Addr) (c1:Nat) (hs1:hJ (vw w) iH A1 c1 p0.nodes) :
 Calls Tryz.prog 48 #[.agg #[.int .i64 p0.root,.slice A1 p0.nodes.length c1],.agg #[.int .i64 p1.pfs,.int .i64 p1.obj,.int .i64 p1.off]] w (jB (vT2 (vAg eElem) (vSc eBool)) r w):=by
 unfold nL at hF
 let a26_:Value:=.agg #[vi p0.root,.slice A1 p0.nodes.length c1]
 refine T.pC (l:=[a26_,.agg #[vi p1.pfs,vi p1.obj,vi p1.off]]) Tryz.func48 rfl rfl rfl ?_
 refine au1 ?_
 refine T.N1 fun b1=>?_
 refine T.N1 fun b2=>?_
 refine T.N1 fun b3=>?_
 refine T.N1 fun b4=>?_
 refine au0 ?_
 obtain⟨q1,hX1,hF⟩:=ob hF
 refine T.iF (fun a w'=>∃(z1:Bool) (z2:Int) (z3:Int) (z4:Int) (z5:Int) (z6:Int) (z7:ByteArray),q1=Sum.inl (z1,z2,z3,z4,z5,z6,z7)∧∃d1 V1,View.le (vw w) V1∧Fr ⟨21,[d1]⟩ [(4,pB b3 0),(5,pB b4 0)] a∧Hp w V1 [jn d1,box b4 4 [.bool z1],box b3 52 [vi z2,vi z3,vi z4,vi z5,vi z6,.string z7]] w') ?_ ?_
 ·
  refine au1 ?_
  let i1_:HObj:=box b3 52 [vi 0,vi 0,vi 0,vi 0,vi 0,.string (f_ #[])]
  let v20_:List Value:=[vi p1.pfs,vi p1.obj,vi p1.off]
  let i2_:HObj:=box b2 31 v20_
  let v21_:List Value:=[vi p0.root,.slice A1 p0.nodes.length c1]
  let i3_:HObj:=box b1 56 v21_
  let v22_:List Value:=[vi p1.pfs,vi p1.obj,vi p1.off,vi 0]
  let a27_:Value:=.agg #[vi p1.pfs,vi p1.obj,vi p1.off,vi 0]
  refine T.ia (W1.iq 78 [a26_,a27_] (fun v w'=>∃b6 b5,v = .func (.func 95) #[] #[pB b5 0,pB b6 0]∧Hp w (vw w) ((box b6 96 v22_)::(box b5 56 v21_)::(box b4 4 [.bool false])::i1_::i2_::i3_::[]) w') Tryz.func78 rfl rfl k_ (fun _=>k_) rfl ?_ ?_)
  ·
   refine au1 ?_
   refine T.N1 fun b5=>?_
   refine T.N1 fun b6=>?_
   refine au1 ?_
   exact il
  rintro v w' ⟨b6,b5,rfl,hh⟩
  let i4_:HObj:=box b6 96 v22_
  let i5_:HObj:=box b5 56 v21_
  refine⟨(vw w),(i4_::i5_::(box b4 4 [.bool false])::i1_::i2_::i3_::[]),hh,?_⟩
  clear hh
  refine au1 ?_
  obtain⟨q2,hX2,hX1⟩:=ob hX1
  refine T.qo (gf:=95) (lb:=[pB b5 0,pB b6 0]) (.exit 0) [.ret] (fun l1 d1 lr1 w'=>∃(k1:_) (z8:Bool) (z9:Int) (z10:Int) (z11:Int) (z12:Int) (z13:Int) (z14:ByteArray),q2=(k1,z8,z9,z10,z11,z12,z13,z14)∧∃V2,View.le (vw w) V2∧Hp w V2 [jH l1 lr1 (.exit 0) [.ret] k1,jn d1,box b4 4 [.bool z8],box b3 52 [vi z9,vi z10,vi z11,vi z12,vi z13,.string z14]] w') k_ k_ (fun _ _=>by kernel_rfl) ?_ ?_
  ·
   intro l1 d1 lr1 hl1 hl2 hl3 hl4 w1 hh
   refine T.iZ (l:=[.func (.yield l1) #[] #[],pB b5 0,pB b6 0]) Tryz.func95 rfl rfl rfl ?_ hh
   clear hh
   refine au1 ?_
   obtain⟨q3,hz1,hX2⟩:=ob hX2
   let i6_:HObj:=jH l1 lr1 (.exit 0) [.ret] 0
   refine(have hq1:=mn (fun (s_:Bool × Int × Int × Int × Int × Int × ByteArray × Int) (r_:Nat × Bool × Int × Int × Int × Int × Int × ByteArray)=>∀(x1:Bool) (x2:Int) (x3:Int) (x4:Int) (x5:Int) (x6:Int) (x7:ByteArray) (x8:Int),s_=(x1,x2,x3,x4,x5,x6,x7,x8)→∀(V3:View) (G1:List HObj) (w1:World),View.le (vw w) V3→Hp w V3 (i6_::(jn d1)::(box b4 4 [.bool x1])::(box b3 52 [vi x2,vi x3,vi x4,vi x5,vi x6,.string x7])::i2_::G1) w1→Calls Tryz.prog 96 #[a26_,vi x8,a27_,.func (.yield l1) #[] #[]] w1 (fun e w2=>∃ v,e = .returned v∧∃(k2:_) (z15:Bool) (z16:Int) (z17:Int) (z18:Int) (z19:Int) (z20:Int) (z21:ByteArray),r_=(k2,z15,z16,z17,z18,z19,z20,z21)∧∃V4,View.le V3 V4∧v = .bool (isz k2)∧Hp w V4 ((jH l1 lr1 (.exit 0) [.ret] k2)::(jn d1)::(box b4 4 [.bool z15])::(box b3 52 [vi z16,vi z17,vi z18,vi z19,vi z20,.string z21])::i2_::G1) w2)) hz1 ?_;?_)
   ·
    rintro rf1 ih1 s_ r_ hS1 x1 x2 x3 x4 x5 x6 x7 x8 rfl V3 G1 w1 hV3 hh
    try dsimp only at hS1
    refine T.iZ (l:=[a26_,vi x8,a27_,.func (.yield l1) #[] #[]]) Tryz.func96 rfl rfl rfl ?_ hh
    clear hh
    refine au1 ?_
    refine T.N1 fun b7=>?_
    refine T.N1 fun b8=>?_
    refine au1 ?_
    obtain⟨e1,hb1,hS1⟩:=ob hS1
    obtain⟨hi1,hi2,hi3⟩:=ig hb1
    obtain⟨cs1,hr1,hc1⟩:=hJ.elem (hJ.mono hs1 hV3) hi3
    obtain⟨A2,c2,A3,c3,A4,c4,A5,c5,rfl,hs2,hs3,hs4,hs5⟩:=hr1
    refine T.l (.pointer (some ((iy A1).add (x8.toNat * 5)))) (fun w' hh=>ib (e:=64) (s:=5) rfl rfl rfl k_ k_ hi1 hi2 ((hJ.mono hs1 hV3).some_ hi3 (by decide))) ?_
    let v23_:List Value:=[vi e1.kind,.slice A2 e1.elems.length c2,.slice A3 e1.kids.length c3,.slice A4 e1.seps.length c4,.slice A5 e1.tids.length c5]
    let a28_:Value:=.agg #[vi e1.kind,.slice A2 e1.elems.length c2,.slice A3 e1.kids.length c3,.slice A4 e1.seps.length c4,.slice A5 e1.tids.length c5]
    refine T.l a28_ (fun w' hh=>lN (fun j u hj=>hh.cell_view (View.cell_mono vr (hc1 j u hj).2))) ?_
    refine T.N1 fun b9=>?_
    refine au2 ?_
    obtain⟨q4,hz2,hS1⟩:=ob hS1
    let i7_:HObj:=box b9 64 v23_
    let i8_:HObj:=box b8 96 v22_
    let i9_:HObj:=box b7 56 v21_
    refine T.iK (fun a w'=>∃(z22:Bool) (z23:Int) (z24:Int) (z25:Int) (z26:Int) (z27:Int) (z28:ByteArray),q4=Sum.inl (z22,z23,z24,z25,z26,z27,z28)∧∃V6,View.le V3 V6∧Fr 59 [(3,.func (.yield l1) #[] #[]),(4,pB b7 0),(6,pB b8 0),(9,pB b9 0)] a∧Hp w V6 (i7_::i8_::i9_::i6_::(jn d1)::(box b4 4 [.bool z22])::(box b3 52 [vi z23,vi z24,vi z25,vi z26,vi z27,.string z28])::i2_::G1) w') ?_ ?_
    ·
     refine au1 ?_
     refine T.iI (fun s1 a w'=>∃(x9:Bool) (x10:Int) (x11:Int) (x12:Int) (x13:Int) (x14:Int) (x15:ByteArray) (x16:Int),s1=(x9,x10,x11,x12,x13,x14,x15,x16)∧∃V5,View.le V3 V5∧Fr 59 [(3,.func (.yield l1) #[] #[]),(4,pB b7 0),(6,pB b8 0),(9,pB b9 0),(20,.slice A2 e1.elems.length c2),(21,vi (e1.elems.length:Int)),(22,vi x16)] a∧Hp w V5 (i7_::i8_::i9_::i6_::(jn d1)::(box b4 4 [.bool x9])::(box b3 52 [vi x10,vi x11,vi x12,vi x13,vi x14,.string x15])::i2_::G1) w') hz2 ?_ ?_
     ·
      exact ie
     rintro s1 y1 hY1 hr2 a w' ⟨x9,x10,x11,x12,x13,x14,x15,x16,rfl,V5,hV5,hf,hh⟩
     let i10_:HObj:=box b3 52 [vi x10,vi x11,vi x12,vi x13,vi x14,.string x15]
     let t11_:List HObj:=i10_::i2_::G1
     let t12_:List HObj:=(box b4 4 [.bool x9])::t11_
     let t13_:List HObj:=(jn d1)::t12_
     let t14_:List HObj:=i6_::t13_
     let t15_:List HObj:=i9_::t14_
     let t16_:List HObj:=i8_::t15_
     let t17_:List HObj:=i7_::t16_
     refine(?_:T 59 w V5 t17_ [(3,.func (.yield l1) #[] #[]),(4,pB b7 0),(6,pB b8 0),(9,pB b9 0),(20,.slice A2 e1.elems.length c2),(21,vi (e1.elems.length:Int)),(22,vi x16)] _) a w' hf hh
     clear hf hh
     try dsimp only at hY1
     refine au1 ?_
     refine T.ik ?_
     refine T.cb (decide (x16 < (e1.elems.length:Int))) (fun hc2=>?_) (fun hc2=>?_)
     ·
      rw [hc2,cond_true] at hY1
      refine au3 ?_
      obtain⟨e2,hb2,hY1⟩:=ob hY1
      obtain⟨hi4,hi5,hi6⟩:=ig hb2
      refine T.l (.pointer (some ((iy A2).add (x16.toNat * 6)))) (fun w' hh=>ib (e:=52) (s:=6) rfl rfl rfl k_ k_ hi4 hi5 ((hJ.mono hs2 hV5).some_ hi6 (by decide))) ?_
      let v24_:List Value:=[vi e2.key.pfs,vi e2.key.obj,vi e2.key.off,vi e2.made,vi e2.gone,.string e2.val]
      let a29_:Value:=.agg #[vi e2.key.pfs,vi e2.key.obj,vi e2.key.off,vi e2.made,vi e2.gone,.string e2.val]
      refine T.l a29_ (fun w' hh=>lN (fun j u hj=>(hh.cell_view (hJ.cellF (E:=eElem) (hJ.mono hs2 hV5) hi6 j (fun _ _ _ h=>h) hj)))) ?_
      refine T.N1 fun b10=>?_
      refine au0 ?_
      obtain⟨q5,hX3,hY1⟩:=ob hY1
      refine T.iF (fun a w'=>∃(k3:_) (z29:Bool) (z30:Int) (z31:Int) (z32:Int) (z33:Int) (z34:Int) (z35:ByteArray),q5=(k3,z29,z30,z31,z32,z33,z34,z35)∧∃V7,View.le V5 V7∧Fr 59 [(3,.func (.yield l1) #[] #[]),(4,pB b7 0),(6,pB b8 0),(9,pB b9 0),(20,.slice A2 e1.elems.length c2),(21,vi (e1.elems.length:Int)),(22,vi x16),(36,.bool (!(isz k3)))] a∧Hp w V7 (i7_::i8_::i9_::(jH l1 lr1 (.exit 0) [.ret] k3)::(jn d1)::(box b4 4 [.bool z29])::(box b3 52 [vi z30,vi z31,vi z32,vi z33,vi z34,.string z35])::i2_::G1) w') ?_ ?_
      ·
       refine T.ud k_ ?_
       obtain⟨r1,hb3,hX3⟩:=ob hX3
       let i18_:HObj:=box b10 52 v24_
       let a30_:Value:=.agg #[vi r1.key.pfs,vi r1.key.obj,vi r1.key.off,vi r1.made]
       refine TI.pE 8 #[true,true,true,false,false,false,false,false,false,false,false] (fun a w'=>∃V9,View.le V5 V9∧Fr 59 [(3,.func (.yield l1) #[] #[]),(4,pB b7 0),(6,pB b8 0),(9,pB b9 0),(11,pB b10 0),(20,.slice A2 e1.elems.length c2),(21,vi (e1.elems.length:Int)),(22,vi x16),(27,a30_),(28,a27_)] a∧Hp w V9 (i18_::t17_) w') ?_ (fun hD1=>?_)
       ·
        rintro a w' ⟨V9,hV9,hf,hh⟩
        refine(?_:T 59 w V9 (i18_::t17_) [(3,.func (.yield l1) #[] #[]),(4,pB b7 0),(6,pB b8 0),(9,pB b9 0),(11,pB b10 0),(20,.slice A2 e1.elems.length c2),(21,vi (e1.elems.length:Int)),(22,vi x16),(27,a30_),(28,a27_)] _) a w' hf hh
        clear hf hh
        refine TI.a [3] ⟨?_,trivial⟩
        obtain⟨r2,hb4,hX3⟩:=ob hX3
        refine TI.br rfl <| W1.ka (W1.w1 (vSc hO) r2 72 #[a30_,a27_] (fun w' hh=>jk r1 (DSpot.mk p1 0) r2 hb4 w') ?_)
        intro u V10 hV10 hu
        obtain rfl:=ic _ _ _ hu
        refine TI.a [4] ⟨?_,trivial⟩
        refine TI.br rfl (W1.ka (W1.l (.bool (decide ((0:Int)≤r2))) (fun _ _=>by kernel_rfl) ?_))
        refine TI.a [5] ⟨?_,trivial⟩
        refine TI.br rfl (W1.ka (W1.l (.bool (decide ((0:Int)≤r2))) (fun _ _=>by kernel_rfl) ?_))
        cases hg1:decide ((0:Int)≤r2)
        ·
         rw [hg1,cond_false] at hX3
         refine TI.pE 3 #[true,true,true,true,true,true,true,true,false,false,false] (fun a w'=>Fr 59 [(3,.func (.yield l1) #[] #[]),(4,pB b7 0),(6,pB b8 0),(9,pB b9 0),(20,.slice A2 e1.elems.length c2),(21,vi (e1.elems.length:Int)),(22,vi x16),(31,.bool false)] a∧Hp w V10 t17_ w') ?_ (fun hD2=>?_)
         ·
          rintro a w' ⟨hf,hh⟩
          refine(?_:T 59 w V10 t17_ [(3,.func (.yield l1) #[] #[]),(4,pB b7 0),(6,pB b8 0),(9,pB b9 0),(20,.slice A2 e1.elems.length c2),(21,vi (e1.elems.length:Int)),(22,vi x16),(31,.bool false)] _) a w' hf hh
          clear hf hh
          refine TI.a [8] ⟨?_,trivial⟩
          refine TI.n ?_
          refine TI.a [9] ⟨?_,trivial⟩
          refine TI.n ?_
          refine TI.a [10] ⟨?_,trivial⟩
          refine TI.br rfl (W1.ka (W1.l (.bool false) (fun _ _=>by kernel_rfl) ?_))
          refine TI.d ?_
          cases hX3
          exact ie
         refine TI.a [6,7] ⟨?_,?_,trivial⟩
         ·
          refine TI.n ?_
          refine TI.a [7] ⟨?_,trivial⟩
          refine TI.n ?_
          exact TI.mM hD2 k_ (fun a w' hf hh=>⟨(((((((((Fr.nil hf).pick hf 31 rfl).pick hf 22 rfl).pick hf 21 rfl).pick hf 20 rfl).pick hf 9 rfl).pick hf 6 rfl).pick hf 4 rfl).pick hf 3 rfl),(hh.u)⟩)
         refine TI.n ?_
         refine TI.a [6] ⟨?_,trivial⟩
         refine TI.n ?_
         exact TI.mM hD2 k_ (fun a w' hf hh=>⟨(((((((((Fr.nil hf).pick hf 31 rfl).pick hf 22 rfl).pick hf 21 rfl).pick hf 20 rfl).pick hf 9 rfl).pick hf 6 rfl).pick hf 4 rfl).pick hf 3 rfl),(hh.u)⟩)
        rw [hg1,cond_true] at hX3
        refine TI.pE 3 #[true,true,true,true,true,true,true,true,false,false,false] (fun a w'=>Fr 59 [(3,.func (.yield l1) #[] #[]),(4,pB b7 0),(6,pB b8 0),(9,pB b9 0),(20,.slice A2 e1.elems.length c2),(21,vi (e1.elems.length:Int)),(22,vi x16),(31,.bool true),(32,.func (.yield l1) #[] #[]),(33,a29_)] a∧Hp w V10 t17_ w') ?_ (fun hD2=>?_)
        ·
         rintro a w' ⟨hf,hh⟩
         refine(?_:T 59 w V10 t17_ [(3,.func (.yield l1) #[] #[]),(4,pB b7 0),(6,pB b8 0),(9,pB b9 0),(20,.slice A2 e1.elems.length c2),(21,vi (e1.elems.length:Int)),(22,vi x16),(31,.bool true),(32,.func (.yield l1) #[] #[]),(33,a29_)] _) a w' hf hh
         clear hf hh
         refine TI.a [8] ⟨?_,trivial⟩
         obtain⟨q6,hX4,hX3⟩:=ob hX3
         refine TI.br rfl (W1R.oI 3 l1 (fun v w'=>∃(k4:_) (z36:Bool) (z37:Int) (z38:Int) (z39:Int) (z40:Int) (z41:Int) (z42:ByteArray),q6=(k4,z36,z37,z38,z39,z40,z41,z42)∧v = .bool (isz k4)∧Hp w V10 (i7_::i8_::i9_::(jH l1 lr1 (.exit 0) [.ret] k4)::(jn d1)::(box b4 4 [.bool z36])::(box b3 52 [vi z37,vi z38,vi z39,vi z40,vi z41,.string z42])::i2_::G1) w') b_ hl1 hl2 hl3 hl4 b_ k_ rfl k_ rfl ?_ ?_)
         ·
          refine au1 ?_
          refine T.N1 fun b11=>?_
          refine au0 ?_
          refine T.kp ?_
          let i19_:HObj:=box b11 52 v24_
          refine T.qn 4 (i19_::i7_::i8_::i9_::(pL l1 lr1)::t13_) b_ rfl ?_
          refine au3 ?_
          refine T.l (.bool (!(e2.key == p1))) (fun w' hh=>nP e2.key p1 w' rfl rfl rfl) ?_
          refine au0 ?_
          refine T.cb (!(e2.key == p1)) (fun hc3=>?_) (fun hc3=>?_)
          ·
           rw [hc3,cond_true] at hX4
           refine au0 ?_
           cases hX4
           repeat first | refine T.sg ?_ | refine T.ru rfl ?_
           exact T.qK (.exit 0) [.ret] 0 4 (i19_::i7_::i8_::i9_::(jH l1 lr1 (.exit 0) [.ret] (0 + 1))::t13_) b_ rfl rfl (fun w' hh=>⟨_,rfl,⟨(0 + 1),x9,x10,x11,x12,x13,x14,x15,rfl,rfl,(hh.u)⟩⟩)
          rw [hc3,cond_false] at hX4
          refine au1 ?_
          refine T.cb (e2.gone == 0) (fun hc4=>?_) (fun hc4=>?_)
          ·
           rw [hc4,cond_true] at hX4
           refine au1 ?_
           cases hX4
           refine T.ji rfl ?_
           repeat first | refine T.se ?_ | refine T.rt ?_
           exact T.rq (.exit 0) [.ret] 1 4 (i19_::i7_::i8_::i9_::(jH l1 lr1 (.exit 0) [.ret] (1 + 1))::(jn d1)::(box b4 4 [.bool true])::(box b3 52 v24_)::i2_::G1) b_ rfl rfl (fun w' hh=>⟨_,rfl,⟨(1 + 1),true,e2.key.pfs,e2.key.obj,e2.key.off,e2.made,e2.gone,e2.val,rfl,rfl,(hh.u)⟩⟩)
          rw [hc4,cond_false] at hX4
          refine au0 ?_
          cases hX4
          repeat first | refine T.kp ?_ | refine T.kP ?_
          exact T.nQ (.exit 0) [.ret] 4 (i19_::t17_) b_ rfl (fun w' hh=>⟨_,rfl,⟨0,x9,x10,x11,x12,x13,x14,x15,rfl,rfl,(hh.u)⟩⟩)
         rintro v w' ⟨k4,z36,z37,z38,z39,z40,z41,z42,rfl,rfl,hh⟩
         try dsimp only at hX3
         refine⟨V10,(i7_::i8_::i9_::(jH l1 lr1 (.exit 0) [.ret] k4)::(jn d1)::(box b4 4 [.bool z36])::(box b3 52 [vi z37,vi z38,vi z39,vi z40,vi z41,.string z42])::i2_::G1),hh,?_⟩
         clear hh
         cases k4 with
         | zero =>
          rw [jP] at hX3
          refine TI.a [9] ⟨?_,trivial⟩
          refine TI.br rfl (W1.ka (W1.l (.bool false) (fun _ _=>by kernel_rfl) ?_))
          refine TI.a [10] ⟨?_,trivial⟩
          refine TI.br rfl (W1.ka (W1.l (.bool false) (fun _ _=>by kernel_rfl) ?_))
          refine TI.d ?_
          cases hX3
          exact ie
         | succ k5 =>
          rw [j5] at hX3
          refine TI.a [9] ⟨?_,trivial⟩
          refine TI.br rfl (W1.ka (W1.l (.bool true) (fun _ _=>by kernel_rfl) ?_))
          refine TI.a [10] ⟨?_,trivial⟩
          refine TI.br rfl (W1.ka (W1.l (.bool true) (fun _ _=>by kernel_rfl) ?_))
          refine TI.d ?_
          cases hX3
          exact ie
        refine TI.a [6,7] ⟨?_,?_,trivial⟩
        ·
         refine TI.br rfl (W1.ka (W1.l (.func (.yield l1) #[] #[]) (fun _ _=>by kernel_rfl) ?_))
         refine TI.a [7] ⟨?_,trivial⟩
         refine TI.br rfl (W1.ka (W1.l a29_ (ldN 0) ?_))
         exact TI.mM hD2 k_ (fun a w' hf hh=>⟨(((((((((((Fr.nil hf).pick hf 33 rfl).pick hf 32 rfl).pick hf 31 rfl).pick hf 22 rfl).pick hf 21 rfl).pick hf 20 rfl).pick hf 9 rfl).pick hf 6 rfl).pick hf 4 rfl).pick hf 3 rfl),(hh.u)⟩)
        refine TI.br rfl (W1.ka (W1.l a29_ (ldN 0) ?_))
        refine TI.a [6] ⟨?_,trivial⟩
        refine TI.br rfl (W1.ka (W1.l (.func (.yield l1) #[] #[]) (fun _ _=>by kernel_rfl) ?_))
        exact TI.mM hD2 k_ (fun a w' hf hh=>⟨(((((((((((Fr.nil hf).pick hf 33 rfl).pick hf 32 rfl).pick hf 31 rfl).pick hf 22 rfl).pick hf 21 rfl).pick hf 20 rfl).pick hf 9 rfl).pick hf 6 rfl).pick hf 4 rfl).pick hf 3 rfl),(hh.u)⟩)
       refine TI.a [0,2] ⟨?_,?_,trivial⟩
       ·
        refine TI.br rfl (W1.ka (W1.l a29_ (ldN 0) ?_))
        refine TI.a [1,2] ⟨?_,?_,trivial⟩
        ·
         refine TI.br rfl <| W1.ka (W1.w1 (vAg eSpot) r1 55 #[a29_] (fun w' hh=>iM e2 r1 hb3 w') ?_)
         intro u V8 hV8 hu
         obtain rfl:=jr _ _ _ hu
         refine TI.a [2] ⟨?_,trivial⟩
         refine TI.br rfl (W1.ka (W1.l a27_ (ldN 2) ?_))
         exact TI.mM hD1 k_ (fun a w' hf hh=>⟨V8,hV8,(((((((((((Fr.nil hf).pick hf 28 rfl).pick hf 27 rfl).pick hf 22 rfl).pick hf 21 rfl).pick hf 20 rfl).pick hf 11 rfl).pick hf 9 rfl).pick hf 6 rfl).pick hf 4 rfl).pick hf 3 rfl),(hh.u)⟩)
        refine TI.br rfl (W1.ka (W1.l a27_ (ldN 2) ?_))
        refine TI.a [1] ⟨?_,trivial⟩
        refine TI.br rfl <| W1.ka (W1.w1 (vAg eSpot) r1 55 #[a29_] (fun w' hh=>iM e2 r1 hb3 w') ?_)
        intro u V8 hV8 hu
        obtain rfl:=jr _ _ _ hu
        exact TI.mM hD1 k_ (fun a w' hf hh=>⟨V8,hV8,(((((((((((Fr.nil hf).pick hf 28 rfl).pick hf 27 rfl).pick hf 22 rfl).pick hf 21 rfl).pick hf 20 rfl).pick hf 11 rfl).pick hf 9 rfl).pick hf 6 rfl).pick hf 4 rfl).pick hf 3 rfl),(hh.u)⟩)
       refine TI.br rfl (W1.ka (W1.l a27_ (ldN 2) ?_))
       refine TI.a [0] ⟨?_,trivial⟩
       refine TI.br rfl (W1.ka (W1.l a29_ (ldN 0) ?_))
       refine TI.a [1] ⟨?_,trivial⟩
       refine TI.br rfl <| W1.ka (W1.w1 (vAg eSpot) r1 55 #[a29_] (fun w' hh=>iM e2 r1 hb3 w') ?_)
       intro u V8 hV8 hu
       obtain rfl:=jr _ _ _ hu
       exact TI.mM hD1 k_ (fun a w' hf hh=>⟨V8,hV8,(((((((((((Fr.nil hf).pick hf 28 rfl).pick hf 27 rfl).pick hf 22 rfl).pick hf 21 rfl).pick hf 20 rfl).pick hf 11 rfl).pick hf 9 rfl).pick hf 6 rfl).pick hf 4 rfl).pick hf 3 rfl),(hh.u)⟩)
      rintro a w' ⟨k3,z29,z30,z31,z32,z33,z34,z35,rfl,V7,hV7,hf,hh⟩
      try dsimp only at hY1
      refine(?_:T 59 w V7 (i7_::i8_::i9_::(jH l1 lr1 (.exit 0) [.ret] k3)::(jn d1)::(box b4 4 [.bool z29])::(box b3 52 [vi z30,vi z31,vi z32,vi z33,vi z34,.string z35])::i2_::G1) [(3,.func (.yield l1) #[] #[]),(4,pB b7 0),(6,pB b8 0),(9,pB b9 0),(20,.slice A2 e1.elems.length c2),(21,vi (e1.elems.length:Int)),(22,vi x16),(36,.bool (!(isz k3)))] _) a w' hf hh
      clear hf hh
      cases k3 with
      | zero =>
       rw [jP] at hY1
       refine T.cb false (fun h=>a_ h) (fun _=>?_)
       refine au1 ?_
       cases hY1
       exact ie
      | succ k6 =>
       rw [j5] at hY1
       refine T.cb true (fun _=>?_) (fun h=>a_ h)
       refine au1 ?_
       cases hY1
       cases (hr2 _ rfl)
       try dsimp only at hS1
       have hres:=d_.inj hS1
       subst hres
       exact il
     rw [hc2,cond_false] at hY1
     refine au0 ?_
     cases hY1
     cases (hr2 _ rfl)
     exact ie
    rintro a w' ⟨z22,z23,z24,z25,z26,z27,z28,rfl,V6,hV6,hf,hh⟩
    try dsimp only at hS1
    refine(?_:T 59 w V6 (i7_::i8_::i9_::i6_::(jn d1)::(box b4 4 [.bool z22])::(box b3 52 [vi z23,vi z24,vi z25,vi z26,vi z27,.string z28])::i2_::G1) [(3,.func (.yield l1) #[] #[]),(4,pB b7 0),(6,pB b8 0),(9,pB b9 0)] _) a w' hf hh
    clear hf hh
    refine au2 ?_
    refine T.cb (e1.kind == 1) (fun hc5=>?_) (fun hc5=>?_)
    ·
     rw [hc5,cond_true] at hS1
     refine au1 ?_
     have hres:=d_.inj hS1
     subst hres
     exact il
    rw [hc5,cond_false] at hS1
    refine au0 ?_
    refine T.ik (T.ik ?_)
    refine T.jt k_ k_ ?_
    refine TQ.k (pB b9 2) ?_
    refine TQ.l (.slice A3 e1.kids.length c3) (ld1 0) ?_
    refine TQ.l a28_ (ldN 0) ?_
    refine TQ.l a27_ (ldN 1) ?_
    obtain⟨r3,hb5,hS1⟩:=ob hS1
    refine TQ.iL (vSc hO) r3 80 #[a28_,a27_] (vi r3) (fun V u hu=>ic V u _ hu) k_ (fun _=>k_) (fun w' hh=>mP F e1 (DSpot.mk p1 0) r3 hb5 w' A2 c2 (hJ.mono (hJ.mono hs2 hV6) hh.view) A3 c3 (hJ.mono (hJ.mono hs3 hV6) hh.view) A4 c4 (hJ.mono (hJ.mono hs4 hV6) hh.view) A5 c5 (hJ.mono (hJ.mono hs5 hV6) hh.view)) ?_
    obtain⟨s2,hb6,hS1⟩:=ob hS1
    refine TQ.l (.slice (iW A3 c3 r3.toNat 1) s2.length (c3 - r3.toNat)) (fun w' hh=>iP (e:=3) (s:=1) (lx:=(some _)) (hx:=none) (k:=.i64) (k':=.i64) rfl rfl k_ k_ ((hJ.mono hs3 hV6)).1 rfl rfl hb6) ?_
    refine TQ.k (vi (s2.length:Int)) ?_
    refine TQ.k (vi 0) ?_
    refine TQ.jm ?_
    obtain⟨q7,hz3,hS1⟩:=ob hS1
    refine T.iK (fun a w'=>∃(z43:Bool) (z44:Int) (z45:Int) (z46:Int) (z47:Int) (z48:Int) (z49:ByteArray),q7=Sum.inl (z43,z44,z45,z46,z47,z48,z49)∧∃V12,View.le V6 V12∧Fr 59 [] a∧Hp w V12 (i6_::(jn d1)::(box b4 4 [.bool z43])::(box b3 52 [vi z44,vi z45,vi z46,vi z47,vi z48,.string z49])::i2_::G1) w') ?_ ?_
    ·
     refine au1 ?_
     refine T.iI (fun s3 a w'=>∃(x17:Bool) (x18:Int) (x19:Int) (x20:Int) (x21:Int) (x22:Int) (x23:ByteArray) (x24:Int),s3=(x17,x18,x19,x20,x21,x22,x23,x24)∧∃A6 c6 V11,View.le V6 V11∧hJ V11 hO A6 c6 s2∧Fr 59 [(3,.func (.yield l1) #[] #[]),(4,pB b7 0),(6,pB b8 0),(46,.slice A6 s2.length c6),(47,vi (s2.length:Int)),(48,vi x24)] a∧Hp w V11 (i8_::i9_::i6_::(jn d1)::(box b4 4 [.bool x17])::(box b3 52 [vi x18,vi x19,vi x20,vi x21,vi x22,.string x23])::i2_::G1) w') hz3 ?_ ?_
     ·
      exact fun a w' hf hh=>⟨z22,z23,z24,z25,z26,z27,z28,0,rfl,(iW A3 c3 r3.toNat 1),(c3 - r3.toNat),V6,vr,(hJ.cut (hJ.mono hs3 hV6) hb6),(Fr.s hf),(hh.u)⟩
     rintro s3 y2 hY2 hr3 a w' ⟨x17,x18,x19,x20,x21,x22,x23,x24,rfl,A6,c6,V11,hV11,hs6,hf,hh⟩
     refine(?_:T 59 w V11 (i8_::i9_::i6_::(jn d1)::(box b4 4 [.bool x17])::(box b3 52 [vi x18,vi x19,vi x20,vi x21,vi x22,.string x23])::i2_::G1) [(3,.func (.yield l1) #[] #[]),(4,pB b7 0),(6,pB b8 0),(46,.slice A6 s2.length c6),(47,vi (s2.length:Int)),(48,vi x24)] _) a w' hf hh
     clear hf hh
     try dsimp only at hY2
     refine au1 ?_
     refine T.ik ?_
     refine T.cb (decide (x24 < (s2.length:Int))) (fun hc6=>?_) (fun hc6=>?_)
     ·
      rw [hc6,cond_true] at hY2
      refine au3 ?_
      obtain⟨e3,hb7,hY2⟩:=ob hY2
      obtain⟨hi7,hi8,hi9⟩:=ig hb7
      refine T.l (.pointer (some ((iy A6).add (x24.toNat * 1)))) (fun w' hh=>ib (e:=3) (s:=1) rfl rfl rfl k_ k_ hi7 hi8 (hs6.some_ hi9 (by decide))) ?_
      refine T.l (vi e3) (fun w' hh=>ir rfl rfl k_ (hh.cell_view (hJ.cellF0 (E:=hO) hs6 hi9 (fun _ _ _ h=>h) rfl))) ?_
      refine au0 ?_
      obtain⟨q8,hX5,hY2⟩:=ob hY2
      refine T.iF (fun a w'=>∃(k7:_) (z50:Bool) (z51:Int) (z52:Int) (z53:Int) (z54:Int) (z55:Int) (z56:ByteArray),q8=(k7,z50,z51,z52,z53,z54,z55,z56)∧∃V13,View.le V11 V13∧Fr 59 [(3,.func (.yield l1) #[] #[]),(4,pB b7 0),(6,pB b8 0),(46,.slice A6 s2.length c6),(47,vi (s2.length:Int)),(48,vi x24),(57,.bool (!(isz k7)))] a∧Hp w V13 (i8_::i9_::(jH l1 lr1 (.exit 0) [.ret] k7)::(jn d1)::(box b4 4 [.bool z50])::(box b3 52 [vi z51,vi z52,vi z53,vi z54,vi z55,.string z56])::i2_::G1) w') ?_ ?_
      ·
       refine au1 ?_
       obtain⟨q9,hz4,hX5⟩:=ob hX5
       refine T.ia (W1.cj (fun w' hh=>ih1 _ _ hz4 x17 x18 x19 x20 x21 x22 x23 e3 rfl V11 (i8_::i9_::G1) w' (vt (vt hV3 hV6) hV11) (hh.ix 7 [2,3,4,5,6,0,1])) ?_)
       rintro v w' ⟨z57,z58,z59,z60,z61,z62,z63,z64,rfl,V14,hV14,rfl,hh⟩
       try dsimp only at hX5
       refine⟨V14,(i8_::i9_::(jH l1 lr1 (.exit 0) [.ret] z57)::(jn d1)::(box b4 4 [.bool z58])::(box b3 52 [vi z59,vi z60,vi z61,vi z62,vi z63,.string z64])::i2_::G1),hh.ix 7 [5,6,0,1,2,3,4],?_⟩
       clear hh
       cases z57 with
       | zero =>
        rw [jP] at hX5
        refine au0 ?_
        cases hX5
        exact ie
       | succ k8 =>
        rw [j5] at hX5
        refine au0 ?_
        cases hX5
        exact ie
      rintro a w' ⟨k7,z50,z51,z52,z53,z54,z55,z56,rfl,V13,hV13,hf,hh⟩
      try dsimp only at hY2
      refine(?_:T 59 w V13 (i8_::i9_::(jH l1 lr1 (.exit 0) [.ret] k7)::(jn d1)::(box b4 4 [.bool z50])::(box b3 52 [vi z51,vi z52,vi z53,vi z54,vi z55,.string z56])::i2_::G1) [(3,.func (.yield l1) #[] #[]),(4,pB b7 0),(6,pB b8 0),(46,.slice A6 s2.length c6),(47,vi (s2.length:Int)),(48,vi x24),(57,.bool (!(isz k7)))] _) a w' hf hh
      clear hf hh
      cases k7 with
      | zero =>
       rw [jP] at hY2
       refine T.cb false (fun h=>a_ h) (fun _=>?_)
       refine au1 ?_
       cases hY2
       exact ie
      | succ k9 =>
       rw [j5] at hY2
       refine T.cb true (fun _=>?_) (fun h=>a_ h)
       refine au1 ?_
       cases hY2
       cases (hr3 _ rfl)
       try dsimp only at hS1
       have hres:=d_.inj hS1
       subst hres
       exact il
     rw [hc6,cond_false] at hY2
     refine au0 ?_
     cases hY2
     cases (hr3 _ rfl)
     exact ie
    rintro a w' ⟨z43,z44,z45,z46,z47,z48,z49,rfl,V12,hV12,hf,hh⟩
    try dsimp only at hS1
    refine(?_:T 59 w V12 (i6_::(jn d1)::(box b4 4 [.bool z43])::(box b3 52 [vi z44,vi z45,vi z46,vi z47,vi z48,.string z49])::i2_::G1) [] _) a w' hf hh
    clear hf hh
    refine au1 ?_
    have hres:=d_.inj hS1
    subst hres
    exact il
   refine T.ia (W1.cj (fun w' hh=>hq1 false 0 0 0 0 0 (f_ #[]) p0.root rfl (vw w) (i4_::i5_::i3_::[]) w' vr (hh.ix 7 [0,1,4,5,6,2,3])) ?_)
   rintro v w' ⟨z65,z66,z67,z68,z69,z70,z71,z72,rfl,V15,hV15,rfl,hh⟩
   try dsimp only at hX2
   refine⟨V15,[jH l1 lr1 (.exit 0) [.ret] z65,jn d1,box b6 96 v22_,box b5 56 v21_,box b4 4 [.bool z66],box b3 52 [vi z67,vi z68,vi z69,vi z70,vi z71,.string z72],box b2 31 v20_,box b1 56 v21_],hh.ix 7 [0,1,5,6,2,3,4],?_⟩
   clear hh
   cases z65 with
   | zero =>
    rw [jP] at hX2
    refine au0 ?_
    cases hX2
    repeat first | refine T.kp ?_ | refine T.kP ?_
    exact T.mZ rfl (fun w' hh=>⟨_,rfl,⟨0,z66,z67,z68,z69,z70,z71,z72,rfl,V15,hV15,(hh.u)⟩⟩)
   | succ k10 =>
    rw [j5] at hX2
    refine au0 ?_
    cases hX2
    repeat first | refine T.kp ?_ | refine T.kP ?_
    exact T.mZ rfl (fun w' hh=>⟨_,rfl,⟨(k10 + 1),z66,z67,z68,z69,z70,z71,z72,rfl,V15,hV15,(hh.u)⟩⟩)
  rintro l1 d1 lr1 w' ⟨k1,z8,z9,z10,z11,z12,z13,z14,rfl,V2,hV2,hh⟩
  try dsimp only at hX1
  let v25_:List Value:=[vi z9,vi z10,vi z11,vi z12,vi z13,.string z14]
  refine⟨V2,[jn d1,box b4 4 [.bool z8],box b3 52 v25_],k1,hh,?_⟩
  clear hh
  cases k1 with
  | zero =>
   rw [jP] at hX1
   rw [jP]
   cases hX1
   exact ie
  | succ k11 =>
   rw [j5] at hX1
   rw [j5]
   cases k11 with
   | zero =>
    rw [jP] at hX1
    rw [sC]
    refine au0 ?_
    cases hX1
    exact ie
   | succ k12 =>
    rw [j5] at hX1
    rw [sB]
    rw [tm]
    cases hX1
    try dsimp only at hF
    cases hF
    refine T.ji rfl ?_
    refine T.m5 ((box b4 4 [.bool z8])::(box b3 52 v25_)::[]) [d1] (fun w' hh=>hh.u) ?_
    exact T.kI rfl (rN 1) (kL.cell1 0 rfl b_ (fun _=>k_)) fun w' hh=>⟨_,rfl,hh.below,(vT2.mk (vAg.mk rfl) (show _ from rfl))⟩
 rintro a w' ⟨z1,z2,z3,z4,z5,z6,z7,rfl,d1,V1,hV1,hf,hh⟩
 try dsimp only at hF
 refine(?_:T ⟨21,[d1]⟩ w V1 [jn d1,box b4 4 [.bool z1],box b3 52 [vi z2,vi z3,vi z4,vi z5,vi z6,.string z7]] [(4,pB b3 0),(5,pB b4 0)] _) a w' hf hh
 clear hf hh
 refine au1 ?_
 cases hF
 refine T.ji rfl ?_
 refine T.m5 ((box b4 4 [.bool false])::(box b3 52 [vi 0,vi 0,vi 0,vi 0,vi 0,.string (f_ #[])])::[]) [d1] (fun w' hh=>hh.u) ?_
 exact T.kI rfl (rN 1) (kL.cell1 0 rfl b_ (fun _=>k_)) fun w' hh=>⟨_,rfl,hh.below,(vT2.mk (vAg.mk rfl) (show _ from rfl))⟩
theorem oG (F:Nat) (d:DTree) (h:Int) (r:Bool) (m:mU F d h=some r) (w:World) (k:Option Addr) (o:Nat) (G:hJ (vw w) iH k o d.nodes) :
 Calls Tryz.prog 47 #[.agg #[.int .i64 d.root,.slice k d.nodes.length o],.int .i64 h] w (jB (vSc eBool) r w):=by
 unfold mU at m;refine T.iA (l:=[.agg #[vi d.root,sl k d.nodes o],vi h]) Tryz.func47 rfl rfl rfl ?_;refine au1 ?_;refine T.N1 fun X=>?_;refine au0 ?_;refine oc m fun V b m=>?_;refine T.iF (fun a g=>∃n,View.le (vw w) n∧Fr 22 [(4,.bool V)] a∧Hp w n [] g) ?_ ?_;refine au1 ?_;cases C:decide (h < 1);rw [C,cond_false] at b;refine au0 ?_;cases D:decide ((2147483647:Int) < h);rw [D,cond_false] at b;refine au0 ?_;refine oc b fun f I b=>?_;obtain⟨M,N,E⟩:=ig I
 obtain⟨Y,O,K⟩:=hJ.elem G E;obtain⟨p,y,q,z,t,A,v,B,rfl,P,Q,R,S⟩:=O;refine T.l (.pointer (some ((iy k).add (d.root.toNat * 5)))) (fun g c=>ib (e:=64) (s:=5) rfl rfl rfl k_ k_ M N (G.some_ E (by decide))) ?_;let x:Value:=.agg #[vi f.kind,sl p f.elems y,sl q f.kids z,sl t f.seps A,sl v f.tids B]
 refine T.l x (fun g c=>lN (fun j u hj=>c.cell_view (View.cell_mono vr (K j u hj).2))) (oc b fun H J b=>(T.ia (W1.w1 (vSc hO) H 77 #[x] (fun g c=>iw F f H J g p y (hJ.mono P c.view) q z (hJ.mono Q c.view) t A (hJ.mono R c.view) v B (hJ.mono S c.view)) ?_)));intro u W aa U;obtain rfl:=ic _ _ _ U;refine au0 ?_;cases b;exact ie;rw [D,cond_true] at b;refine au0 ?_;cases b;exact ie;rw [C,cond_true] at b;refine au0 ?_;cases b;exact ie;rintro a g ⟨n,Z,L,c⟩;revert L c;refine T.i ?_
 cases m;exact il
theorem qH (F:Nat) (x:DTree) (r:Bool) (P:oh F x=some r) (w:World) (H:Option Addr) (I:Nat) (aq:hJ (vw w) iH H I x.nodes) :
 Calls Tryz.prog 51 #[.agg #[.int .i64 x.root,.slice H x.nodes.length I]] w (jB (vSc eBool) r w):=by
 unfold oh at P;refine T.pC (l:=[.agg #[vi x.root,sl H x.nodes I]]) Tryz.func51 rfl rfl rfl ?_;refine au1 ?_;refine T.N1 fun b1=>?_;refine au1 ?_;refine T.N1 fun m=>?_;refine au2 ?_;let ae:=[vi x.root,sl H x.nodes I];let ac:=box b1 56 ae
 refine T.ia (W1.iq 63 [.agg #[vi x.root,sl H x.nodes I]] (fun v d=>∃g p,v = .func (.func 90) #[] #[pB g 0,pB p 0]∧Hp w (vw w) ((box g 158 [.func (.func 89) #[] #[pB p 0,pB g 0]])::(box p 56 ae)::(box m 3 [vi 0])::ac::[]) d) Tryz.func63 rfl rfl k_ (fun _=>k_) rfl ?_ ?_);refine au1 ?_;refine T.N1 fun p=>?_;refine au1 ?_;refine T.N1 fun g=>?_;refine au2 ?_;exact il;rintro v d ⟨g,p,rfl,b⟩;let A:=box g 158 [.func (.func 89) #[] #[pB p 0,pB g 0]];let B:=box p 56 ae
 refine⟨(vw w),(A::B::(box m 3 [vi 0])::ac::[]),b,?_⟩;clear b;refine au1 ?_;refine oc P fun z1 Q P=>?_;refine T.qo (gf:=90) (lb:=[pB g 0,pB p 0]) .skip [] (fun f n t d=>∃N,View.le (vw w) N∧Hp w N [jH f t .skip [] 0,jn n,box m 3 [vi z1]] d) k_ k_ (fun _ _=>by kernel_rfl) ?_ ?_;intro f n t aP aQ aR aS w1 b;refine T.iZ (l:=[.func (.yield f) #[] #[],pB g 0,pB p 0]) Tryz.func90 rfl rfl rfl ?_ b;clear b;refine au1 ?_;refine oc Q fun q1 aX Q=>?_
 refine(have aT:=mn (fun (s_:Int × Int) (r_:Int)=>∀(x1:Int) (J:Int),s_=(x1,J)→∀(z:View) (y:List HObj) (w1:World),View.le (vw w) z→Hp w z ((jH f t .skip [] 0)::(jn n)::A::B::(box m 3 [vi x1])::y) w1→Calls Tryz.prog 89 #[vi J,.func (.yield f) #[] #[],pB p 0,pB g 0] w1 (fun e w2=>∃ v,e = .returned v∧∃(z2:Int),r_=z2∧∃V3,View.le z V3∧v = .bool true∧Hp w V3 ((jH f t .skip [] 0)::(jn n)::A::B::(box m 3 [vi z2])::y) w2)) aX ?_;?_)
 rintro bl a2 s_ r_ C x1 J rfl z y w1 aa b;(try dsimp only at C);refine T.iZ (l:=[vi J,.func (.yield f) #[] #[],pB p 0,pB g 0]) Tryz.func89 rfl rfl rfl ?_ b;clear b;refine au2 ?_;refine oc C fun k aD C=>?_;obtain⟨aJ,aK,an⟩:=ig aD;obtain⟨be,aU,aG⟩:=hJ.elem (hJ.mono aq aa) an;obtain⟨L,Y,M,Z,A4,c4,A5,c5,rfl,ar,au,bi,bj⟩:=aU
 refine T.l (.pointer (some ((iy H).add (J.toNat * 5)))) (fun d b=>ib (e:=64) (s:=5) rfl rfl rfl k_ k_ aJ aK ((hJ.mono aq aa).some_ an (by decide))) ?_;let a8:=[vi k.kind,sl L k.elems Y,sl M k.kids Z,sl A4 k.seps c4,sl A5 k.tids c5];refine T.l (.agg #[vi k.kind,sl L k.elems Y,sl M k.kids Z,sl A4 k.seps c4,sl A5 k.tids c5]) (fun d b=>lN (fun j u hj=>b.cell_view (View.cell_mono vr (aG j u hj).2))) ?_;refine T.N1 fun X=>?_;refine au2 ?_;refine oc C fun z3 aY C=>?_;let R:=box X 64 a8
 refine T.iK (fun a d=>Fr 42 [(1,.func (.yield f) #[] #[]),(3,pB g 0),(7,pB X 0)] a∧Hp w z (R::(jH f t .skip [] 0)::(jn n)::A::B::(box m 3 [vi z3])::y) d) ?_ ?_;refine au1 ?_;refine T.iI (fun s1 a d=>∃(K:Int) (S:Int),s1=(K,S)∧Fr 42 [(1,.func (.yield f) #[] #[]),(3,pB g 0),(7,pB X 0),(18,sl L k.elems Y),(19,vi (k.elems.length:Int)),(20,vi S)] a∧Hp w z (R::(jH f t .skip [] 0)::(jn n)::A::B::(box m 3 [vi K])::y) d) aY ?_ ?_;exact ie
 rintro s1 y1 D aV a d ⟨K,S,rfl,G,b⟩;revert G b;refine T.i ?_;(try dsimp only at D);refine au1 ?_;refine T.ik ?_;revert D;refine T.c (fun aH D=>?_) (fun aH D=>?_);refine au3 ?_;refine oc D fun o aE D=>?_;obtain⟨aL,aM,ao⟩:=ig aE;refine T.l (.pointer (some ((iy L).add (S.toNat * 6)))) (fun d b=>ib (e:=52) (s:=6) rfl rfl rfl k_ k_ aL aM (ar.some_ ao (by decide))) ?_;let a9:=[vi o.key.pfs,vi o.key.obj,vi o.key.off,vi o.made,vi o.gone,.string o.val]
 refine T.l (.agg #[vi o.key.pfs,vi o.key.obj,vi o.key.off,vi o.made,vi o.gone,.string o.val]) (fun d b=>lN (fun j u hj=>(b.cell_view (hJ.cellF (E:=eElem) ar ao j (fun _ _ _ h=>h) hj)))) ?_;refine T.N1 fun b6=>?_;refine au1 ?_;let av:=box b6 52 a9;let a1:=box m 3 [vi (i64.wrap (K + 1))];let a3:=B::a1::y;let a4:=A::a3;let a5:=(jn n)::a4;let a6:=(jH f t .skip [] 0)::a5;let a7:=R::a6;let ad:=av::a7
 refine T.rQ (W1R.oI 2 f (fun v d=>v = .bool true∧Hp w z ad d) b_ aP aQ aR aS b_ k_ rfl k_ rfl ?_ ?_);refine au0 ?_;refine T.kp ?_;refine T.qn 2 (av::R::(pL f t)::(jn n)::A::B::(box m 3 [vi K])::y) b_ rfl ?_;refine au2 ?_;(repeat first | refine T.kp ?_ | refine T.kP ?_);exact T.nQ .skip [] 2 ad b_ rfl (fun d b=>⟨_,rfl,⟨rfl,(b.u)⟩⟩);rintro v d ⟨rfl,b⟩;refine⟨z,ad,b,?_⟩;clear b;refine au0 ?_
 refine T.cb false (fun h=>a_ h) (fun _=>?_);refine au1 ?_;cases D;exact ie;refine au0 ?_;cases D;cases (aV _ rfl);exact ie;rintro a d ⟨G,b⟩;revert G b;refine T.i ?_;refine au2 ?_;refine oc C fun z4 aZ C=>?_;refine T.iK (fun a d=>∃W,View.le z W∧Fr 42 [] a∧Hp w W ((jH f t .skip [] 0)::(jn n)::A::B::(box m 3 [vi z4])::y) d) ?_ ?_;refine au1 ?_
 refine T.iI (fun s2 a d=>∃(U:Int) (V:Int),s2=(U,V)∧∃O,View.le z O∧Fr 42 [(1,.func (.yield f) #[] #[]),(3,pB g 0),(30,sl M k.kids Z),(31,vi (k.kids.length:Int)),(32,vi V)] a∧Hp w O ((jH f t .skip [] 0)::(jn n)::A::B::(box m 3 [vi U])::y) d) aZ ?_ ?_;exact ie;rintro s2 y2 q aW a d ⟨U,V,rfl,O,ab,G,b⟩;revert G b;refine T.i ?_;(try dsimp only at q);refine au1 ?_;refine T.ik ?_;revert q;refine T.c (fun aI q=>?_) (fun aI q=>?_);refine au3 ?_;refine oc q fun e3 aF q=>?_
 obtain⟨aN,aO,ap⟩:=ig aF;refine T.l (.pointer (some ((iy M).add (V.toNat * 1)))) (fun d b=>ib (e:=3) (s:=1) rfl rfl rfl k_ k_ aN aO ((hJ.mono au ab).some_ ap (by decide))) (T.l (vi e3) (fun d b=>ir rfl rfl k_ (b.cell_view (hJ.cellF0 (E:=hO) (hJ.mono au ab) ap (fun _ _ _ h=>h) rfl))) ?_);refine au1 ?_;refine oc q fun z5 a0 q=>(T.ia (W1.cj (fun d b=>a2 _ _ a0 U e3 rfl O y d (vt aa ab) (b.u)) ?_));rintro v d ⟨z5x,rfl,V6,bh,rfl,b⟩;(try dsimp only at q)
 refine⟨_,_,b,?_⟩;clear b;refine au0 ?_;refine T.cb false (fun h=>a_ h) (fun _=>?_);refine au1 ?_;cases q;exact ie;refine au0 ?_;cases q;cases (aW _ rfl);exact ie;rintro a d ⟨W,bg,G,b⟩;revert G b;refine T.i ?_;refine au1 ?_;have hres:=d_.inj C;subst hres;exact il;refine T.ia (W1.cj (fun d b=>aT 0 x.root rfl (vw w) (ac::[]) d vr (b.u)) ?_);rintro v d ⟨q1x,rfl,V7,aC,rfl,b⟩;(try dsimp only at Q);refine⟨_,_,b,?_⟩;clear b;refine au0 ?_;cases Q;(repeat first | refine T.kp ?_ | refine T.kP ?_)
 exact T.mZ rfl (fun d b=>⟨_,rfl,⟨V7,aC,(b.u)⟩⟩);rintro f n t d ⟨N,bf,b⟩;refine⟨N,[jn n,box m 3 [vi z1]],0,b,?_⟩;clear b;rw [jP];refine au1 ?_;cases P;refine T.ji rfl ?_;refine T.m5 ((box m 3 [vi z1])::[]) [n] (fun d b=>b.u) ?_;exact il
end Go.Proofs.YtaoocidchclpnaaGreat
