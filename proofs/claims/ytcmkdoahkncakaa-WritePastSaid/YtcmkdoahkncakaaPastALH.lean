/- The Go functions of group PastA compute its pure functions, where these yield a result. -/
import Derived.Test.YtcmkdoahkncakaaShAH
import Derived.Test.YtcmkdoahkncakaaPastCLH
import Derived.Test.YtcmkdoahkncakaaRangeH
import Derived.Test.YtcmkdoahkncakaaClearH
import Derived.Test.YtcmkdoahkncakaaPastAFH
import Derived.Test.YtcmkdoahkncakaaEqLH
namespace Go.Proofs.Ytcmkdoahkncakaa
open IntKind (i64)
set_option maxRecDepth 100000
set_option maxHeartbeats 4000000
set_option linter.unusedVariables false
theorem zp (F:Nat) (p0:DTree) (p1:DKey) (p2:Int) (r:DElem × Int) (hF:zo F p0 p1 p2=some r) (w:World) (A1:Option Addr) (c1:Nat) (hs1:vc (vw w) wY A1 c1 p0.nodes) :
 Calls Try.prog 39 #[.agg #[.int .i64 p0.root,.slice A1 p0.nodes.length c1],.agg #[.int .i64 p1.pfs,.int .i64 p1.obj,.int .i64 p1.off],.int .i64 p2] w (xF (vT2 (vAg eElem) (vSc va)) r w):=by
 unfold zo at hF
 let a70_:Value:=.agg #[vi p0.root,.slice A1 p0.nodes.length c1]
 let a71_:Value:=.agg #[vi p1.pfs,vi p1.obj,vi p1.off]
 refine T.zJ (l:=[a70_,a71_,vi p2]) Try.func39 rfl rfl rfl ?_
 refine T.vd (T.vb ?_)
 let v63_:List Value:=[vi p0.root,.slice A1 p0.nodes.length c1]
 refine T.uY (W1.np 24 v63_ (fun b1=>?_))
 let v64_:List Value:=[vi p1.pfs,vi p1.obj,vi p1.off]
 refine T.uY (W1.np 26 v64_ (fun b2=>?_))
 refine T.uY (W1.np 3 [vi p2] (fun b3=>?_))
 let v65_:List Value:=[vi 0,vi 0,vi 0,vi 0,vi 0,.string (ByteArray.mk #[])]
 refine T.uY (W1.np 28 v65_ (fun b4=>?_))
 refine T.uY (W1.np 29 [vi 0] (fun b5=>?_))
 refine T.uX (T.vd (T.vd (T.vb (T.l a70_ (ldN 4) ?_))))
 obtain⟨r1,hb1,hF⟩:=ob hF
 refine T.uY (W1.w1 (vSc va) r1 53 #[a70_] (fun w' hh=>yW F p0 r1 hb1 w' A1 c1 (vc.mono hs1 hh.view)) ?_)
 intro u V1 hV1 hu
 obtain rfl:=vE _ _ _ hu
 refine T.k (vi r1) (T.uX (T.vd (T.vb (T.k2 (vi r1) (.bool (r1 != 0)) (T.uX ?_)))))
 refine T.cb (r1 != 0) (fun hc1=>?_) (fun hc1=>?_)
 ·
  rw [hc1,cond_true] at hF
  refine T.vd (T.vb (T.k2 (.agg #[vi 0,vi 0,vi 0,vi 0,vi 0,.string (ByteArray.mk #[])]) (vi r1) ?_))
  let i1_:HObj:=box b4 28 v65_
  let i2_:HObj:=box b2 26 v64_
  let i3_:HObj:=box b1 24 v63_
  let t4_:List HObj:=i2_::i3_::[]
  let t5_:List HObj:=(box b3 3 [vi p2])::t4_
  let t6_:List HObj:=i1_::t5_
  refine T.uY (W1.st 1 v65_ ((box b5 29 [vi 0])::t6_) v65_ ?_)
  refine T.uY (W1.st 0 [vi r1] ((box b5 29 [vi r1])::t6_) [vi r1] ?_)
  refine T.uX ?_
  cases hF
  refine T.vD rfl ?_
  refine T.ya ((box b5 29 [vi r1])::t6_) [] (fun w' hh=>hh.sub (kp4 (kp1 kp0))) ?_
  exact T.wN rfl (rN 1) (xS.cell1 0 rfl (by rfl) (fun _=>by kernel_rfl)) fun w' hh=>⟨_,rfl,hh.below,(vT2.mk (vAg.mk rfl) (show _ from rfl))⟩
 rw [hc1,cond_false] at hF
 refine T.uZ ?_
 refine T.vd (T.vd (T.vb (T.l a71_ (ldN 3) ?_)))
 obtain⟨r2,hb2,hF⟩:=ob hF
 refine T.uY (W1.w1 (vSc va) r2 49 #[a71_] (fun w' hh=>yG p1 r2 hb2 w') ?_)
 intro u V2 hV2 hu
 obtain rfl:=vE _ _ _ hu
 refine T.k (vi r2) (T.uX (T.vd (T.vb (T.k2 (vi r2) (.bool (r2 != 0)) (T.uX ?_)))))
 refine T.cb (r2 != 0) (fun hc2=>?_) (fun hc2=>?_)
 ·
  rw [hc2,cond_true] at hF
  refine T.vd (T.vb (T.k2 (.agg #[vi 0,vi 0,vi 0,vi 0,vi 0,.string (ByteArray.mk #[])]) (vi r2) ?_))
  let i7_:HObj:=box b4 28 v65_
  let i8_:HObj:=box b2 26 v64_
  let i9_:HObj:=box b1 24 v63_
  let t10_:List HObj:=i8_::i9_::[]
  let t11_:List HObj:=(box b3 3 [vi p2])::t10_
  let t12_:List HObj:=i7_::t11_
  refine T.uY (W1.st 1 v65_ ((box b5 29 [vi 0])::t12_) v65_ ?_)
  refine T.uY (W1.st 0 [vi r2] ((box b5 29 [vi r2])::t12_) [vi r2] ?_)
  refine T.uX ?_
  cases hF
  refine T.vD rfl ?_
  refine T.ya ((box b5 29 [vi r2])::t12_) [] (fun w' hh=>hh.sub (kp4 (kp1 kp0))) ?_
  exact T.wN rfl (rN 1) (xS.cell1 0 rfl (by rfl) (fun _=>by kernel_rfl)) fun w' hh=>⟨_,rfl,hh.below,(vT2.mk (vAg.mk rfl) (show _ from rfl))⟩
 rw [hc2,cond_false] at hF
 refine T.uZ ?_
 obtain⟨q1,hX1,hF⟩:=ob hF
 refine T.wk (fun a w'=>∃(z1:Int) (z2:Int) (z3:Int) (z4:Int) (z5:Int) (z6:ByteArray),q1=Sum.inl (z1,z2,z3,z4,z5,z6)∧∃(d1:Nat) (V3:View),View.le V2 V3∧Fr ⟨37,[d1]⟩ [(6,pB b4 0),(7,pB b5 0)] a∧Hp w V3 [vO d1,box b5 29 [vi 0],box b4 28 [vi z1,vi z2,vi z3,vi z4,vi z5,.string z6]] w') ?_ ?_
 ·
  refine T.vd (T.vb (T.l a70_ (ldN 4) ?_))
  refine T.l a71_ (ldN 3) ?_
  let a72_:Value:=.agg #[vi p1.pfs,vi p1.obj,vi p1.off,vi 0]
  refine T.k a72_ ?_
  let i13_:HObj:=box b4 28 v65_
  let i14_:HObj:=box b2 26 v64_
  let i15_:HObj:=box b1 24 v63_
  let v66_:List Value:=[vi p1.pfs,vi p1.obj,vi p1.off,vi 0]
  refine T.uY (W1.wi 59 [a70_,a72_] (fun v w'=>∃(b7:Nat) (b6:Nat),v = .func (.func 83) #[] #[pB b6 0,pB b7 0]∧Hp w V2 ((box b7 43 v66_)::(box b6 24 v63_)::(box b5 29 [vi 0])::i13_::(box b3 3 [vi p2])::i14_::i15_::[]) w') Try.func59 rfl rfl (by kernel_rfl) (fun _=>by kernel_rfl) rfl ?_ ?_)
  ·
   refine T.vd (T.vb (T.uY (W1.np 24 v63_ (fun b6=>?_))))
   refine T.uY (W1.np 43 v66_ (fun b7=>?_))
   refine T.k (.nilFunc) (T.uX (T.vd (T.vb (T.k2 (.func (.func 83) #[] #[pB b6 0,pB b7 0]) (.func (.func 83) #[] #[pB b6 0,pB b7 0]) (T.uX ?_)))))
   refine T.vD rfl ?_
   exact T.vH rfl (rT rfl) fun w' hh=>⟨_,rfl,⟨b7,b6,rfl,(hh.sub (kp6 (kp1 kp0)))⟩⟩
  rintro v w' ⟨b7,b6,rfl,hh⟩
  let i16_:HObj:=box b7 43 v66_
  let i17_:HObj:=box b6 24 v63_
  refine⟨V2,(i16_::i17_::(box b5 29 [vi 0])::i13_::(box b3 3 [vi p2])::i14_::i15_::[]),hh,?_⟩
  clear hh
  refine T.uX (T.vI ?_)
  obtain⟨q2,hX2,hX1⟩:=ob hX1
  refine T.Az (gf:=83) (lb:=[pB b6 0,pB b7 0]) (.exit 0) [.ret] (fun l1 d1 lr1 w'=>∃(k1:Nat) (z7:Int) (z8:Int) (z9:Int) (z10:Int) (z11:Int) (z12:ByteArray),q2=(k1,z7,z8,z9,z10,z11,z12)∧∃(V4:View),View.le V2 V4∧Hp w V4 [vR l1 lr1 (.exit 0) [.ret] k1,vO d1,box b5 29 [vi 0],box b4 28 [vi z7,vi z8,vi z9,vi z10,vi z11,.string z12]] w') (by kernel_rfl) (by kernel_rfl) (fun _ _=>by kernel_rfl) ?_ ?_
  ·
   intro l1 d1 lr1 hl1 hl2 hl3 hl4 w1 hh
   refine T.wW (l:=[.func (.yield l1) #[] #[],pB b6 0,pB b7 0]) Try.func83 rfl rfl rfl ?_ hh
   clear hh
   refine T.vb (T.l a70_ (ldN 3) ?_)
   refine T.k (pB b6 0) (T.l (vi p0.root) (ld1 3) ?_)
   refine T.l a72_ (ldN 2) ?_
   refine T.k (.func (.yield l1) #[] #[]) ?_
   obtain⟨q3,hz1,hX2⟩:=ob hX2
   let i18_:HObj:=vR l1 lr1 (.exit 0) [.ret] 0
   refine(have hq1:=yc (fun (s_:Int × Int × Int × Int × Int × ByteArray × Int) (r_:Nat × Int × Int × Int × Int × Int × ByteArray)=>∀(x1:Int) (x2:Int) (x3:Int) (x4:Int) (x5:Int) (x6:ByteArray) (x7:Int),s_=(x1,x2,x3,x4,x5,x6,x7)→∀(V5:View) (G1:List HObj) (w1:World),View.le V2 V5→Hp w V5 (i18_::(vO d1)::(box b5 29 [vi 0])::(box b4 28 [vi x1,vi x2,vi x3,vi x4,vi x5,.string x6])::(box b3 3 [vi p2])::i14_::G1) w1→Calls Try.prog 84 #[a70_,vi x7,a72_,.func (.yield l1) #[] #[]] w1 (fun e w2=>∃ v,e = .returned v∧∃(k2:Nat) (z13:Int) (z14:Int) (z15:Int) (z16:Int) (z17:Int) (z18:ByteArray),r_=(k2,z13,z14,z15,z16,z17,z18)∧∃(V6:View),View.le V5 V6∧v = .bool (isz k2)∧Hp w V6 ((vR l1 lr1 (.exit 0) [.ret] k2)::(vO d1)::(box b5 29 [vi 0])::(box b4 28 [vi z13,vi z14,vi z15,vi z16,vi z17,.string z18])::(box b3 3 [vi p2])::i14_::G1) w2)) hz1 ?_;?_)
   ·
    rintro rf1 ih1 s_ r_ hS1 x1 x2 x3 x4 x5 x6 x7 rfl V5 G1 w1 hV5 hh
    try dsimp only at hS1
    refine T.wW (l:=[a70_,vi x7,a72_,.func (.yield l1) #[] #[]]) Try.func84 rfl rfl rfl ?_ hh
    clear hh
    refine T.vd (T.vb (T.uY (W1.np 24 v63_ (fun b8=>?_))))
    refine T.uY (W1.np 43 v66_ (fun b9=>?_))
    refine T.k (.bool false) (T.uX (T.vd (T.vb (T.k (pB b8 1) (T.l (.slice A1 p0.nodes.length c1) (ld1 1) ?_)))))
    refine T.k (vi x7) ?_
    obtain⟨e1,hb3,hS1⟩:=ob hS1
    obtain⟨hi1,hi2,hi3⟩:=vn hb3
    obtain⟨cs1,hr1,hc3⟩:=vc.elem (vc.mono hs1 (vt (vt hV1 hV2) hV5)) hi3
    obtain⟨A2,c2,A3,c3,A4,c4,A5,c5,rfl,hs2,hs3,hs4,hs5⟩:=hr1
    refine T.l (.pointer (some ((vT A1).add (x7.toNat * 5)))) (fun w' hh=>vf (e:=97) (s:=5) rfl rfl rfl (by kernel_rfl) (by kernel_rfl) hi1 hi2 ((vc.mono hs1 (vt (vt hV1 hV2) hV5)).some_ hi3 (by decide))) ?_
    let v67_:List Value:=[vi e1.kind,.slice A2 e1.elems.length c2,.slice A3 e1.kids.length c3,.slice A4 e1.seps.length c4,.slice A5 e1.tids.length c5]
    let a73_:Value:=.agg #[vi e1.kind,.slice A2 e1.elems.length c2,.slice A3 e1.kids.length c3,.slice A4 e1.seps.length c4,.slice A5 e1.tids.length c5]
    refine T.l a73_ (fun w' hh=>vC (cs:=v67_) rfl rfl (by kernel_rfl) (by kernel_rfl) (fun j u hj=>hh.cell_view (View.cell_mono vr (hc3 j u hj).2))) ?_
    refine T.uY (W1.np 97 [vi 0,sN,sN,sN,sN] (fun b10=>?_))
    let i19_:HObj:=box b10 97 v67_
    let i20_:HObj:=box b9 43 v66_
    let i21_:HObj:=box b8 24 v63_
    let t22_:List HObj:=(box b3 3 [vi p2])::i14_::G1
    refine T.uY (W1.st 0 v67_ (i19_::i20_::i21_::i18_::(vO d1)::(box b5 29 [vi 0])::(box b4 28 [vi x1,vi x2,vi x3,vi x4,vi x5,.string x6])::t22_) v67_ ?_)
    refine T.uX (T.vd (T.vd (T.vb (T.k (pB b10 1) (T.l (.slice A2 e1.elems.length c2) (ld1 0) ?_)))))
    refine T.k2 (vi (e1.elems.length:Int)) (vi 0) (T.uX ?_)
    obtain⟨q4,hz2,hS1⟩:=ob hS1
    refine T.wP (fun a w'=>∃(z19:Int) (z20:Int) (z21:Int) (z22:Int) (z23:Int) (z24:ByteArray),q4=Sum.inl (z19,z20,z21,z22,z23,z24)∧∃(V8:View),View.le V5 V8∧Fr 59 [(3,.func (.yield l1) #[] #[]),(4,pB b8 0),(6,pB b9 0),(9,pB b10 0)] a∧Hp w V8 (i19_::i20_::i21_::i18_::(vO d1)::(box b5 29 [vi 0])::(box b4 28 [vi z19,vi z20,vi z21,vi z22,vi z23,.string z24])::t22_) w') ?_ ?_
    ·
     refine T.vI ?_
     refine T.wK (fun s1 a w'=>∃(x8:Int) (x9:Int) (x10:Int) (x11:Int) (x12:Int) (x13:ByteArray) (x14:Int),s1=(x8,x9,x10,x11,x12,x13,x14)∧∃(V7:View),View.le V5 V7∧Fr 59 [(3,.func (.yield l1) #[] #[]),(4,pB b8 0),(6,pB b9 0),(9,pB b10 0),(20,.slice A2 e1.elems.length c2),(21,vi (e1.elems.length:Int)),(22,vi x14)] a∧Hp w V7 (i19_::i20_::i21_::i18_::(vO d1)::(box b5 29 [vi 0])::(box b4 28 [vi x8,vi x9,vi x10,vi x11,vi x12,.string x13])::t22_) w') hz2 ?_ ?_
     ·
      exact fun a w' hf hh=>⟨x1,x2,x3,x4,x5,x6,0,rfl,V5,vr,(Fr.s hf),(hh.sub (kp8 (kp1 kpr)))⟩
     rintro s1 y1 hY1 hr2 a w' ⟨x8,x9,x10,x11,x12,x13,x14,rfl,V7,hV7,hf,hh⟩
     let i23_:HObj:=box b4 28 [vi x8,vi x9,vi x10,vi x11,vi x12,.string x13]
     let t24_:List HObj:=i23_::t22_
     let t25_:List HObj:=(box b5 29 [vi 0])::t24_
     let t26_:List HObj:=(vO d1)::t25_
     let t27_:List HObj:=i18_::t26_
     let t28_:List HObj:=i21_::t27_
     let t29_:List HObj:=i20_::t28_
     let t30_:List HObj:=i19_::t29_
     refine(?_:T 59 w V7 t30_ [(3,.func (.yield l1) #[] #[]),(4,pB b8 0),(6,pB b9 0),(9,pB b10 0),(20,.slice A2 e1.elems.length c2),(21,vi (e1.elems.length:Int)),(22,vi x14)] _) a w' hf hh
     clear hf hh
     try dsimp only at hY1
     refine T.vd (T.vb (T.k (.bool (decide (x14 < (e1.elems.length:Int)))) (T.uX (T.vd ?_))))
     refine T.cb (decide (x14 < (e1.elems.length:Int))) (fun hc4=>?_) (fun hc4=>?_)
     ·
      rw [hc4,cond_true] at hY1
      refine T.uZ ?_
      refine T.vd (T.vI (T.vd (T.vb ?_)))
      obtain⟨e2,hb4,hY1⟩:=ob hY1
      obtain⟨hi4,hi5,hi6⟩:=vn hb4
      refine T.l (.pointer (some ((vT A2).add (x14.toNat * 6)))) (fun w' hh=>vf (e:=28) (s:=6) rfl rfl rfl (by kernel_rfl) (by kernel_rfl) hi4 hi5 ((vc.mono hs2 hV7).some_ hi6 (by decide))) ?_
      let v68_:List Value:=[vi e2.key.pfs,vi e2.key.obj,vi e2.key.off,vi e2.made,vi e2.gone,.string e2.val]
      let a74_:Value:=.agg #[vi e2.key.pfs,vi e2.key.obj,vi e2.key.off,vi e2.made,vi e2.gone,.string e2.val]
      refine T.l a74_ (fun w' hh=>vC (cs:=v68_) rfl rfl (by kernel_rfl) (by kernel_rfl) (fun j u hj=>(hh.cell_view (vc.cellF (E:=eElem) (vc.mono hs2 hV7) hi6 j (fun _ _ _ h=>h) hj)))) ?_
      refine T.uY (W1.np 28 v65_ (fun b11=>?_))
      let i31_:HObj:=box b11 28 v68_
      let t32_:List HObj:=i31_::t30_
      refine T.uY (W1.st 0 v68_ t32_ v68_ ?_)
      refine T.uX ?_
      obtain⟨q5,hX3,hY1⟩:=ob hY1
      refine T.wk (fun a w'=>∃(k3:Nat) (z25:Int) (z26:Int) (z27:Int) (z28:Int) (z29:Int) (z30:ByteArray),q5=(k3,z25,z26,z27,z28,z29,z30)∧∃(V9:View),View.le V7 V9∧Fr 59 [(3,.func (.yield l1) #[] #[]),(4,pB b8 0),(6,pB b9 0),(9,pB b10 0),(20,.slice A2 e1.elems.length c2),(21,vi (e1.elems.length:Int)),(22,vi x14),(36,.bool (!(isz k3)))] a∧Hp w V9 (i19_::i20_::i21_::(vR l1 lr1 (.exit 0) [.ret] k3)::(vO d1)::(box b5 29 [vi 0])::(box b4 28 [vi z25,vi z26,vi z27,vi z28,vi z29,.string z30])::t22_) w') ?_ ?_
      ·
       refine T.Cv (by kernel_rfl) ?_
       refine TI.a [0,2] ⟨?_,?_,trivial⟩
       ·
        refine TI.br rfl (W1.vJ (W1.l a74_ (ldN 0) ?_))
        refine TI.a [1,2] ⟨?_,?_,trivial⟩
        ·
         obtain⟨r3,hb5,hX3⟩:=ob hX3
         refine TI.br rfl <| W1.vJ (W1.w1 (vAg eSpot) r3 22 #[a74_] (fun w' hh=>vU e2 r3 hb5 w') ?_)
         intro u V10 hV10 hu
         obtain rfl:=wu _ _ _ hu
         refine TI.a [2] ⟨?_,trivial⟩
         refine TI.br rfl (W1.vJ (W1.l a72_ (ldN 2) ?_))
         refine TI.a [3] ⟨?_,trivial⟩
         obtain⟨r4,hb6,hX3⟩:=ob hX3
         refine TI.br rfl <| W1.vJ (W1.w1 (vSc va) r4 62 #[.agg #[vi r3.key.pfs,vi r3.key.obj,vi r3.key.off,vi r3.made],a72_] (fun w' hh=>wh r3 (DSpot.mk p1 0) r4 hb6 w') ?_)
         intro u V11 hV11 hu
         obtain rfl:=vE _ _ _ hu
         refine TI.a [4] ⟨?_,trivial⟩
         refine TI.br rfl (W1.vJ (W1.l (.bool (decide ((0:Int)≤r4))) (fun _ _=>by kernel_rfl) ?_))
         refine TI.a [5] ⟨?_,trivial⟩
         refine TI.br rfl (W1.vJ (W1.l (.bool (decide ((0:Int)≤r4))) (fun _ _=>by kernel_rfl) ?_))
         cases hg1:decide ((0:Int)≤r4)
         ·
          rw [hg1,cond_false] at hX3
          refine TI.a [6,7] ⟨?_,?_,trivial⟩
          ·
           refine TI.n ?_
           refine TI.a [7] ⟨?_,trivial⟩
           refine TI.n ?_
           refine TI.a [8] ⟨?_,trivial⟩
           refine TI.n ?_
           refine TI.a [9] ⟨?_,trivial⟩
           refine TI.n ?_
           refine TI.a [10] ⟨?_,trivial⟩
           refine TI.br rfl (W1.vJ (W1.l (.bool false) (fun _ _=>by kernel_rfl) ?_))
           refine TI.d ?_
           cases hX3
           exact fun a w' hf hh=>⟨0,x8,x9,x10,x11,x12,x13,rfl,V11,(vt hV10 hV11),(Fr.s hf),(hh.sub (dr1 (kp8 (kp1 kpr))))⟩
          refine TI.n ?_
          refine TI.a [6] ⟨?_,trivial⟩
          refine TI.n ?_
          refine TI.a [8] ⟨?_,trivial⟩
          refine TI.n ?_
          refine TI.a [9] ⟨?_,trivial⟩
          refine TI.n ?_
          refine TI.a [10] ⟨?_,trivial⟩
          refine TI.br rfl (W1.vJ (W1.l (.bool false) (fun _ _=>by kernel_rfl) ?_))
          refine TI.d ?_
          cases hX3
          exact fun a w' hf hh=>⟨0,x8,x9,x10,x11,x12,x13,rfl,V11,(vt hV10 hV11),(Fr.s hf),(hh.sub (dr1 (kp8 (kp1 kpr))))⟩
         rw [hg1,cond_true] at hX3
         refine TI.a [6,7] ⟨?_,?_,trivial⟩
         ·
          refine TI.br rfl (W1.vJ (W1.l (.func (.yield l1) #[] #[]) (fun _ _=>by kernel_rfl) ?_))
          refine TI.a [7] ⟨?_,trivial⟩
          refine TI.br rfl (W1.vJ (W1.l a74_ (ldN 0) ?_))
          refine TI.a [8] ⟨?_,trivial⟩
          obtain⟨q6,hX4,hX3⟩:=ob hX3
          refine TI.br rfl (W1R.xj 4 l1 (fun v w'=>∃(k4:Nat) (z31:Int) (z32:Int) (z33:Int) (z34:Int) (z35:Int) (z36:ByteArray),q6=(k4,z31,z32,z33,z34,z35,z36)∧∃(V12:View),View.le V11 V12∧v = .bool (isz k4)∧Hp w V12 (i31_::i19_::i20_::i21_::(vR l1 lr1 (.exit 0) [.ret] k4)::(vO d1)::(box b5 29 [vi 0])::(box b4 28 [vi z31,vi z32,vi z33,vi z34,vi z35,.string z36])::t22_) w') (by rfl) hl1 hl2 hl3 hl4 (by rfl) (by kernel_rfl) rfl (by kernel_rfl) rfl ?_ ?_)
          ·
           refine T.vb (T.uY (W1.np 28 v65_ (fun b12=>?_)))
           let i33_:HObj:=box b12 28 v68_
           refine T.uY (W1.st 0 v68_ (i33_::t32_) v68_ ?_)
           refine T.uX ?_
           refine T.v9 ?_
           refine T.xI 5 (i33_::i31_::i19_::i20_::i21_::(wX l1 lr1)::t26_) (by rfl) rfl ?_
           refine T.vI (T.vd (T.vd (T.vb (T.k (pB b12 0) (T.l (.agg #[vi e2.key.pfs,vi e2.key.obj,vi e2.key.off]) (ldN 0) ?_)))))
           refine T.l a71_ (ldN 10) ?_
           refine T.l (.bool (!(e2.key == p1))) (fun w' hh=>wH e2.key p1 w' rfl rfl rfl) ?_
           refine T.uX ?_
           refine T.cb (!(e2.key == p1)) (fun hc5=>?_) (fun hc5=>?_)
           ·
            rw [hc5,cond_true] at hX4
            refine T.wl ?_
            cases hX4
            repeat first | refine T.xx ?_ | refine T.xo rfl ?_
            exact T.w9 (.exit 0) [.ret] 0 5 (i33_::i31_::i19_::i20_::i21_::(vR l1 lr1 (.exit 0) [.ret] (0 + 1))::t26_) (by rfl) rfl rfl (fun w' hh=>⟨_,rfl,⟨(0 + 1),x8,x9,x10,x11,x12,x13,rfl,V11,vr,rfl,(hh.sub (dr1 (kp9 (kp1 kpr))))⟩⟩)
           rw [hc5,cond_false] at hX4
           refine T.uZ ?_
           refine T.vd (T.vb (T.l a74_ (ldN 0) ?_))
           refine T.l (vi p2) (ld1 9) ?_
           obtain⟨r5,hb7,hX4⟩:=ob hX4
           refine T.uY (W1.w1 (vSc eBool) r5 66 #[a74_,vi p2] (fun w' hh=>xX e2 p2 r5 hb7 w') ?_)
           intro u V13 hV13 hu
           obtain rfl:=xD _ _ _ hu
           refine T.uX ?_
           refine T.cb r5 (fun hc6=>?_) (fun hc6=>?_)
           ·
            rw [hc6,cond_true] at hX4
            refine T.vd (T.vb (T.l a74_ (ldN 0) ?_))
            let i34_:HObj:=box b4 28 v68_
            let t35_:List HObj:=i34_::t22_
            let t36_:List HObj:=(box b5 29 [vi 0])::t35_
            let t37_:List HObj:=(vO d1)::t36_
            refine T.uY (W1.st 8 v68_ (i33_::i31_::i19_::i20_::i21_::(wX l1 lr1)::t37_) v68_ ?_)
            refine T.uY (W1.st 7 [vi 0] (i33_::i31_::i19_::i20_::i21_::(wX l1 lr1)::t37_) [vi 0] ?_)
            refine T.uX ?_
            cases hX4
            refine T.vD rfl ?_
            repeat first | refine T.xw ?_ | refine T.xn ?_
            exact T.xm (.exit 0) [.ret] 1 5 (i33_::i31_::i19_::i20_::i21_::(vR l1 lr1 (.exit 0) [.ret] (1 + 1))::t37_) (by rfl) rfl rfl (fun w' hh=>⟨_,rfl,⟨(1 + 1),e2.key.pfs,e2.key.obj,e2.key.off,e2.made,e2.gone,e2.val,rfl,V13,hV13,rfl,(hh.sub (dr1 (kp9 (kp1 kpr))))⟩⟩)
           rw [hc6,cond_false] at hX4
           refine T.uZ ?_
           cases hX4
           repeat first | refine T.v9 ?_ | refine T.wD ?_
           exact T.w7 (.exit 0) [.ret] 5 (i33_::t32_) (by rfl) rfl (fun w' hh=>⟨_,rfl,⟨0,x8,x9,x10,x11,x12,x13,rfl,V13,hV13,rfl,(hh.sub (dr1 (kp9 (kp1 kpr))))⟩⟩)
          rintro v w' ⟨k4,z31,z32,z33,z34,z35,z36,rfl,V12,hV12,rfl,hh⟩
          try dsimp only at hX3
          refine⟨V12,(i31_::i19_::i20_::i21_::(vR l1 lr1 (.exit 0) [.ret] k4)::(vO d1)::(box b5 29 [vi 0])::(box b4 28 [vi z31,vi z32,vi z33,vi z34,vi z35,.string z36])::t22_),hh,?_⟩
          clear hh
          cases k4 with
          | zero =>
           rw [vV] at hX3
           refine TI.a [9] ⟨?_,trivial⟩
           refine TI.br rfl (W1.vJ (W1.l (.bool false) (fun _ _=>by kernel_rfl) ?_))
           refine TI.a [10] ⟨?_,trivial⟩
           refine TI.br rfl (W1.vJ (W1.l (.bool false) (fun _ _=>by kernel_rfl) ?_))
           refine TI.d ?_
           cases hX3
           exact fun a w' hf hh=>⟨0,z31,z32,z33,z34,z35,z36,rfl,V12,(vt (vt hV10 hV11) hV12),(Fr.s hf),(hh.sub (dr1 (kp8 (kp1 kpr))))⟩
          | succ k5 =>
           rw [vX] at hX3
           refine TI.a [9] ⟨?_,trivial⟩
           refine TI.br rfl (W1.vJ (W1.l (.bool true) (fun _ _=>by kernel_rfl) ?_))
           refine TI.a [10] ⟨?_,trivial⟩
           refine TI.br rfl (W1.vJ (W1.l (.bool true) (fun _ _=>by kernel_rfl) ?_))
           refine TI.d ?_
           cases hX3
           exact fun a w' hf hh=>⟨(k5 + 1),z31,z32,z33,z34,z35,z36,rfl,V12,(vt (vt hV10 hV11) hV12),(Fr.s hf),(hh.sub (dr1 (kp8 (kp1 kpr))))⟩
         refine TI.br rfl (W1.vJ (W1.l a74_ (ldN 0) ?_))
         refine TI.a [6] ⟨?_,trivial⟩
         refine TI.br rfl (W1.vJ (W1.l (.func (.yield l1) #[] #[]) (fun _ _=>by kernel_rfl) ?_))
         refine TI.a [8] ⟨?_,trivial⟩
         obtain⟨q6,hX4,hX3⟩:=ob hX3
         refine TI.br rfl (W1R.xj 4 l1 (fun v w'=>∃(k4:Nat) (z31:Int) (z32:Int) (z33:Int) (z34:Int) (z35:Int) (z36:ByteArray),q6=(k4,z31,z32,z33,z34,z35,z36)∧∃(V12:View),View.le V11 V12∧v = .bool (isz k4)∧Hp w V12 (i31_::i19_::i20_::i21_::(vR l1 lr1 (.exit 0) [.ret] k4)::(vO d1)::(box b5 29 [vi 0])::(box b4 28 [vi z31,vi z32,vi z33,vi z34,vi z35,.string z36])::t22_) w') (by rfl) hl1 hl2 hl3 hl4 (by rfl) (by kernel_rfl) rfl (by kernel_rfl) rfl ?_ ?_)
         ·
          refine T.vb (T.uY (W1.np 28 v65_ (fun b12=>?_)))
          let i38_:HObj:=box b12 28 v68_
          refine T.uY (W1.st 0 v68_ (i38_::t32_) v68_ ?_)
          refine T.uX ?_
          refine T.v9 ?_
          refine T.xI 5 (i38_::i31_::i19_::i20_::i21_::(wX l1 lr1)::t26_) (by rfl) rfl ?_
          refine T.vI (T.vd (T.vd (T.vb (T.k (pB b12 0) (T.l (.agg #[vi e2.key.pfs,vi e2.key.obj,vi e2.key.off]) (ldN 0) ?_)))))
          refine T.l a71_ (ldN 10) ?_
          refine T.l (.bool (!(e2.key == p1))) (fun w' hh=>wH e2.key p1 w' rfl rfl rfl) ?_
          refine T.uX ?_
          refine T.cb (!(e2.key == p1)) (fun hc5=>?_) (fun hc5=>?_)
          ·
           rw [hc5,cond_true] at hX4
           refine T.wl ?_
           cases hX4
           repeat first | refine T.xx ?_ | refine T.xo rfl ?_
           exact T.w9 (.exit 0) [.ret] 0 5 (i38_::i31_::i19_::i20_::i21_::(vR l1 lr1 (.exit 0) [.ret] (0 + 1))::t26_) (by rfl) rfl rfl (fun w' hh=>⟨_,rfl,⟨(0 + 1),x8,x9,x10,x11,x12,x13,rfl,V11,vr,rfl,(hh.sub (dr1 (kp9 (kp1 kpr))))⟩⟩)
          rw [hc5,cond_false] at hX4
          refine T.uZ ?_
          refine T.vd (T.vb (T.l a74_ (ldN 0) ?_))
          refine T.l (vi p2) (ld1 9) ?_
          obtain⟨r5,hb7,hX4⟩:=ob hX4
          refine T.uY (W1.w1 (vSc eBool) r5 66 #[a74_,vi p2] (fun w' hh=>xX e2 p2 r5 hb7 w') ?_)
          intro u V13 hV13 hu
          obtain rfl:=xD _ _ _ hu
          refine T.uX ?_
          refine T.cb r5 (fun hc6=>?_) (fun hc6=>?_)
          ·
           rw [hc6,cond_true] at hX4
           refine T.vd (T.vb (T.l a74_ (ldN 0) ?_))
           let i39_:HObj:=box b4 28 v68_
           let t40_:List HObj:=i39_::t22_
           let t41_:List HObj:=(box b5 29 [vi 0])::t40_
           let t42_:List HObj:=(vO d1)::t41_
           refine T.uY (W1.st 8 v68_ (i38_::i31_::i19_::i20_::i21_::(wX l1 lr1)::t42_) v68_ ?_)
           refine T.uY (W1.st 7 [vi 0] (i38_::i31_::i19_::i20_::i21_::(wX l1 lr1)::t42_) [vi 0] ?_)
           refine T.uX ?_
           cases hX4
           refine T.vD rfl ?_
           repeat first | refine T.xw ?_ | refine T.xn ?_
           exact T.xm (.exit 0) [.ret] 1 5 (i38_::i31_::i19_::i20_::i21_::(vR l1 lr1 (.exit 0) [.ret] (1 + 1))::t42_) (by rfl) rfl rfl (fun w' hh=>⟨_,rfl,⟨(1 + 1),e2.key.pfs,e2.key.obj,e2.key.off,e2.made,e2.gone,e2.val,rfl,V13,hV13,rfl,(hh.sub (dr1 (kp9 (kp1 kpr))))⟩⟩)
          rw [hc6,cond_false] at hX4
          refine T.uZ ?_
          cases hX4
          repeat first | refine T.v9 ?_ | refine T.wD ?_
          exact T.w7 (.exit 0) [.ret] 5 (i38_::t32_) (by rfl) rfl (fun w' hh=>⟨_,rfl,⟨0,x8,x9,x10,x11,x12,x13,rfl,V13,hV13,rfl,(hh.sub (dr1 (kp9 (kp1 kpr))))⟩⟩)
         rintro v w' ⟨k4,z31,z32,z33,z34,z35,z36,rfl,V12,hV12,rfl,hh⟩
         try dsimp only at hX3
         refine⟨V12,(i31_::i19_::i20_::i21_::(vR l1 lr1 (.exit 0) [.ret] k4)::(vO d1)::(box b5 29 [vi 0])::(box b4 28 [vi z31,vi z32,vi z33,vi z34,vi z35,.string z36])::t22_),hh,?_⟩
         clear hh
         cases k4 with
         | zero =>
          rw [vV] at hX3
          refine TI.a [9] ⟨?_,trivial⟩
          refine TI.br rfl (W1.vJ (W1.l (.bool false) (fun _ _=>by kernel_rfl) ?_))
          refine TI.a [10] ⟨?_,trivial⟩
          refine TI.br rfl (W1.vJ (W1.l (.bool false) (fun _ _=>by kernel_rfl) ?_))
          refine TI.d ?_
          cases hX3
          exact fun a w' hf hh=>⟨0,z31,z32,z33,z34,z35,z36,rfl,V12,(vt (vt hV10 hV11) hV12),(Fr.s hf),(hh.sub (dr1 (kp8 (kp1 kpr))))⟩
         | succ k5 =>
          rw [vX] at hX3
          refine TI.a [9] ⟨?_,trivial⟩
          refine TI.br rfl (W1.vJ (W1.l (.bool true) (fun _ _=>by kernel_rfl) ?_))
          refine TI.a [10] ⟨?_,trivial⟩
          refine TI.br rfl (W1.vJ (W1.l (.bool true) (fun _ _=>by kernel_rfl) ?_))
          refine TI.d ?_
          cases hX3
          exact fun a w' hf hh=>⟨(k5 + 1),z31,z32,z33,z34,z35,z36,rfl,V12,(vt (vt hV10 hV11) hV12),(Fr.s hf),(hh.sub (dr1 (kp8 (kp1 kpr))))⟩
        refine TI.br rfl (W1.vJ (W1.l a72_ (ldN 2) ?_))
        refine TI.a [1] ⟨?_,trivial⟩
        obtain⟨r3,hb5,hX3⟩:=ob hX3
        refine TI.br rfl <| W1.vJ (W1.w1 (vAg eSpot) r3 22 #[a74_] (fun w' hh=>vU e2 r3 hb5 w') ?_)
        intro u V10 hV10 hu
        obtain rfl:=wu _ _ _ hu
        refine TI.a [3] ⟨?_,trivial⟩
        obtain⟨r4,hb6,hX3⟩:=ob hX3
        refine TI.br rfl <| W1.vJ (W1.w1 (vSc va) r4 62 #[.agg #[vi r3.key.pfs,vi r3.key.obj,vi r3.key.off,vi r3.made],a72_] (fun w' hh=>wh r3 (DSpot.mk p1 0) r4 hb6 w') ?_)
        intro u V11 hV11 hu
        obtain rfl:=vE _ _ _ hu
        refine TI.a [4] ⟨?_,trivial⟩
        refine TI.br rfl (W1.vJ (W1.l (.bool (decide ((0:Int)≤r4))) (fun _ _=>by kernel_rfl) ?_))
        refine TI.a [5] ⟨?_,trivial⟩
        refine TI.br rfl (W1.vJ (W1.l (.bool (decide ((0:Int)≤r4))) (fun _ _=>by kernel_rfl) ?_))
        cases hg1:decide ((0:Int)≤r4)
        ·
         rw [hg1,cond_false] at hX3
         refine TI.a [6,7] ⟨?_,?_,trivial⟩
         ·
          refine TI.n ?_
          refine TI.a [7] ⟨?_,trivial⟩
          refine TI.n ?_
          refine TI.a [8] ⟨?_,trivial⟩
          refine TI.n ?_
          refine TI.a [9] ⟨?_,trivial⟩
          refine TI.n ?_
          refine TI.a [10] ⟨?_,trivial⟩
          refine TI.br rfl (W1.vJ (W1.l (.bool false) (fun _ _=>by kernel_rfl) ?_))
          refine TI.d ?_
          cases hX3
          exact fun a w' hf hh=>⟨0,x8,x9,x10,x11,x12,x13,rfl,V11,(vt hV10 hV11),(Fr.s hf),(hh.sub (dr1 (kp8 (kp1 kpr))))⟩
         refine TI.n ?_
         refine TI.a [6] ⟨?_,trivial⟩
         refine TI.n ?_
         refine TI.a [8] ⟨?_,trivial⟩
         refine TI.n ?_
         refine TI.a [9] ⟨?_,trivial⟩
         refine TI.n ?_
         refine TI.a [10] ⟨?_,trivial⟩
         refine TI.br rfl (W1.vJ (W1.l (.bool false) (fun _ _=>by kernel_rfl) ?_))
         refine TI.d ?_
         cases hX3
         exact fun a w' hf hh=>⟨0,x8,x9,x10,x11,x12,x13,rfl,V11,(vt hV10 hV11),(Fr.s hf),(hh.sub (dr1 (kp8 (kp1 kpr))))⟩
        rw [hg1,cond_true] at hX3
        refine TI.a [6,7] ⟨?_,?_,trivial⟩
        ·
         refine TI.br rfl (W1.vJ (W1.l (.func (.yield l1) #[] #[]) (fun _ _=>by kernel_rfl) ?_))
         refine TI.a [7] ⟨?_,trivial⟩
         refine TI.br rfl (W1.vJ (W1.l a74_ (ldN 0) ?_))
         refine TI.a [8] ⟨?_,trivial⟩
         obtain⟨q6,hX4,hX3⟩:=ob hX3
         refine TI.br rfl (W1R.xj 4 l1 (fun v w'=>∃(k4:Nat) (z31:Int) (z32:Int) (z33:Int) (z34:Int) (z35:Int) (z36:ByteArray),q6=(k4,z31,z32,z33,z34,z35,z36)∧∃(V12:View),View.le V11 V12∧v = .bool (isz k4)∧Hp w V12 (i31_::i19_::i20_::i21_::(vR l1 lr1 (.exit 0) [.ret] k4)::(vO d1)::(box b5 29 [vi 0])::(box b4 28 [vi z31,vi z32,vi z33,vi z34,vi z35,.string z36])::t22_) w') (by rfl) hl1 hl2 hl3 hl4 (by rfl) (by kernel_rfl) rfl (by kernel_rfl) rfl ?_ ?_)
         ·
          refine T.vb (T.uY (W1.np 28 v65_ (fun b12=>?_)))
          let i43_:HObj:=box b12 28 v68_
          refine T.uY (W1.st 0 v68_ (i43_::t32_) v68_ ?_)
          refine T.uX ?_
          refine T.v9 ?_
          refine T.xI 5 (i43_::i31_::i19_::i20_::i21_::(wX l1 lr1)::t26_) (by rfl) rfl ?_
          refine T.vI (T.vd (T.vd (T.vb (T.k (pB b12 0) (T.l (.agg #[vi e2.key.pfs,vi e2.key.obj,vi e2.key.off]) (ldN 0) ?_)))))
          refine T.l a71_ (ldN 10) ?_
          refine T.l (.bool (!(e2.key == p1))) (fun w' hh=>wH e2.key p1 w' rfl rfl rfl) ?_
          refine T.uX ?_
          refine T.cb (!(e2.key == p1)) (fun hc5=>?_) (fun hc5=>?_)
          ·
           rw [hc5,cond_true] at hX4
           refine T.wl ?_
           cases hX4
           repeat first | refine T.xx ?_ | refine T.xo rfl ?_
           exact T.w9 (.exit 0) [.ret] 0 5 (i43_::i31_::i19_::i20_::i21_::(vR l1 lr1 (.exit 0) [.ret] (0 + 1))::t26_) (by rfl) rfl rfl (fun w' hh=>⟨_,rfl,⟨(0 + 1),x8,x9,x10,x11,x12,x13,rfl,V11,vr,rfl,(hh.sub (dr1 (kp9 (kp1 kpr))))⟩⟩)
          rw [hc5,cond_false] at hX4
          refine T.uZ ?_
          refine T.vd (T.vb (T.l a74_ (ldN 0) ?_))
          refine T.l (vi p2) (ld1 9) ?_
          obtain⟨r5,hb7,hX4⟩:=ob hX4
          refine T.uY (W1.w1 (vSc eBool) r5 66 #[a74_,vi p2] (fun w' hh=>xX e2 p2 r5 hb7 w') ?_)
          intro u V13 hV13 hu
          obtain rfl:=xD _ _ _ hu
          refine T.uX ?_
          refine T.cb r5 (fun hc6=>?_) (fun hc6=>?_)
          ·
           rw [hc6,cond_true] at hX4
           refine T.vd (T.vb (T.l a74_ (ldN 0) ?_))
           let i44_:HObj:=box b4 28 v68_
           let t45_:List HObj:=i44_::t22_
           let t46_:List HObj:=(box b5 29 [vi 0])::t45_
           let t47_:List HObj:=(vO d1)::t46_
           refine T.uY (W1.st 8 v68_ (i43_::i31_::i19_::i20_::i21_::(wX l1 lr1)::t47_) v68_ ?_)
           refine T.uY (W1.st 7 [vi 0] (i43_::i31_::i19_::i20_::i21_::(wX l1 lr1)::t47_) [vi 0] ?_)
           refine T.uX ?_
           cases hX4
           refine T.vD rfl ?_
           repeat first | refine T.xw ?_ | refine T.xn ?_
           exact T.xm (.exit 0) [.ret] 1 5 (i43_::i31_::i19_::i20_::i21_::(vR l1 lr1 (.exit 0) [.ret] (1 + 1))::t47_) (by rfl) rfl rfl (fun w' hh=>⟨_,rfl,⟨(1 + 1),e2.key.pfs,e2.key.obj,e2.key.off,e2.made,e2.gone,e2.val,rfl,V13,hV13,rfl,(hh.sub (dr1 (kp9 (kp1 kpr))))⟩⟩)
          rw [hc6,cond_false] at hX4
          refine T.uZ ?_
          cases hX4
          repeat first | refine T.v9 ?_ | refine T.wD ?_
          exact T.w7 (.exit 0) [.ret] 5 (i43_::t32_) (by rfl) rfl (fun w' hh=>⟨_,rfl,⟨0,x8,x9,x10,x11,x12,x13,rfl,V13,hV13,rfl,(hh.sub (dr1 (kp9 (kp1 kpr))))⟩⟩)
         rintro v w' ⟨k4,z31,z32,z33,z34,z35,z36,rfl,V12,hV12,rfl,hh⟩
         try dsimp only at hX3
         refine⟨V12,(i31_::i19_::i20_::i21_::(vR l1 lr1 (.exit 0) [.ret] k4)::(vO d1)::(box b5 29 [vi 0])::(box b4 28 [vi z31,vi z32,vi z33,vi z34,vi z35,.string z36])::t22_),hh,?_⟩
         clear hh
         cases k4 with
         | zero =>
          rw [vV] at hX3
          refine TI.a [9] ⟨?_,trivial⟩
          refine TI.br rfl (W1.vJ (W1.l (.bool false) (fun _ _=>by kernel_rfl) ?_))
          refine TI.a [10] ⟨?_,trivial⟩
          refine TI.br rfl (W1.vJ (W1.l (.bool false) (fun _ _=>by kernel_rfl) ?_))
          refine TI.d ?_
          cases hX3
          exact fun a w' hf hh=>⟨0,z31,z32,z33,z34,z35,z36,rfl,V12,(vt (vt hV10 hV11) hV12),(Fr.s hf),(hh.sub (dr1 (kp8 (kp1 kpr))))⟩
         | succ k5 =>
          rw [vX] at hX3
          refine TI.a [9] ⟨?_,trivial⟩
          refine TI.br rfl (W1.vJ (W1.l (.bool true) (fun _ _=>by kernel_rfl) ?_))
          refine TI.a [10] ⟨?_,trivial⟩
          refine TI.br rfl (W1.vJ (W1.l (.bool true) (fun _ _=>by kernel_rfl) ?_))
          refine TI.d ?_
          cases hX3
          exact fun a w' hf hh=>⟨(k5 + 1),z31,z32,z33,z34,z35,z36,rfl,V12,(vt (vt hV10 hV11) hV12),(Fr.s hf),(hh.sub (dr1 (kp8 (kp1 kpr))))⟩
        refine TI.br rfl (W1.vJ (W1.l a74_ (ldN 0) ?_))
        refine TI.a [6] ⟨?_,trivial⟩
        refine TI.br rfl (W1.vJ (W1.l (.func (.yield l1) #[] #[]) (fun _ _=>by kernel_rfl) ?_))
        refine TI.a [8] ⟨?_,trivial⟩
        obtain⟨q6,hX4,hX3⟩:=ob hX3
        refine TI.br rfl (W1R.xj 4 l1 (fun v w'=>∃(k4:Nat) (z31:Int) (z32:Int) (z33:Int) (z34:Int) (z35:Int) (z36:ByteArray),q6=(k4,z31,z32,z33,z34,z35,z36)∧∃(V12:View),View.le V11 V12∧v = .bool (isz k4)∧Hp w V12 (i31_::i19_::i20_::i21_::(vR l1 lr1 (.exit 0) [.ret] k4)::(vO d1)::(box b5 29 [vi 0])::(box b4 28 [vi z31,vi z32,vi z33,vi z34,vi z35,.string z36])::t22_) w') (by rfl) hl1 hl2 hl3 hl4 (by rfl) (by kernel_rfl) rfl (by kernel_rfl) rfl ?_ ?_)
        ·
         refine T.vb (T.uY (W1.np 28 v65_ (fun b12=>?_)))
         let i48_:HObj:=box b12 28 v68_
         refine T.uY (W1.st 0 v68_ (i48_::t32_) v68_ ?_)
         refine T.uX ?_
         refine T.v9 ?_
         refine T.xI 5 (i48_::i31_::i19_::i20_::i21_::(wX l1 lr1)::t26_) (by rfl) rfl ?_
         refine T.vI (T.vd (T.vd (T.vb (T.k (pB b12 0) (T.l (.agg #[vi e2.key.pfs,vi e2.key.obj,vi e2.key.off]) (ldN 0) ?_)))))
         refine T.l a71_ (ldN 10) ?_
         refine T.l (.bool (!(e2.key == p1))) (fun w' hh=>wH e2.key p1 w' rfl rfl rfl) ?_
         refine T.uX ?_
         refine T.cb (!(e2.key == p1)) (fun hc5=>?_) (fun hc5=>?_)
         ·
          rw [hc5,cond_true] at hX4
          refine T.wl ?_
          cases hX4
          repeat first | refine T.xx ?_ | refine T.xo rfl ?_
          exact T.w9 (.exit 0) [.ret] 0 5 (i48_::i31_::i19_::i20_::i21_::(vR l1 lr1 (.exit 0) [.ret] (0 + 1))::t26_) (by rfl) rfl rfl (fun w' hh=>⟨_,rfl,⟨(0 + 1),x8,x9,x10,x11,x12,x13,rfl,V11,vr,rfl,(hh.sub (dr1 (kp9 (kp1 kpr))))⟩⟩)
         rw [hc5,cond_false] at hX4
         refine T.uZ ?_
         refine T.vd (T.vb (T.l a74_ (ldN 0) ?_))
         refine T.l (vi p2) (ld1 9) ?_
         obtain⟨r5,hb7,hX4⟩:=ob hX4
         refine T.uY (W1.w1 (vSc eBool) r5 66 #[a74_,vi p2] (fun w' hh=>xX e2 p2 r5 hb7 w') ?_)
         intro u V13 hV13 hu
         obtain rfl:=xD _ _ _ hu
         refine T.uX ?_
         refine T.cb r5 (fun hc6=>?_) (fun hc6=>?_)
         ·
          rw [hc6,cond_true] at hX4
          refine T.vd (T.vb (T.l a74_ (ldN 0) ?_))
          let i49_:HObj:=box b4 28 v68_
          let t50_:List HObj:=i49_::t22_
          let t51_:List HObj:=(box b5 29 [vi 0])::t50_
          let t52_:List HObj:=(vO d1)::t51_
          refine T.uY (W1.st 8 v68_ (i48_::i31_::i19_::i20_::i21_::(wX l1 lr1)::t52_) v68_ ?_)
          refine T.uY (W1.st 7 [vi 0] (i48_::i31_::i19_::i20_::i21_::(wX l1 lr1)::t52_) [vi 0] ?_)
          refine T.uX ?_
          cases hX4
          refine T.vD rfl ?_
          repeat first | refine T.xw ?_ | refine T.xn ?_
          exact T.xm (.exit 0) [.ret] 1 5 (i48_::i31_::i19_::i20_::i21_::(vR l1 lr1 (.exit 0) [.ret] (1 + 1))::t52_) (by rfl) rfl rfl (fun w' hh=>⟨_,rfl,⟨(1 + 1),e2.key.pfs,e2.key.obj,e2.key.off,e2.made,e2.gone,e2.val,rfl,V13,hV13,rfl,(hh.sub (dr1 (kp9 (kp1 kpr))))⟩⟩)
         rw [hc6,cond_false] at hX4
         refine T.uZ ?_
         cases hX4
         repeat first | refine T.v9 ?_ | refine T.wD ?_
         exact T.w7 (.exit 0) [.ret] 5 (i48_::t32_) (by rfl) rfl (fun w' hh=>⟨_,rfl,⟨0,x8,x9,x10,x11,x12,x13,rfl,V13,hV13,rfl,(hh.sub (dr1 (kp9 (kp1 kpr))))⟩⟩)
        rintro v w' ⟨k4,z31,z32,z33,z34,z35,z36,rfl,V12,hV12,rfl,hh⟩
        try dsimp only at hX3
        refine⟨V12,(i31_::i19_::i20_::i21_::(vR l1 lr1 (.exit 0) [.ret] k4)::(vO d1)::(box b5 29 [vi 0])::(box b4 28 [vi z31,vi z32,vi z33,vi z34,vi z35,.string z36])::t22_),hh,?_⟩
        clear hh
        cases k4 with
        | zero =>
         rw [vV] at hX3
         refine TI.a [9] ⟨?_,trivial⟩
         refine TI.br rfl (W1.vJ (W1.l (.bool false) (fun _ _=>by kernel_rfl) ?_))
         refine TI.a [10] ⟨?_,trivial⟩
         refine TI.br rfl (W1.vJ (W1.l (.bool false) (fun _ _=>by kernel_rfl) ?_))
         refine TI.d ?_
         cases hX3
         exact fun a w' hf hh=>⟨0,z31,z32,z33,z34,z35,z36,rfl,V12,(vt (vt hV10 hV11) hV12),(Fr.s hf),(hh.sub (dr1 (kp8 (kp1 kpr))))⟩
        | succ k5 =>
         rw [vX] at hX3
         refine TI.a [9] ⟨?_,trivial⟩
         refine TI.br rfl (W1.vJ (W1.l (.bool true) (fun _ _=>by kernel_rfl) ?_))
         refine TI.a [10] ⟨?_,trivial⟩
         refine TI.br rfl (W1.vJ (W1.l (.bool true) (fun _ _=>by kernel_rfl) ?_))
         refine TI.d ?_
         cases hX3
         exact fun a w' hf hh=>⟨(k5 + 1),z31,z32,z33,z34,z35,z36,rfl,V12,(vt (vt hV10 hV11) hV12),(Fr.s hf),(hh.sub (dr1 (kp8 (kp1 kpr))))⟩
       refine TI.br rfl (W1.vJ (W1.l a72_ (ldN 2) ?_))
       refine TI.a [0] ⟨?_,trivial⟩
       refine TI.br rfl (W1.vJ (W1.l a74_ (ldN 0) ?_))
       refine TI.a [1] ⟨?_,trivial⟩
       obtain⟨r3,hb5,hX3⟩:=ob hX3
       refine TI.br rfl <| W1.vJ (W1.w1 (vAg eSpot) r3 22 #[a74_] (fun w' hh=>vU e2 r3 hb5 w') ?_)
       intro u V10 hV10 hu
       obtain rfl:=wu _ _ _ hu
       refine TI.a [3] ⟨?_,trivial⟩
       obtain⟨r4,hb6,hX3⟩:=ob hX3
       refine TI.br rfl <| W1.vJ (W1.w1 (vSc va) r4 62 #[.agg #[vi r3.key.pfs,vi r3.key.obj,vi r3.key.off,vi r3.made],a72_] (fun w' hh=>wh r3 (DSpot.mk p1 0) r4 hb6 w') ?_)
       intro u V11 hV11 hu
       obtain rfl:=vE _ _ _ hu
       refine TI.a [4] ⟨?_,trivial⟩
       refine TI.br rfl (W1.vJ (W1.l (.bool (decide ((0:Int)≤r4))) (fun _ _=>by kernel_rfl) ?_))
       refine TI.a [5] ⟨?_,trivial⟩
       refine TI.br rfl (W1.vJ (W1.l (.bool (decide ((0:Int)≤r4))) (fun _ _=>by kernel_rfl) ?_))
       cases hg1:decide ((0:Int)≤r4)
       ·
        rw [hg1,cond_false] at hX3
        refine TI.a [6,7] ⟨?_,?_,trivial⟩
        ·
         refine TI.n ?_
         refine TI.a [7] ⟨?_,trivial⟩
         refine TI.n ?_
         refine TI.a [8] ⟨?_,trivial⟩
         refine TI.n ?_
         refine TI.a [9] ⟨?_,trivial⟩
         refine TI.n ?_
         refine TI.a [10] ⟨?_,trivial⟩
         refine TI.br rfl (W1.vJ (W1.l (.bool false) (fun _ _=>by kernel_rfl) ?_))
         refine TI.d ?_
         cases hX3
         exact fun a w' hf hh=>⟨0,x8,x9,x10,x11,x12,x13,rfl,V11,(vt hV10 hV11),(Fr.s hf),(hh.sub (dr1 (kp8 (kp1 kpr))))⟩
        refine TI.n ?_
        refine TI.a [6] ⟨?_,trivial⟩
        refine TI.n ?_
        refine TI.a [8] ⟨?_,trivial⟩
        refine TI.n ?_
        refine TI.a [9] ⟨?_,trivial⟩
        refine TI.n ?_
        refine TI.a [10] ⟨?_,trivial⟩
        refine TI.br rfl (W1.vJ (W1.l (.bool false) (fun _ _=>by kernel_rfl) ?_))
        refine TI.d ?_
        cases hX3
        exact fun a w' hf hh=>⟨0,x8,x9,x10,x11,x12,x13,rfl,V11,(vt hV10 hV11),(Fr.s hf),(hh.sub (dr1 (kp8 (kp1 kpr))))⟩
       rw [hg1,cond_true] at hX3
       refine TI.a [6,7] ⟨?_,?_,trivial⟩
       ·
        refine TI.br rfl (W1.vJ (W1.l (.func (.yield l1) #[] #[]) (fun _ _=>by kernel_rfl) ?_))
        refine TI.a [7] ⟨?_,trivial⟩
        refine TI.br rfl (W1.vJ (W1.l a74_ (ldN 0) ?_))
        refine TI.a [8] ⟨?_,trivial⟩
        obtain⟨q6,hX4,hX3⟩:=ob hX3
        refine TI.br rfl (W1R.xj 4 l1 (fun v w'=>∃(k4:Nat) (z31:Int) (z32:Int) (z33:Int) (z34:Int) (z35:Int) (z36:ByteArray),q6=(k4,z31,z32,z33,z34,z35,z36)∧∃(V12:View),View.le V11 V12∧v = .bool (isz k4)∧Hp w V12 (i31_::i19_::i20_::i21_::(vR l1 lr1 (.exit 0) [.ret] k4)::(vO d1)::(box b5 29 [vi 0])::(box b4 28 [vi z31,vi z32,vi z33,vi z34,vi z35,.string z36])::t22_) w') (by rfl) hl1 hl2 hl3 hl4 (by rfl) (by kernel_rfl) rfl (by kernel_rfl) rfl ?_ ?_)
        ·
         refine T.vb (T.uY (W1.np 28 v65_ (fun b12=>?_)))
         let i53_:HObj:=box b12 28 v68_
         refine T.uY (W1.st 0 v68_ (i53_::t32_) v68_ ?_)
         refine T.uX ?_
         refine T.v9 ?_
         refine T.xI 5 (i53_::i31_::i19_::i20_::i21_::(wX l1 lr1)::t26_) (by rfl) rfl ?_
         refine T.vI (T.vd (T.vd (T.vb (T.k (pB b12 0) (T.l (.agg #[vi e2.key.pfs,vi e2.key.obj,vi e2.key.off]) (ldN 0) ?_)))))
         refine T.l a71_ (ldN 10) ?_
         refine T.l (.bool (!(e2.key == p1))) (fun w' hh=>wH e2.key p1 w' rfl rfl rfl) ?_
         refine T.uX ?_
         refine T.cb (!(e2.key == p1)) (fun hc5=>?_) (fun hc5=>?_)
         ·
          rw [hc5,cond_true] at hX4
          refine T.wl ?_
          cases hX4
          repeat first | refine T.xx ?_ | refine T.xo rfl ?_
          exact T.w9 (.exit 0) [.ret] 0 5 (i53_::i31_::i19_::i20_::i21_::(vR l1 lr1 (.exit 0) [.ret] (0 + 1))::t26_) (by rfl) rfl rfl (fun w' hh=>⟨_,rfl,⟨(0 + 1),x8,x9,x10,x11,x12,x13,rfl,V11,vr,rfl,(hh.sub (dr1 (kp9 (kp1 kpr))))⟩⟩)
         rw [hc5,cond_false] at hX4
         refine T.uZ ?_
         refine T.vd (T.vb (T.l a74_ (ldN 0) ?_))
         refine T.l (vi p2) (ld1 9) ?_
         obtain⟨r5,hb7,hX4⟩:=ob hX4
         refine T.uY (W1.w1 (vSc eBool) r5 66 #[a74_,vi p2] (fun w' hh=>xX e2 p2 r5 hb7 w') ?_)
         intro u V13 hV13 hu
         obtain rfl:=xD _ _ _ hu
         refine T.uX ?_
         refine T.cb r5 (fun hc6=>?_) (fun hc6=>?_)
         ·
          rw [hc6,cond_true] at hX4
          refine T.vd (T.vb (T.l a74_ (ldN 0) ?_))
          let i54_:HObj:=box b4 28 v68_
          let t55_:List HObj:=i54_::t22_
          let t56_:List HObj:=(box b5 29 [vi 0])::t55_
          let t57_:List HObj:=(vO d1)::t56_
          refine T.uY (W1.st 8 v68_ (i53_::i31_::i19_::i20_::i21_::(wX l1 lr1)::t57_) v68_ ?_)
          refine T.uY (W1.st 7 [vi 0] (i53_::i31_::i19_::i20_::i21_::(wX l1 lr1)::t57_) [vi 0] ?_)
          refine T.uX ?_
          cases hX4
          refine T.vD rfl ?_
          repeat first | refine T.xw ?_ | refine T.xn ?_
          exact T.xm (.exit 0) [.ret] 1 5 (i53_::i31_::i19_::i20_::i21_::(vR l1 lr1 (.exit 0) [.ret] (1 + 1))::t57_) (by rfl) rfl rfl (fun w' hh=>⟨_,rfl,⟨(1 + 1),e2.key.pfs,e2.key.obj,e2.key.off,e2.made,e2.gone,e2.val,rfl,V13,hV13,rfl,(hh.sub (dr1 (kp9 (kp1 kpr))))⟩⟩)
         rw [hc6,cond_false] at hX4
         refine T.uZ ?_
         cases hX4
         repeat first | refine T.v9 ?_ | refine T.wD ?_
         exact T.w7 (.exit 0) [.ret] 5 (i53_::t32_) (by rfl) rfl (fun w' hh=>⟨_,rfl,⟨0,x8,x9,x10,x11,x12,x13,rfl,V13,hV13,rfl,(hh.sub (dr1 (kp9 (kp1 kpr))))⟩⟩)
        rintro v w' ⟨k4,z31,z32,z33,z34,z35,z36,rfl,V12,hV12,rfl,hh⟩
        try dsimp only at hX3
        refine⟨V12,(i31_::i19_::i20_::i21_::(vR l1 lr1 (.exit 0) [.ret] k4)::(vO d1)::(box b5 29 [vi 0])::(box b4 28 [vi z31,vi z32,vi z33,vi z34,vi z35,.string z36])::t22_),hh,?_⟩
        clear hh
        cases k4 with
        | zero =>
         rw [vV] at hX3
         refine TI.a [9] ⟨?_,trivial⟩
         refine TI.br rfl (W1.vJ (W1.l (.bool false) (fun _ _=>by kernel_rfl) ?_))
         refine TI.a [10] ⟨?_,trivial⟩
         refine TI.br rfl (W1.vJ (W1.l (.bool false) (fun _ _=>by kernel_rfl) ?_))
         refine TI.d ?_
         cases hX3
         exact fun a w' hf hh=>⟨0,z31,z32,z33,z34,z35,z36,rfl,V12,(vt (vt hV10 hV11) hV12),(Fr.s hf),(hh.sub (dr1 (kp8 (kp1 kpr))))⟩
        | succ k5 =>
         rw [vX] at hX3
         refine TI.a [9] ⟨?_,trivial⟩
         refine TI.br rfl (W1.vJ (W1.l (.bool true) (fun _ _=>by kernel_rfl) ?_))
         refine TI.a [10] ⟨?_,trivial⟩
         refine TI.br rfl (W1.vJ (W1.l (.bool true) (fun _ _=>by kernel_rfl) ?_))
         refine TI.d ?_
         cases hX3
         exact fun a w' hf hh=>⟨(k5 + 1),z31,z32,z33,z34,z35,z36,rfl,V12,(vt (vt hV10 hV11) hV12),(Fr.s hf),(hh.sub (dr1 (kp8 (kp1 kpr))))⟩
       refine TI.br rfl (W1.vJ (W1.l a74_ (ldN 0) ?_))
       refine TI.a [6] ⟨?_,trivial⟩
       refine TI.br rfl (W1.vJ (W1.l (.func (.yield l1) #[] #[]) (fun _ _=>by kernel_rfl) ?_))
       refine TI.a [8] ⟨?_,trivial⟩
       obtain⟨q6,hX4,hX3⟩:=ob hX3
       refine TI.br rfl (W1R.xj 4 l1 (fun v w'=>∃(k4:Nat) (z31:Int) (z32:Int) (z33:Int) (z34:Int) (z35:Int) (z36:ByteArray),q6=(k4,z31,z32,z33,z34,z35,z36)∧∃(V12:View),View.le V11 V12∧v = .bool (isz k4)∧Hp w V12 (i31_::i19_::i20_::i21_::(vR l1 lr1 (.exit 0) [.ret] k4)::(vO d1)::(box b5 29 [vi 0])::(box b4 28 [vi z31,vi z32,vi z33,vi z34,vi z35,.string z36])::t22_) w') (by rfl) hl1 hl2 hl3 hl4 (by rfl) (by kernel_rfl) rfl (by kernel_rfl) rfl ?_ ?_)
       ·
        refine T.vb (T.uY (W1.np 28 v65_ (fun b12=>?_)))
        let i58_:HObj:=box b12 28 v68_
        refine T.uY (W1.st 0 v68_ (i58_::t32_) v68_ ?_)
        refine T.uX ?_
        refine T.v9 ?_
        refine T.xI 5 (i58_::i31_::i19_::i20_::i21_::(wX l1 lr1)::t26_) (by rfl) rfl ?_
        refine T.vI (T.vd (T.vd (T.vb (T.k (pB b12 0) (T.l (.agg #[vi e2.key.pfs,vi e2.key.obj,vi e2.key.off]) (ldN 0) ?_)))))
        refine T.l a71_ (ldN 10) ?_
        refine T.l (.bool (!(e2.key == p1))) (fun w' hh=>wH e2.key p1 w' rfl rfl rfl) ?_
        refine T.uX ?_
        refine T.cb (!(e2.key == p1)) (fun hc5=>?_) (fun hc5=>?_)
        ·
         rw [hc5,cond_true] at hX4
         refine T.wl ?_
         cases hX4
         repeat first | refine T.xx ?_ | refine T.xo rfl ?_
         exact T.w9 (.exit 0) [.ret] 0 5 (i58_::i31_::i19_::i20_::i21_::(vR l1 lr1 (.exit 0) [.ret] (0 + 1))::t26_) (by rfl) rfl rfl (fun w' hh=>⟨_,rfl,⟨(0 + 1),x8,x9,x10,x11,x12,x13,rfl,V11,vr,rfl,(hh.sub (dr1 (kp9 (kp1 kpr))))⟩⟩)
        rw [hc5,cond_false] at hX4
        refine T.uZ ?_
        refine T.vd (T.vb (T.l a74_ (ldN 0) ?_))
        refine T.l (vi p2) (ld1 9) ?_
        obtain⟨r5,hb7,hX4⟩:=ob hX4
        refine T.uY (W1.w1 (vSc eBool) r5 66 #[a74_,vi p2] (fun w' hh=>xX e2 p2 r5 hb7 w') ?_)
        intro u V13 hV13 hu
        obtain rfl:=xD _ _ _ hu
        refine T.uX ?_
        refine T.cb r5 (fun hc6=>?_) (fun hc6=>?_)
        ·
         rw [hc6,cond_true] at hX4
         refine T.vd (T.vb (T.l a74_ (ldN 0) ?_))
         let i59_:HObj:=box b4 28 v68_
         let t60_:List HObj:=i59_::t22_
         let t61_:List HObj:=(box b5 29 [vi 0])::t60_
         let t62_:List HObj:=(vO d1)::t61_
         refine T.uY (W1.st 8 v68_ (i58_::i31_::i19_::i20_::i21_::(wX l1 lr1)::t62_) v68_ ?_)
         refine T.uY (W1.st 7 [vi 0] (i58_::i31_::i19_::i20_::i21_::(wX l1 lr1)::t62_) [vi 0] ?_)
         refine T.uX ?_
         cases hX4
         refine T.vD rfl ?_
         repeat first | refine T.xw ?_ | refine T.xn ?_
         exact T.xm (.exit 0) [.ret] 1 5 (i58_::i31_::i19_::i20_::i21_::(vR l1 lr1 (.exit 0) [.ret] (1 + 1))::t62_) (by rfl) rfl rfl (fun w' hh=>⟨_,rfl,⟨(1 + 1),e2.key.pfs,e2.key.obj,e2.key.off,e2.made,e2.gone,e2.val,rfl,V13,hV13,rfl,(hh.sub (dr1 (kp9 (kp1 kpr))))⟩⟩)
        rw [hc6,cond_false] at hX4
        refine T.uZ ?_
        cases hX4
        repeat first | refine T.v9 ?_ | refine T.wD ?_
        exact T.w7 (.exit 0) [.ret] 5 (i58_::t32_) (by rfl) rfl (fun w' hh=>⟨_,rfl,⟨0,x8,x9,x10,x11,x12,x13,rfl,V13,hV13,rfl,(hh.sub (dr1 (kp9 (kp1 kpr))))⟩⟩)
       rintro v w' ⟨k4,z31,z32,z33,z34,z35,z36,rfl,V12,hV12,rfl,hh⟩
       try dsimp only at hX3
       refine⟨V12,(i31_::i19_::i20_::i21_::(vR l1 lr1 (.exit 0) [.ret] k4)::(vO d1)::(box b5 29 [vi 0])::(box b4 28 [vi z31,vi z32,vi z33,vi z34,vi z35,.string z36])::t22_),hh,?_⟩
       clear hh
       cases k4 with
       | zero =>
        rw [vV] at hX3
        refine TI.a [9] ⟨?_,trivial⟩
        refine TI.br rfl (W1.vJ (W1.l (.bool false) (fun _ _=>by kernel_rfl) ?_))
        refine TI.a [10] ⟨?_,trivial⟩
        refine TI.br rfl (W1.vJ (W1.l (.bool false) (fun _ _=>by kernel_rfl) ?_))
        refine TI.d ?_
        cases hX3
        exact fun a w' hf hh=>⟨0,z31,z32,z33,z34,z35,z36,rfl,V12,(vt (vt hV10 hV11) hV12),(Fr.s hf),(hh.sub (dr1 (kp8 (kp1 kpr))))⟩
       | succ k5 =>
        rw [vX] at hX3
        refine TI.a [9] ⟨?_,trivial⟩
        refine TI.br rfl (W1.vJ (W1.l (.bool true) (fun _ _=>by kernel_rfl) ?_))
        refine TI.a [10] ⟨?_,trivial⟩
        refine TI.br rfl (W1.vJ (W1.l (.bool true) (fun _ _=>by kernel_rfl) ?_))
        refine TI.d ?_
        cases hX3
        exact fun a w' hf hh=>⟨(k5 + 1),z31,z32,z33,z34,z35,z36,rfl,V12,(vt (vt hV10 hV11) hV12),(Fr.s hf),(hh.sub (dr1 (kp8 (kp1 kpr))))⟩
      rintro a w' ⟨k3,z25,z26,z27,z28,z29,z30,rfl,V9,hV9,hf,hh⟩
      try dsimp only at hY1
      refine(?_:T 59 w V9 (i19_::i20_::i21_::(vR l1 lr1 (.exit 0) [.ret] k3)::(vO d1)::(box b5 29 [vi 0])::(box b4 28 [vi z25,vi z26,vi z27,vi z28,vi z29,.string z30])::t22_) [(3,.func (.yield l1) #[] #[]),(4,pB b8 0),(6,pB b9 0),(9,pB b10 0),(20,.slice A2 e1.elems.length c2),(21,vi (e1.elems.length:Int)),(22,vi x14),(36,.bool (!(isz k3)))] _) a w' hf hh
      clear hf hh
      cases k3 with
      | zero =>
       rw [vV] at hY1
       refine T.cb false (fun h=>Bool.noConfusion h) (fun _=>?_)
       refine T.uZ ?_
       refine T.vb (T.k2 (vi (IntKind.i64.wrap (x14 + 1))) (vi (IntKind.i64.wrap (x14 + 1))) (T.uX ?_))
       cases hY1
       exact fun a w' hf hh=>⟨(z25,z26,z27,z28,z29,z30,IntKind.i64.wrap (x14 + 1)),rfl,z25,z26,z27,z28,z29,z30,(IntKind.i64.wrap (x14 + 1)),rfl,V9,(vt hV7 hV9),(Fr.s hf),(hh.sub (kp8 (kp1 kpr)))⟩
      | succ k6 =>
       rw [vX] at hY1
       refine T.cb true (fun _=>?_) (fun h=>Bool.noConfusion h)
       refine T.vd (T.vb (T.k (.bool false) (T.uX ?_)))
       cases hY1
       cases (hr2 _ rfl)
       try dsimp only at hS1
       have hres:=Option.some.inj hS1
       subst hres
       refine T.vD rfl ?_
       repeat first | refine T.vP ?_ | refine T.vK ?_
       exact T.vH rfl (rT rfl) fun w' hh=>⟨_,rfl,⟨(k6 + 1),z25,z26,z27,z28,z29,z30,rfl,V9,(vt hV7 hV9),rfl,(hh.sub (dr3 (kp5 (kp1 kpr))))⟩⟩
     rw [hc4,cond_false] at hY1
     refine T.wl ?_
     cases hY1
     cases (hr2 _ rfl)
     exact fun a w' hf hh=>⟨x8,x9,x10,x11,x12,x13,rfl,V7,hV7,(Fr.s hf),(hh.sub (kp8 (kp1 kpr)))⟩
    rintro a w' ⟨z19,z20,z21,z22,z23,z24,rfl,V8,hV8,hf,hh⟩
    try dsimp only at hS1
    refine(?_:T 59 w V8 (i19_::i20_::i21_::i18_::(vO d1)::(box b5 29 [vi 0])::(box b4 28 [vi z19,vi z20,vi z21,vi z22,vi z23,.string z24])::t22_) [(3,.func (.yield l1) #[] #[]),(4,pB b8 0),(6,pB b9 0),(9,pB b10 0)] _) a w' hf hh
    clear hf hh
    refine T.vd (T.vd (T.vb (T.k (pB b10 0) (T.l (vi e1.kind) (ld1 0) ?_))))
    refine T.k (.bool (e1.kind == 1)) (T.uX ?_)
    refine T.cb (e1.kind == 1) (fun hc7=>?_) (fun hc7=>?_)
    ·
     rw [hc7,cond_true] at hS1
     refine T.vd (T.vb (T.k (.bool true) (T.uX ?_)))
     have hres:=Option.some.inj hS1
     subst hres
     refine T.vD rfl ?_
     repeat first | refine T.vP ?_ | refine T.vK ?_
     exact T.vH rfl (rT rfl) fun w' hh=>⟨_,rfl,⟨0,z19,z20,z21,z22,z23,z24,rfl,V8,hV8,rfl,(hh.sub (dr3 (kp5 (kp1 kpr))))⟩⟩
    rw [hc7,cond_false] at hS1
    refine T.uZ ?_
    refine T.vd (T.vd ?_)
    refine T.xg (by kernel_rfl) (by kernel_rfl) ?_
    refine TQ.k (pB b10 2) ?_
    refine TQ.l (.slice A3 e1.kids.length c3) (ld1 0) ?_
    refine TQ.l a73_ (ldN 0) ?_
    refine TQ.l a72_ (ldN 1) ?_
    obtain⟨r6,hb8,hS1⟩:=ob hS1
    refine TQ.wA (vSc va) r6 71 #[a73_,a72_] (vi r6) (fun V u hu=>vE V u _ hu) (by kernel_rfl) (fun _=>by kernel_rfl) (fun w' hh=>xU F e1 (DSpot.mk p1 0) r6 hb8 w' A2 c2 (vc.mono (vc.mono hs2 hV8) hh.view) A3 c3 (vc.mono (vc.mono hs3 hV8) hh.view) A4 c4 (vc.mono (vc.mono hs4 hV8) hh.view) A5 c5 (vc.mono (vc.mono hs5 hV8) hh.view)) ?_
    obtain⟨s2,hb9,hS1⟩:=ob hS1
    refine TQ.l (.slice (wa A3 c3 r6.toNat 1) s2.length (c3 - r6.toNat)) (fun w' hh=>vS (e:=3) (s:=1) (lx:=(some _)) (hx:=none) (k:=.i64) (k':=.i64) rfl rfl (by kernel_rfl) (by kernel_rfl) ((vc.mono hs3 hV8)).1 rfl rfl hb9) ?_
    refine TQ.k (vi (s2.length:Int)) ?_
    refine TQ.k (vi 0) ?_
    refine TQ.w6 ?_
    obtain⟨q7,hz3,hS1⟩:=ob hS1
    refine T.wP (fun a w'=>∃(z37:Int) (z38:Int) (z39:Int) (z40:Int) (z41:Int) (z42:ByteArray),q7=Sum.inl (z37,z38,z39,z40,z41,z42)∧∃(V15:View),View.le V8 V15∧Fr 59 [] a∧Hp w V15 (i18_::(vO d1)::(box b5 29 [vi 0])::(box b4 28 [vi z37,vi z38,vi z39,vi z40,vi z41,.string z42])::t22_) w') ?_ ?_
    ·
     refine T.vI ?_
     refine T.wK (fun s3 a w'=>∃(x15:Int) (x16:Int) (x17:Int) (x18:Int) (x19:Int) (x20:ByteArray) (x21:Int),s3=(x15,x16,x17,x18,x19,x20,x21)∧∃(A6:Option Addr) (c6:Nat) (V14:View),View.le V8 V14∧vc V14 va A6 c6 s2∧Fr 59 [(3,.func (.yield l1) #[] #[]),(4,pB b8 0),(6,pB b9 0),(46,.slice A6 s2.length c6),(47,vi (s2.length:Int)),(48,vi x21)] a∧Hp w V14 (i20_::i21_::i18_::(vO d1)::(box b5 29 [vi 0])::(box b4 28 [vi x15,vi x16,vi x17,vi x18,vi x19,.string x20])::t22_) w') hz3 ?_ ?_
     ·
      exact fun a w' hf hh=>⟨z19,z20,z21,z22,z23,z24,0,rfl,(wa A3 c3 r6.toNat 1),(c3 - r6.toNat),V8,vr,(vc.cut (vc.mono hs3 hV8) hb9),(Fr.s hf),(hh.sub (dr1 (kp7 (kp1 kpr))))⟩
     rintro s3 y2 hY2 hr3 a w' ⟨x15,x16,x17,x18,x19,x20,x21,rfl,A6,c6,V14,hV14,hs6,hf,hh⟩
     refine(?_:T 59 w V14 (i20_::i21_::i18_::(vO d1)::(box b5 29 [vi 0])::(box b4 28 [vi x15,vi x16,vi x17,vi x18,vi x19,.string x20])::t22_) [(3,.func (.yield l1) #[] #[]),(4,pB b8 0),(6,pB b9 0),(46,.slice A6 s2.length c6),(47,vi (s2.length:Int)),(48,vi x21)] _) a w' hf hh
     clear hf hh
     try dsimp only at hY2
     refine T.vd (T.vb (T.k (.bool (decide (x21 < (s2.length:Int)))) (T.uX (T.vd ?_))))
     refine T.cb (decide (x21 < (s2.length:Int))) (fun hc8=>?_) (fun hc8=>?_)
     ·
      rw [hc8,cond_true] at hY2
      refine T.uZ ?_
      refine T.vd (T.vI (T.vd (T.vb ?_)))
      obtain⟨e3,hb10,hY2⟩:=ob hY2
      obtain⟨hi7,hi8,hi9⟩:=vn hb10
      refine T.l (.pointer (some ((vT A6).add (x21.toNat * 1)))) (fun w' hh=>vf (e:=3) (s:=1) rfl rfl rfl (by kernel_rfl) (by kernel_rfl) hi7 hi8 (hs6.some_ hi9 (by decide))) ?_
      refine T.l (vi e3) (fun w' hh=>vW rfl rfl (by kernel_rfl) (hh.cell_view (vc.cellF0 (E:=va) hs6 hi9 (fun _ _ _ h=>h) rfl))) ?_
      refine T.k (vi e3) (T.uX ?_)
      obtain⟨q8,hX5,hY2⟩:=ob hY2
      refine T.wk (fun a w'=>∃(k7:Nat) (z43:Int) (z44:Int) (z45:Int) (z46:Int) (z47:Int) (z48:ByteArray),q8=(k7,z43,z44,z45,z46,z47,z48)∧∃(V16:View),View.le V14 V16∧Fr 59 [(3,.func (.yield l1) #[] #[]),(4,pB b8 0),(6,pB b9 0),(46,.slice A6 s2.length c6),(47,vi (s2.length:Int)),(48,vi x21),(57,.bool (!(isz k7)))] a∧Hp w V16 (i20_::i21_::(vR l1 lr1 (.exit 0) [.ret] k7)::(vO d1)::(box b5 29 [vi 0])::(box b4 28 [vi z43,vi z44,vi z45,vi z46,vi z47,.string z48])::t22_) w') ?_ ?_
      ·
       refine T.vb (T.l a70_ (ldN 1) ?_)
       refine T.k (vi e3) (T.l a72_ (ldN 0) ?_)
       refine T.k (.func (.yield l1) #[] #[]) ?_
       obtain⟨q9,hz4,hX5⟩:=ob hX5
       refine T.uY (W1.ci 84 [a70_,vi e3,a72_,.func (.yield l1) #[] #[]] (fun v w'=>∃(z49:Nat) (z50:Int) (z51:Int) (z52:Int) (z53:Int) (z54:Int) (z55:ByteArray),q9=(z49,z50,z51,z52,z53,z54,z55)∧∃(V17:View),View.le V14 V17∧v = .bool (isz z49)∧Hp w V17 ((vR l1 lr1 (.exit 0) [.ret] z49)::(vO d1)::(box b5 29 [vi 0])::(box b4 28 [vi z50,vi z51,vi z52,vi z53,vi z54,.string z55])::(box b3 3 [vi p2])::i14_::i20_::i21_::G1) w') (fun w' hh=>ih1 _ _ hz4 x15 x16 x17 x18 x19 x20 e3 rfl V14 (i20_::i21_::G1) w' (vt (vt hV5 hV8) hV14) ((hh.sub (kp7 (kp1 kpr))).perm (pt sw1 (pt sw0 (pc1 (pt sw1 (pt sw0 (pc1 (pt sw1 (pt sw0 (pc1 (pt sw1 (pt sw0 (pc1 (pt sw1 (pt sw0 (pc1 (pt sw1 (pt sw0 pz))))))))))))))))))) ?_)
       rintro v w' ⟨z49,z50,z51,z52,z53,z54,z55,rfl,V17,hV17,rfl,hh⟩
       try dsimp only at hX5
       refine⟨V17,(i20_::i21_::(vR l1 lr1 (.exit 0) [.ret] z49)::(vO d1)::(box b5 29 [vi 0])::(box b4 28 [vi z50,vi z51,vi z52,vi z53,vi z54,.string z55])::t22_),(hh.sub (kp7 (kp1 kpr))).perm (pt sw5 (pt sw4 (pt sw3 (pt sw2 (pt sw1 (pt sw0 (pc1 (pt sw5 (pt sw4 (pt sw3 (pt sw2 (pt sw1 (pt sw0 pz))))))))))))),?_⟩
       clear hh
       cases z49 with
       | zero =>
        rw [vV] at hX5
        refine T.k (.bool false) (T.uX ?_)
        cases hX5
        exact fun a w' hf hh=>⟨0,z50,z51,z52,z53,z54,z55,rfl,V17,hV17,(Fr.s hf),(hh.sub (kp7 (kp1 kpr)))⟩
       | succ k8 =>
        rw [vX] at hX5
        refine T.k (.bool true) (T.uX ?_)
        cases hX5
        exact fun a w' hf hh=>⟨(k8 + 1),z50,z51,z52,z53,z54,z55,rfl,V17,hV17,(Fr.s hf),(hh.sub (kp7 (kp1 kpr)))⟩
      rintro a w' ⟨k7,z43,z44,z45,z46,z47,z48,rfl,V16,hV16,hf,hh⟩
      try dsimp only at hY2
      refine(?_:T 59 w V16 (i20_::i21_::(vR l1 lr1 (.exit 0) [.ret] k7)::(vO d1)::(box b5 29 [vi 0])::(box b4 28 [vi z43,vi z44,vi z45,vi z46,vi z47,.string z48])::t22_) [(3,.func (.yield l1) #[] #[]),(4,pB b8 0),(6,pB b9 0),(46,.slice A6 s2.length c6),(47,vi (s2.length:Int)),(48,vi x21),(57,.bool (!(isz k7)))] _) a w' hf hh
      clear hf hh
      cases k7 with
      | zero =>
       rw [vV] at hY2
       refine T.cb false (fun h=>Bool.noConfusion h) (fun _=>?_)
       refine T.uZ ?_
       refine T.vb (T.k2 (vi (IntKind.i64.wrap (x21 + 1))) (vi (IntKind.i64.wrap (x21 + 1))) (T.uX ?_))
       cases hY2
       exact fun a w' hf hh=>⟨(z43,z44,z45,z46,z47,z48,IntKind.i64.wrap (x21 + 1)),rfl,z43,z44,z45,z46,z47,z48,(IntKind.i64.wrap (x21 + 1)),rfl,A6,c6,V16,(vt hV14 hV16),(vc.mono hs6 hV16),(Fr.s hf),(hh.sub (kp7 (kp1 kpr)))⟩
      | succ k9 =>
       rw [vX] at hY2
       refine T.cb true (fun _=>?_) (fun h=>Bool.noConfusion h)
       refine T.vd (T.vb (T.k (.bool false) (T.uX ?_)))
       cases hY2
       cases (hr3 _ rfl)
       try dsimp only at hS1
       have hres:=Option.some.inj hS1
       subst hres
       refine T.vD rfl ?_
       repeat first | refine T.vP ?_ | refine T.vK ?_
       exact T.vH rfl (rT rfl) fun w' hh=>⟨_,rfl,⟨(k9 + 1),z43,z44,z45,z46,z47,z48,rfl,V16,(vt (vt hV8 hV14) hV16),rfl,(hh.sub (dr2 (kp5 (kp1 kpr))))⟩⟩
     rw [hc8,cond_false] at hY2
     refine T.wl ?_
     cases hY2
     cases (hr3 _ rfl)
     exact fun a w' hf hh=>⟨x15,x16,x17,x18,x19,x20,rfl,V14,hV14,(Fr.nil hf),(hh.sub (dr2 (kp5 (kp1 kpr))))⟩
    rintro a w' ⟨z37,z38,z39,z40,z41,z42,rfl,V15,hV15,hf,hh⟩
    try dsimp only at hS1
    refine(?_:T 59 w V15 (i18_::(vO d1)::(box b5 29 [vi 0])::(box b4 28 [vi z37,vi z38,vi z39,vi z40,vi z41,.string z42])::t22_) [] _) a w' hf hh
    clear hf hh
    refine T.vd (T.vb (T.k (.bool true) (T.uX ?_)))
    have hres:=Option.some.inj hS1
    subst hres
    refine T.vD rfl ?_
    repeat first | refine T.vP ?_ | refine T.vK ?_
    exact T.vH rfl (rT rfl) fun w' hh=>⟨_,rfl,⟨0,z37,z38,z39,z40,z41,z42,rfl,V15,(vt hV8 hV15),rfl,(hh.sub (kp5 (kp1 kpr)))⟩⟩
   refine T.uY (W1.ci 84 [a70_,vi p0.root,a72_,.func (.yield l1) #[] #[]] (fun v w'=>∃(z56:Nat) (z57:Int) (z58:Int) (z59:Int) (z60:Int) (z61:Int) (z62:ByteArray),q3=(z56,z57,z58,z59,z60,z61,z62)∧∃(V18:View),View.le V2 V18∧v = .bool (isz z56)∧Hp w V18 [vR l1 lr1 (.exit 0) [.ret] z56,vO d1,box b5 29 [vi 0],box b4 28 [vi z57,vi z58,vi z59,vi z60,vi z61,.string z62],box b3 3 [vi p2],box b2 26 v64_,box b7 43 v66_,box b6 24 v63_,box b1 24 v63_] w') (fun w' hh=>hq1 0 0 0 0 0 (ByteArray.mk #[]) p0.root rfl V2 (i16_::i17_::i15_::[]) w' vr ((hh.sub (kp8 (kp1 kp0))).perm (pc2 (pt sw1 (pt sw0 (pc1 (pt sw1 (pt sw0 (pc1 (pt sw1 (pt sw0 (pc1 (pt sw1 (pt sw0 pz)))))))))))))) ?_)
   rintro v w' ⟨z56,z57,z58,z59,z60,z61,z62,rfl,V18,hV18,rfl,hh⟩
   try dsimp only at hX2
   refine⟨V18,[vR l1 lr1 (.exit 0) [.ret] z56,vO d1,box b7 43 v66_,box b6 24 v63_,box b5 29 [vi 0],box b4 28 [vi z57,vi z58,vi z59,vi z60,vi z61,.string z62],box b3 3 [vi p2],box b2 26 v64_,box b1 24 v63_],(hh.sub (kp8 (kp1 kp0))).perm (pc2 (pt sw3 (pt sw2 (pt sw1 (pt sw0 (pc1 (pt sw3 (pt sw2 (pt sw1 (pt sw0 pz)))))))))),?_⟩
   clear hh
   cases z56 with
   | zero =>
    rw [vV] at hX2
    refine T.uX ?_
    cases hX2
    repeat first | refine T.v9 ?_ | refine T.wD ?_
    exact T.xl rfl (fun w' hh=>⟨_,rfl,⟨0,z57,z58,z59,z60,z61,z62,rfl,V18,hV18,(hh.sub (kp2 (dr2 (kp2 (dr2 (dr1 kp0))))))⟩⟩)
   | succ k10 =>
    rw [vX] at hX2
    refine T.uX ?_
    cases hX2
    repeat first | refine T.v9 ?_ | refine T.wD ?_
    exact T.xl rfl (fun w' hh=>⟨_,rfl,⟨(k10 + 1),z57,z58,z59,z60,z61,z62,rfl,V18,hV18,(hh.sub (kp2 (dr2 (kp2 (dr2 (dr1 kp0))))))⟩⟩)
  rintro l1 d1 lr1 w' ⟨k1,z7,z8,z9,z10,z11,z12,rfl,V4,hV4,hh⟩
  try dsimp only at hX1
  let v69_:List Value:=[vi z7,vi z8,vi z9,vi z10,vi z11,.string z12]
  refine⟨V4,[vO d1,box b5 29 [vi 0],box b4 28 v69_],k1,hh,?_⟩
  clear hh
  cases k1 with
  | zero =>
   rw [vV] at hX1
   rw [vV]
   cases hX1
   exact fun a w' hf hh=>⟨z7,z8,z9,z10,z11,z12,rfl,d1,V4,hV4,(Fr.s hf),(hh.sub (kp2 (kp1 kp0)))⟩
  | succ k11 =>
   rw [vX] at hX1
   rw [vX]
   cases k11 with
   | zero =>
    rw [vV] at hX1
    rw [Be]
    refine T.wl ?_
    cases hX1
    exact fun a w' hf hh=>⟨z7,z8,z9,z10,z11,z12,rfl,d1,V4,hV4,(Fr.s hf),(hh.sub (kp2 (kp1 kp0)))⟩
   | succ k12 =>
    rw [vX] at hX1
    rw [Bd]
    rw [BM]
    cases hX1
    try dsimp only at hF
    cases hF
    refine T.vD rfl ?_
    refine T.ya ((box b5 29 [vi 0])::(box b4 28 v69_)::[]) [d1] (fun w' hh=>hh.sub (kp2 (kp1 kp0))) ?_
    exact T.wN rfl (rN 1) (xS.cell1 0 rfl (by rfl) (fun _=>by kernel_rfl)) fun w' hh=>⟨_,rfl,hh.below,(vT2.mk (vAg.mk rfl) (show _ from rfl))⟩
 rintro a w' ⟨z1,z2,z3,z4,z5,z6,rfl,d1,V3,hV3,hf,hh⟩
 try dsimp only at hF
 refine(?_:T ⟨37,[d1]⟩ w V3 [vO d1,box b5 29 [vi 0],box b4 28 [vi z1,vi z2,vi z3,vi z4,vi z5,.string z6]] [(6,pB b4 0),(7,pB b5 0)] _) a w' hf hh
 clear hf hh
 refine T.vd (T.vb (T.k (.agg #[vi 0,vi 0,vi 0,vi 0,vi 0,.string (ByteArray.mk #[])]) (T.uY (W1.st 2 v65_ [vO d1,box b5 29 [vi 0],box b4 28 v65_] v65_ ?_))))
 refine T.uY (W1.st 1 [vi 4] [vO d1,box b5 29 [vi 4],box b4 28 v65_] [vi 4] ?_)
 refine T.uX ?_
 cases hF
 refine T.vD rfl ?_
 refine T.ya ((box b5 29 [vi 4])::(box b4 28 v65_)::[]) [d1] (fun w' hh=>hh.sub (kp2 (kp1 kp0))) ?_
 exact T.wN rfl (rN 1) (xS.cell1 0 rfl (by rfl) (fun _=>by kernel_rfl)) fun w' hh=>⟨_,rfl,hh.below,(vT2.mk (vAg.mk rfl) (show _ from rfl))⟩
end Go.Proofs.Ytcmkdoahkncakaa
