/- The Go functions of group PastA compute its pure functions, where these yield a result. -/
import Derived.Test.YtljbmnknmhogaaaShAT
import Derived.Test.YtljbmnknmhogaaaPastCLT
import Derived.Test.YtljbmnknmhogaaaRangeT
import Derived.Test.YtljbmnknmhogaaaClearT
import Derived.Test.YtljbmnknmhogaaaPastAFT
import Derived.Test.YtljbmnknmhogaaaEqLT
namespace Go.Proofs.Ytljbmnknmhogaaa
open IntKind (i64)
set_option maxRecDepth 100000
set_option maxHeartbeats 4000000
set_option linter.unusedVariables false
theorem qk (F:Nat) (p0:DTree) (p1:DKey) (p2:Int) (r:DElem × Int) (hF:oY F p0 p1 p2=some r) (w:World) (A1:Option Addr) (c1:Nat) (hs1:ib (vw w) ju A1 c1 p0.nodes) :
 Calls Try.prog 14 #[.agg #[.int .i64 p0.root,.slice A1 p0.nodes.length c1],.agg #[.int .i64 p1.pfs,.int .i64 p1.obj,.int .i64 p1.off],.int .i64 p2] w (jZ (vT2 (vAg eElem) (vSc ic)) r w):=by
 unfold oY at hF
 let a70_:Value:=.agg #[vi p0.root,.slice A1 p0.nodes.length c1]
 let a71_:Value:=.agg #[vi p1.pfs,vi p1.obj,vi p1.off]
 refine T.mu (l:=[a70_,a71_,vi p2]) Try.func14 rfl rfl rfl ?_
 refine T.ie (T.ia ?_)
 let v63_:List Value:=[vi p0.root,.slice A1 p0.nodes.length c1]
 refine T.gZ (W1.np 27 v63_ (fun b1=>?_))
 let v64_:List Value:=[vi p1.pfs,vi p1.obj,vi p1.off]
 refine T.gZ (W1.np 33 v64_ (fun b2=>?_))
 refine T.gZ (W1.np 3 [vi p2] (fun b3=>?_))
 let v65_:List Value:=[vi 0,vi 0,vi 0,vi 0,vi 0,.string (ByteArray.mk #[])]
 refine T.gZ (W1.np 47 v65_ (fun b4=>?_))
 refine T.gZ (W1.np 35 [vi 0] (fun b5=>?_))
 refine T.gO (T.ie (T.ie (T.ia (T.l a70_ (ldN 4) ?_))))
 obtain⟨r1,hb1,hF⟩:=ob hF
 refine T.gZ (W1.w1 (vSc ic) r1 19 #[a70_] (fun w' hh=>lu F p0 r1 hb1 w' A1 c1 (ib.mono hs1 hh.view)) ?_)
 intro u V1 hV1 hu
 obtain rfl:=il _ _ _ hu
 refine T.k (vi r1) (T.gO (T.ie (T.ia (T.k2 (vi r1) (.bool (r1 != 0)) (T.gO ?_)))))
 refine T.cb (r1 != 0) (fun hc1=>?_) (fun hc1=>?_)
 ·
  rw [hc1,cond_true] at hF
  refine T.ie (T.ia (T.k2 (.agg #[vi 0,vi 0,vi 0,vi 0,vi 0,.string (ByteArray.mk #[])]) (vi r1) ?_))
  let i1_:HObj:=box b4 47 v65_
  let i2_:HObj:=box b2 33 v64_
  let i3_:HObj:=box b1 27 v63_
  let t4_:List HObj:=i2_::i3_::[]
  let t5_:List HObj:=(box b3 3 [vi p2])::t4_
  let t6_:List HObj:=i1_::t5_
  refine T.gZ (W1.st 1 v65_ ((box b5 35 [vi 0])::t6_) v65_ ?_)
  refine T.gZ (W1.st 0 [vi r1] ((box b5 35 [vi r1])::t6_) [vi r1] ?_)
  refine T.gO ?_
  cases hF
  refine T.ik rfl ?_
  refine T.kf ((box b5 35 [vi r1])::t6_) [] (fun w' hh=>hh.u) ?_
  exact T.jf rfl (rN 1) (kF.cell1 0 rfl (by rfl) (fun _=>by kernel_rfl)) fun w' hh=>⟨_,rfl,hh.below,(vT2.mk (vAg.mk rfl) (show _ from rfl))⟩
 rw [hc1,cond_false] at hF
 refine T.hJ ?_
 refine T.ie (T.ie (T.ia (T.l a71_ (ldN 3) ?_)))
 obtain⟨r2,hb2,hF⟩:=ob hF
 refine T.gZ (W1.w1 (vSc ic) r2 31 #[a71_] (fun w' hh=>lg p1 r2 hb2 w') ?_)
 intro u V2 hV2 hu
 obtain rfl:=il _ _ _ hu
 refine T.k (vi r2) (T.gO (T.ie (T.ia (T.k2 (vi r2) (.bool (r2 != 0)) (T.gO ?_)))))
 refine T.cb (r2 != 0) (fun hc2=>?_) (fun hc2=>?_)
 ·
  rw [hc2,cond_true] at hF
  refine T.ie (T.ia (T.k2 (.agg #[vi 0,vi 0,vi 0,vi 0,vi 0,.string (ByteArray.mk #[])]) (vi r2) ?_))
  let i7_:HObj:=box b4 47 v65_
  let i8_:HObj:=box b2 33 v64_
  let i9_:HObj:=box b1 27 v63_
  let t10_:List HObj:=i8_::i9_::[]
  let t11_:List HObj:=(box b3 3 [vi p2])::t10_
  let t12_:List HObj:=i7_::t11_
  refine T.gZ (W1.st 1 v65_ ((box b5 35 [vi 0])::t12_) v65_ ?_)
  refine T.gZ (W1.st 0 [vi r2] ((box b5 35 [vi r2])::t12_) [vi r2] ?_)
  refine T.gO ?_
  cases hF
  refine T.ik rfl ?_
  refine T.kf ((box b5 35 [vi r2])::t12_) [] (fun w' hh=>hh.u) ?_
  exact T.jf rfl (rN 1) (kF.cell1 0 rfl (by rfl) (fun _=>by kernel_rfl)) fun w' hh=>⟨_,rfl,hh.below,(vT2.mk (vAg.mk rfl) (show _ from rfl))⟩
 rw [hc2,cond_false] at hF
 refine T.hJ ?_
 obtain⟨q1,hX1,hF⟩:=ob hF
 refine T.iZ (fun a w'=>∃(z1:Int) (z2:Int) (z3:Int) (z4:Int) (z5:Int) (z6:ByteArray),q1=Sum.inl (z1,z2,z3,z4,z5,z6)∧∃(d1:Nat) (V3:View),View.le V2 V3∧Fr ⟨37,[d1]⟩ [(6,pB b4 0),(7,pB b5 0)] a∧Hp w V3 [iu d1,box b5 35 [vi 0],box b4 47 [vi z1,vi z2,vi z3,vi z4,vi z5,.string z6]] w') ?_ ?_
 ·
  refine T.ie (T.ia (T.l a70_ (ldN 4) ?_))
  refine T.l a71_ (ldN 3) ?_
  let a72_:Value:=.agg #[vi p1.pfs,vi p1.obj,vi p1.off,vi 0]
  refine T.k a72_ ?_
  let i13_:HObj:=box b4 47 v65_
  let i14_:HObj:=box b2 33 v64_
  let i15_:HObj:=box b1 27 v63_
  let v66_:List Value:=[vi p1.pfs,vi p1.obj,vi p1.off,vi 0]
  refine T.gZ (W1.jx 37 [a70_,a72_] (fun v w'=>∃(b7:Nat) (b6:Nat),v = .func (.func 53) #[] #[pB b6 0,pB b7 0]∧Hp w V2 ((box b7 76 v66_)::(box b6 27 v63_)::(box b5 35 [vi 0])::i13_::(box b3 3 [vi p2])::i14_::i15_::[]) w') Try.func37 rfl rfl (by kernel_rfl) (fun _=>by kernel_rfl) rfl ?_ ?_)
  ·
   refine T.ie (T.ia (T.gZ (W1.np 27 v63_ (fun b6=>?_))))
   refine T.gZ (W1.np 76 v66_ (fun b7=>?_))
   refine T.k (.nilFunc) (T.gO (T.ie (T.ia (T.k2 (.func (.func 53) #[] #[pB b6 0,pB b7 0]) (.func (.func 53) #[] #[pB b6 0,pB b7 0]) (T.gO ?_)))))
   refine T.ik rfl ?_
   exact T.ir rfl (rT rfl) fun w' hh=>⟨_,rfl,⟨b7,b6,rfl,(hh.u)⟩⟩
  rintro v w' ⟨b7,b6,rfl,hh⟩
  let i16_:HObj:=box b7 76 v66_
  let i17_:HObj:=box b6 27 v63_
  refine⟨V2,(i16_::i17_::(box b5 35 [vi 0])::i13_::(box b3 3 [vi p2])::i14_::i15_::[]),hh,?_⟩
  clear hh
  refine T.gO (T.im ?_)
  obtain⟨q2,hX2,hX1⟩:=ob hX1
  refine T.m7 (gf:=53) (lb:=[pB b6 0,pB b7 0]) (.exit 0) [.ret] (fun l1 d1 lr1 w'=>∃(k1:Nat) (z7:Int) (z8:Int) (z9:Int) (z10:Int) (z11:Int) (z12:ByteArray),q2=(k1,z7,z8,z9,z10,z11,z12)∧∃(V4:View),View.le V2 V4∧Hp w V4 [iC l1 lr1 (.exit 0) [.ret] k1,iu d1,box b5 35 [vi 0],box b4 47 [vi z7,vi z8,vi z9,vi z10,vi z11,.string z12]] w') (by kernel_rfl) (by kernel_rfl) (fun _ _=>by kernel_rfl) ?_ ?_
  ·
   intro l1 d1 lr1 hl1 hl2 hl3 hl4 w1 hh
   refine T.jj (l:=[.func (.yield l1) #[] #[],pB b6 0,pB b7 0]) Try.func53 rfl rfl rfl ?_ hh
   clear hh
   refine T.ia (T.l a70_ (ldN 3) ?_)
   refine T.k (pB b6 0) (T.l (vi p0.root) (ld1 3) ?_)
   refine T.l a72_ (ldN 2) ?_
   refine T.k (.func (.yield l1) #[] #[]) ?_
   obtain⟨q3,hz1,hX2⟩:=ob hX2
   let i18_:HObj:=iC l1 lr1 (.exit 0) [.ret] 0
   refine(have hq1:=kZ (fun (s_:Int × Int × Int × Int × Int × ByteArray × Int) (r_:Nat × Int × Int × Int × Int × Int × ByteArray)=>∀(x1:Int) (x2:Int) (x3:Int) (x4:Int) (x5:Int) (x6:ByteArray) (x7:Int),s_=(x1,x2,x3,x4,x5,x6,x7)→∀(V5:View) (G1:List HObj) (w1:World),View.le V2 V5→Hp w V5 (i18_::(iu d1)::(box b5 35 [vi 0])::(box b4 47 [vi x1,vi x2,vi x3,vi x4,vi x5,.string x6])::(box b3 3 [vi p2])::i14_::G1) w1→Calls Try.prog 54 #[a70_,vi x7,a72_,.func (.yield l1) #[] #[]] w1 (fun e w2=>∃ v,e = .returned v∧∃(k2:Nat) (z13:Int) (z14:Int) (z15:Int) (z16:Int) (z17:Int) (z18:ByteArray),r_=(k2,z13,z14,z15,z16,z17,z18)∧∃(V6:View),View.le V5 V6∧v = .bool (isz k2)∧Hp w V6 ((iC l1 lr1 (.exit 0) [.ret] k2)::(iu d1)::(box b5 35 [vi 0])::(box b4 47 [vi z13,vi z14,vi z15,vi z16,vi z17,.string z18])::(box b3 3 [vi p2])::i14_::G1) w2)) hz1 ?_;?_)
   ·
    rintro rf1 ih1 s_ r_ hS1 x1 x2 x3 x4 x5 x6 x7 rfl V5 G1 w1 hV5 hh
    try dsimp only at hS1
    refine T.jj (l:=[a70_,vi x7,a72_,.func (.yield l1) #[] #[]]) Try.func54 rfl rfl rfl ?_ hh
    clear hh
    refine T.ie (T.ia (T.gZ (W1.np 27 v63_ (fun b8=>?_))))
    refine T.gZ (W1.np 76 v66_ (fun b9=>?_))
    refine T.k (.bool false) (T.gO (T.ie (T.ia (T.k (pB b8 1) (T.l (.slice A1 p0.nodes.length c1) (ld1 1) ?_)))))
    refine T.k (vi x7) ?_
    obtain⟨e1,hb3,hS1⟩:=ob hS1
    obtain⟨hi1,hi2,hi3⟩:=ij hb3
    obtain⟨cs1,hr1,hc3⟩:=ib.elem (ib.mono hs1 (vt (vt hV1 hV2) hV5)) hi3
    obtain⟨A2,c2,A3,c3,A4,c4,A5,c5,rfl,hs2,hs3,hs4,hs5⟩:=hr1
    refine T.l (.pointer (some ((iI A1).add (x7.toNat * 5)))) (fun w' hh=>ig (e:=57) (s:=5) rfl rfl rfl (by kernel_rfl) (by kernel_rfl) hi1 hi2 ((ib.mono hs1 (vt (vt hV1 hV2) hV5)).some_ hi3 (by decide))) ?_
    let v67_:List Value:=[vi e1.kind,.slice A2 e1.elems.length c2,.slice A3 e1.kids.length c3,.slice A4 e1.seps.length c4,.slice A5 e1.tids.length c5]
    let a73_:Value:=.agg #[vi e1.kind,.slice A2 e1.elems.length c2,.slice A3 e1.kids.length c3,.slice A4 e1.seps.length c4,.slice A5 e1.tids.length c5]
    refine T.l a73_ (fun w' hh=>lN (fun j u hj=>hh.cell_view (View.cell_mono vr (hc3 j u hj).2))) ?_
    refine T.gZ (W1.np 57 [vi 0,sN,sN,sN,sN] (fun b10=>?_))
    let i19_:HObj:=box b10 57 v67_
    let i20_:HObj:=box b9 76 v66_
    let i21_:HObj:=box b8 27 v63_
    let t22_:List HObj:=(box b3 3 [vi p2])::i14_::G1
    refine T.gZ (W1.st 0 v67_ (i19_::i20_::i21_::i18_::(iu d1)::(box b5 35 [vi 0])::(box b4 47 [vi x1,vi x2,vi x3,vi x4,vi x5,.string x6])::t22_) v67_ ?_)
    refine T.gO (T.ie (T.ie (T.ia (T.k (pB b10 1) (T.l (.slice A2 e1.elems.length c2) (ld1 0) ?_)))))
    refine T.k2 (vi (e1.elems.length:Int)) (vi 0) (T.gO ?_)
    obtain⟨q4,hz2,hS1⟩:=ob hS1
    refine T.jw (fun a w'=>∃(z19:Int) (z20:Int) (z21:Int) (z22:Int) (z23:Int) (z24:ByteArray),q4=Sum.inl (z19,z20,z21,z22,z23,z24)∧∃(V8:View),View.le V5 V8∧Fr 59 [(3,.func (.yield l1) #[] #[]),(4,pB b8 0),(6,pB b9 0),(9,pB b10 0)] a∧Hp w V8 (i19_::i20_::i21_::i18_::(iu d1)::(box b5 35 [vi 0])::(box b4 47 [vi z19,vi z20,vi z21,vi z22,vi z23,.string z24])::t22_) w') ?_ ?_
    ·
     refine T.im ?_
     refine T.jl (fun s1 a w'=>∃(x8:Int) (x9:Int) (x10:Int) (x11:Int) (x12:Int) (x13:ByteArray) (x14:Int),s1=(x8,x9,x10,x11,x12,x13,x14)∧∃(V7:View),View.le V5 V7∧Fr 59 [(3,.func (.yield l1) #[] #[]),(4,pB b8 0),(6,pB b9 0),(9,pB b10 0),(20,.slice A2 e1.elems.length c2),(21,vi (e1.elems.length:Int)),(22,vi x14)] a∧Hp w V7 (i19_::i20_::i21_::i18_::(iu d1)::(box b5 35 [vi 0])::(box b4 47 [vi x8,vi x9,vi x10,vi x11,vi x12,.string x13])::t22_) w') hz2 ?_ ?_
     ·
      exact fun a w' hf hh=>⟨x1,x2,x3,x4,x5,x6,0,rfl,V5,vr,(Fr.s hf),(hh.u)⟩
     rintro s1 y1 hY1 hr2 a w' ⟨x8,x9,x10,x11,x12,x13,x14,rfl,V7,hV7,hf,hh⟩
     let i23_:HObj:=box b4 47 [vi x8,vi x9,vi x10,vi x11,vi x12,.string x13]
     let t24_:List HObj:=i23_::t22_
     let t25_:List HObj:=(box b5 35 [vi 0])::t24_
     let t26_:List HObj:=(iu d1)::t25_
     let t27_:List HObj:=i18_::t26_
     let t28_:List HObj:=i21_::t27_
     let t29_:List HObj:=i20_::t28_
     let t30_:List HObj:=i19_::t29_
     refine(?_:T 59 w V7 t30_ [(3,.func (.yield l1) #[] #[]),(4,pB b8 0),(6,pB b9 0),(9,pB b10 0),(20,.slice A2 e1.elems.length c2),(21,vi (e1.elems.length:Int)),(22,vi x14)] _) a w' hf hh
     clear hf hh
     try dsimp only at hY1
     refine T.ie (T.ia (T.k (.bool (decide (x14 < (e1.elems.length:Int)))) (T.gO (T.ie ?_))))
     refine T.cb (decide (x14 < (e1.elems.length:Int))) (fun hc4=>?_) (fun hc4=>?_)
     ·
      rw [hc4,cond_true] at hY1
      refine T.hJ ?_
      refine T.ie (T.im (T.ie (T.ia ?_)))
      obtain⟨e2,hb4,hY1⟩:=ob hY1
      obtain⟨hi4,hi5,hi6⟩:=ij hb4
      refine T.l (.pointer (some ((iI A2).add (x14.toNat * 6)))) (fun w' hh=>ig (e:=47) (s:=6) rfl rfl rfl (by kernel_rfl) (by kernel_rfl) hi4 hi5 ((ib.mono hs2 hV7).some_ hi6 (by decide))) ?_
      let v68_:List Value:=[vi e2.key.pfs,vi e2.key.obj,vi e2.key.off,vi e2.made,vi e2.gone,.string e2.val]
      let a74_:Value:=.agg #[vi e2.key.pfs,vi e2.key.obj,vi e2.key.off,vi e2.made,vi e2.gone,.string e2.val]
      refine T.l a74_ (fun w' hh=>lN (fun j u hj=>(hh.cell_view (ib.cellF (E:=eElem) (ib.mono hs2 hV7) hi6 j (fun _ _ _ h=>h) hj)))) ?_
      refine T.gZ (W1.np 47 v65_ (fun b11=>?_))
      let i31_:HObj:=box b11 47 v68_
      let t32_:List HObj:=i31_::t30_
      refine T.gZ (W1.st 0 v68_ t32_ v68_ ?_)
      refine T.gO ?_
      obtain⟨q5,hX3,hY1⟩:=ob hY1
      refine T.iZ (fun a w'=>∃(k3:Nat) (z25:Int) (z26:Int) (z27:Int) (z28:Int) (z29:Int) (z30:ByteArray),q5=(k3,z25,z26,z27,z28,z29,z30)∧∃(V9:View),View.le V7 V9∧Fr 59 [(3,.func (.yield l1) #[] #[]),(4,pB b8 0),(6,pB b9 0),(9,pB b10 0),(20,.slice A2 e1.elems.length c2),(21,vi (e1.elems.length:Int)),(22,vi x14),(36,.bool (!(isz k3)))] a∧Hp w V9 (i19_::i20_::i21_::(iC l1 lr1 (.exit 0) [.ret] k3)::(iu d1)::(box b5 35 [vi 0])::(box b4 47 [vi z25,vi z26,vi z27,vi z28,vi z29,.string z30])::t22_) w') ?_ ?_
      ·
       refine T.pA (by kernel_rfl) ?_
       refine TI.a [0,2] ⟨?_,?_,trivial⟩
       ·
        refine TI.br rfl (W1.io (W1.l a74_ (ldN 0) ?_))
        refine TI.a [1,2] ⟨?_,?_,trivial⟩
        ·
         obtain⟨r3,hb5,hX3⟩:=ob hX3
         refine TI.br rfl <| W1.io (W1.w1 (vAg eSpot) r3 33 #[a74_] (fun w' hh=>iL e2 r3 hb5 w') ?_)
         intro u V10 hV10 hu
         obtain rfl:=jk _ _ _ hu
         refine TI.a [2] ⟨?_,trivial⟩
         refine TI.br rfl (W1.io (W1.l a72_ (ldN 2) ?_))
         refine TI.a [3] ⟨?_,trivial⟩
         obtain⟨r4,hb6,hX3⟩:=ob hX3
         refine TI.br rfl <| W1.io (W1.w1 (vSc ic) r4 46 #[.agg #[vi r3.key.pfs,vi r3.key.obj,vi r3.key.off,vi r3.made],a72_] (fun w' hh=>iU r3 (DSpot.mk p1 0) r4 hb6 w') ?_)
         intro u V11 hV11 hu
         obtain rfl:=il _ _ _ hu
         refine TI.a [4] ⟨?_,trivial⟩
         refine TI.br rfl (W1.io (W1.l (.bool (decide ((0:Int)≤r4))) (fun _ _=>by kernel_rfl) ?_))
         refine TI.a [5] ⟨?_,trivial⟩
         refine TI.br rfl (W1.io (W1.l (.bool (decide ((0:Int)≤r4))) (fun _ _=>by kernel_rfl) ?_))
         cases hg1:decide ((0:Int)≤r4)
         ·
          rw [hg1,cond_false] at hX3
          refine TI.a [6,7] ⟨?_,?_,trivial⟩
          ·
           refine TI.n ?_
           refine TI.a [7] ⟨?_,trivial⟩
           refine TI.n ?_
           refine TI.a [8] ⟨?_,trivial⟩
           refine TI.n ?_
           refine TI.a [9] ⟨?_,trivial⟩
           refine TI.n ?_
           refine TI.a [10] ⟨?_,trivial⟩
           refine TI.br rfl (W1.io (W1.l (.bool false) (fun _ _=>by kernel_rfl) ?_))
           refine TI.d ?_
           cases hX3
           exact fun a w' hf hh=>⟨0,x8,x9,x10,x11,x12,x13,rfl,V11,(vt hV10 hV11),(Fr.s hf),(hh.u)⟩
          refine TI.n ?_
          refine TI.a [6] ⟨?_,trivial⟩
          refine TI.n ?_
          refine TI.a [8] ⟨?_,trivial⟩
          refine TI.n ?_
          refine TI.a [9] ⟨?_,trivial⟩
          refine TI.n ?_
          refine TI.a [10] ⟨?_,trivial⟩
          refine TI.br rfl (W1.io (W1.l (.bool false) (fun _ _=>by kernel_rfl) ?_))
          refine TI.d ?_
          cases hX3
          exact fun a w' hf hh=>⟨0,x8,x9,x10,x11,x12,x13,rfl,V11,(vt hV10 hV11),(Fr.s hf),(hh.u)⟩
         rw [hg1,cond_true] at hX3
         refine TI.a [6,7] ⟨?_,?_,trivial⟩
         ·
          refine TI.br rfl (W1.io (W1.l (.func (.yield l1) #[] #[]) (fun _ _=>by kernel_rfl) ?_))
          refine TI.a [7] ⟨?_,trivial⟩
          refine TI.br rfl (W1.io (W1.l a74_ (ldN 0) ?_))
          refine TI.a [8] ⟨?_,trivial⟩
          obtain⟨q6,hX4,hX3⟩:=ob hX3
          refine TI.br rfl (W1R.jO 4 l1 (fun v w'=>∃(k4:Nat) (z31:Int) (z32:Int) (z33:Int) (z34:Int) (z35:Int) (z36:ByteArray),q6=(k4,z31,z32,z33,z34,z35,z36)∧∃(V12:View),View.le V11 V12∧v = .bool (isz k4)∧Hp w V12 (i31_::i19_::i20_::i21_::(iC l1 lr1 (.exit 0) [.ret] k4)::(iu d1)::(box b5 35 [vi 0])::(box b4 47 [vi z31,vi z32,vi z33,vi z34,vi z35,.string z36])::t22_) w') (by rfl) hl1 hl2 hl3 hl4 (by rfl) (by kernel_rfl) rfl (by kernel_rfl) rfl ?_ ?_)
          ·
           refine T.ia (T.gZ (W1.np 47 v65_ (fun b12=>?_)))
           let i33_:HObj:=box b12 47 v68_
           refine T.gZ (W1.st 0 v68_ (i33_::t32_) v68_ ?_)
           refine T.gO ?_
           refine T.iH ?_
           refine T.kp 5 (i33_::i31_::i19_::i20_::i21_::(jv l1 lr1)::t26_) (by rfl) rfl ?_
           refine T.im (T.ie (T.ie (T.ia (T.k (pB b12 0) (T.l (.agg #[vi e2.key.pfs,vi e2.key.obj,vi e2.key.off]) (ldN 0) ?_)))))
           refine T.l a71_ (ldN 10) ?_
           refine T.l (.bool (!(e2.key == p1))) (fun w' hh=>jt e2.key p1 w' rfl rfl rfl) ?_
           refine T.gO ?_
           refine T.cb (!(e2.key == p1)) (fun hc5=>?_) (fun hc5=>?_)
           ·
            rw [hc5,cond_true] at hX4
            refine T.iO ?_
            cases hX4
            repeat first | refine T.jW ?_ | refine T.jM rfl ?_
            exact T.jD (.exit 0) [.ret] 0 5 (i33_::i31_::i19_::i20_::i21_::(iC l1 lr1 (.exit 0) [.ret] (0 + 1))::t26_) (by rfl) rfl rfl (fun w' hh=>⟨_,rfl,⟨(0 + 1),x8,x9,x10,x11,x12,x13,rfl,V11,vr,rfl,(hh.u)⟩⟩)
           rw [hc5,cond_false] at hX4
           refine T.hJ ?_
           refine T.ie (T.ia (T.l a74_ (ldN 0) ?_))
           refine T.l (vi p2) (ld1 9) ?_
           obtain⟨r5,hb7,hX4⟩:=ob hX4
           refine T.gZ (W1.w1 (vSc eBool) r5 38 #[a74_,vi p2] (fun w' hh=>ko e2 p2 r5 hb7 w') ?_)
           intro u V13 hV13 hu
           obtain rfl:=jL _ _ _ hu
           refine T.gO ?_
           refine T.cb r5 (fun hc6=>?_) (fun hc6=>?_)
           ·
            rw [hc6,cond_true] at hX4
            refine T.ie (T.ia (T.l a74_ (ldN 0) ?_))
            let i34_:HObj:=box b4 47 v68_
            let t35_:List HObj:=i34_::t22_
            let t36_:List HObj:=(box b5 35 [vi 0])::t35_
            let t37_:List HObj:=(iu d1)::t36_
            refine T.gZ (W1.st 8 v68_ (i33_::i31_::i19_::i20_::i21_::(jv l1 lr1)::t37_) v68_ ?_)
            refine T.gZ (W1.st 7 [vi 0] (i33_::i31_::i19_::i20_::i21_::(jv l1 lr1)::t37_) [vi 0] ?_)
            refine T.gO ?_
            cases hX4
            refine T.ik rfl ?_
            repeat first | refine T.j4 ?_ | refine T.jV ?_
            exact T.jU (.exit 0) [.ret] 1 5 (i33_::i31_::i19_::i20_::i21_::(iC l1 lr1 (.exit 0) [.ret] (1 + 1))::t37_) (by rfl) rfl rfl (fun w' hh=>⟨_,rfl,⟨(1 + 1),e2.key.pfs,e2.key.obj,e2.key.off,e2.made,e2.gone,e2.val,rfl,V13,hV13,rfl,(hh.u)⟩⟩)
           rw [hc6,cond_false] at hX4
           refine T.hJ ?_
           cases hX4
           repeat first | refine T.iH ?_ | refine T.iS ?_
           exact T.jq (.exit 0) [.ret] 5 (i33_::t32_) (by rfl) rfl (fun w' hh=>⟨_,rfl,⟨0,x8,x9,x10,x11,x12,x13,rfl,V13,hV13,rfl,(hh.u)⟩⟩)
          rintro v w' ⟨k4,z31,z32,z33,z34,z35,z36,rfl,V12,hV12,rfl,hh⟩
          try dsimp only at hX3
          refine⟨V12,(i31_::i19_::i20_::i21_::(iC l1 lr1 (.exit 0) [.ret] k4)::(iu d1)::(box b5 35 [vi 0])::(box b4 47 [vi z31,vi z32,vi z33,vi z34,vi z35,.string z36])::t22_),hh,?_⟩
          clear hh
          cases k4 with
          | zero =>
           rw [iD] at hX3
           refine TI.a [9] ⟨?_,trivial⟩
           refine TI.br rfl (W1.io (W1.l (.bool false) (fun _ _=>by kernel_rfl) ?_))
           refine TI.a [10] ⟨?_,trivial⟩
           refine TI.br rfl (W1.io (W1.l (.bool false) (fun _ _=>by kernel_rfl) ?_))
           refine TI.d ?_
           cases hX3
           exact fun a w' hf hh=>⟨0,z31,z32,z33,z34,z35,z36,rfl,V12,(vt (vt hV10 hV11) hV12),(Fr.s hf),(hh.u)⟩
          | succ k5 =>
           rw [iF] at hX3
           refine TI.a [9] ⟨?_,trivial⟩
           refine TI.br rfl (W1.io (W1.l (.bool true) (fun _ _=>by kernel_rfl) ?_))
           refine TI.a [10] ⟨?_,trivial⟩
           refine TI.br rfl (W1.io (W1.l (.bool true) (fun _ _=>by kernel_rfl) ?_))
           refine TI.d ?_
           cases hX3
           exact fun a w' hf hh=>⟨(k5 + 1),z31,z32,z33,z34,z35,z36,rfl,V12,(vt (vt hV10 hV11) hV12),(Fr.s hf),(hh.u)⟩
         refine TI.br rfl (W1.io (W1.l a74_ (ldN 0) ?_))
         refine TI.a [6] ⟨?_,trivial⟩
         refine TI.br rfl (W1.io (W1.l (.func (.yield l1) #[] #[]) (fun _ _=>by kernel_rfl) ?_))
         refine TI.a [8] ⟨?_,trivial⟩
         obtain⟨q6,hX4,hX3⟩:=ob hX3
         refine TI.br rfl (W1R.jO 4 l1 (fun v w'=>∃(k4:Nat) (z31:Int) (z32:Int) (z33:Int) (z34:Int) (z35:Int) (z36:ByteArray),q6=(k4,z31,z32,z33,z34,z35,z36)∧∃(V12:View),View.le V11 V12∧v = .bool (isz k4)∧Hp w V12 (i31_::i19_::i20_::i21_::(iC l1 lr1 (.exit 0) [.ret] k4)::(iu d1)::(box b5 35 [vi 0])::(box b4 47 [vi z31,vi z32,vi z33,vi z34,vi z35,.string z36])::t22_) w') (by rfl) hl1 hl2 hl3 hl4 (by rfl) (by kernel_rfl) rfl (by kernel_rfl) rfl ?_ ?_)
         ·
          refine T.ia (T.gZ (W1.np 47 v65_ (fun b12=>?_)))
          let i38_:HObj:=box b12 47 v68_
          refine T.gZ (W1.st 0 v68_ (i38_::t32_) v68_ ?_)
          refine T.gO ?_
          refine T.iH ?_
          refine T.kp 5 (i38_::i31_::i19_::i20_::i21_::(jv l1 lr1)::t26_) (by rfl) rfl ?_
          refine T.im (T.ie (T.ie (T.ia (T.k (pB b12 0) (T.l (.agg #[vi e2.key.pfs,vi e2.key.obj,vi e2.key.off]) (ldN 0) ?_)))))
          refine T.l a71_ (ldN 10) ?_
          refine T.l (.bool (!(e2.key == p1))) (fun w' hh=>jt e2.key p1 w' rfl rfl rfl) ?_
          refine T.gO ?_
          refine T.cb (!(e2.key == p1)) (fun hc5=>?_) (fun hc5=>?_)
          ·
           rw [hc5,cond_true] at hX4
           refine T.iO ?_
           cases hX4
           repeat first | refine T.jW ?_ | refine T.jM rfl ?_
           exact T.jD (.exit 0) [.ret] 0 5 (i38_::i31_::i19_::i20_::i21_::(iC l1 lr1 (.exit 0) [.ret] (0 + 1))::t26_) (by rfl) rfl rfl (fun w' hh=>⟨_,rfl,⟨(0 + 1),x8,x9,x10,x11,x12,x13,rfl,V11,vr,rfl,(hh.u)⟩⟩)
          rw [hc5,cond_false] at hX4
          refine T.hJ ?_
          refine T.ie (T.ia (T.l a74_ (ldN 0) ?_))
          refine T.l (vi p2) (ld1 9) ?_
          obtain⟨r5,hb7,hX4⟩:=ob hX4
          refine T.gZ (W1.w1 (vSc eBool) r5 38 #[a74_,vi p2] (fun w' hh=>ko e2 p2 r5 hb7 w') ?_)
          intro u V13 hV13 hu
          obtain rfl:=jL _ _ _ hu
          refine T.gO ?_
          refine T.cb r5 (fun hc6=>?_) (fun hc6=>?_)
          ·
           rw [hc6,cond_true] at hX4
           refine T.ie (T.ia (T.l a74_ (ldN 0) ?_))
           let i39_:HObj:=box b4 47 v68_
           let t40_:List HObj:=i39_::t22_
           let t41_:List HObj:=(box b5 35 [vi 0])::t40_
           let t42_:List HObj:=(iu d1)::t41_
           refine T.gZ (W1.st 8 v68_ (i38_::i31_::i19_::i20_::i21_::(jv l1 lr1)::t42_) v68_ ?_)
           refine T.gZ (W1.st 7 [vi 0] (i38_::i31_::i19_::i20_::i21_::(jv l1 lr1)::t42_) [vi 0] ?_)
           refine T.gO ?_
           cases hX4
           refine T.ik rfl ?_
           repeat first | refine T.j4 ?_ | refine T.jV ?_
           exact T.jU (.exit 0) [.ret] 1 5 (i38_::i31_::i19_::i20_::i21_::(iC l1 lr1 (.exit 0) [.ret] (1 + 1))::t42_) (by rfl) rfl rfl (fun w' hh=>⟨_,rfl,⟨(1 + 1),e2.key.pfs,e2.key.obj,e2.key.off,e2.made,e2.gone,e2.val,rfl,V13,hV13,rfl,(hh.u)⟩⟩)
          rw [hc6,cond_false] at hX4
          refine T.hJ ?_
          cases hX4
          repeat first | refine T.iH ?_ | refine T.iS ?_
          exact T.jq (.exit 0) [.ret] 5 (i38_::t32_) (by rfl) rfl (fun w' hh=>⟨_,rfl,⟨0,x8,x9,x10,x11,x12,x13,rfl,V13,hV13,rfl,(hh.u)⟩⟩)
         rintro v w' ⟨k4,z31,z32,z33,z34,z35,z36,rfl,V12,hV12,rfl,hh⟩
         try dsimp only at hX3
         refine⟨V12,(i31_::i19_::i20_::i21_::(iC l1 lr1 (.exit 0) [.ret] k4)::(iu d1)::(box b5 35 [vi 0])::(box b4 47 [vi z31,vi z32,vi z33,vi z34,vi z35,.string z36])::t22_),hh,?_⟩
         clear hh
         cases k4 with
         | zero =>
          rw [iD] at hX3
          refine TI.a [9] ⟨?_,trivial⟩
          refine TI.br rfl (W1.io (W1.l (.bool false) (fun _ _=>by kernel_rfl) ?_))
          refine TI.a [10] ⟨?_,trivial⟩
          refine TI.br rfl (W1.io (W1.l (.bool false) (fun _ _=>by kernel_rfl) ?_))
          refine TI.d ?_
          cases hX3
          exact fun a w' hf hh=>⟨0,z31,z32,z33,z34,z35,z36,rfl,V12,(vt (vt hV10 hV11) hV12),(Fr.s hf),(hh.u)⟩
         | succ k5 =>
          rw [iF] at hX3
          refine TI.a [9] ⟨?_,trivial⟩
          refine TI.br rfl (W1.io (W1.l (.bool true) (fun _ _=>by kernel_rfl) ?_))
          refine TI.a [10] ⟨?_,trivial⟩
          refine TI.br rfl (W1.io (W1.l (.bool true) (fun _ _=>by kernel_rfl) ?_))
          refine TI.d ?_
          cases hX3
          exact fun a w' hf hh=>⟨(k5 + 1),z31,z32,z33,z34,z35,z36,rfl,V12,(vt (vt hV10 hV11) hV12),(Fr.s hf),(hh.u)⟩
        refine TI.br rfl (W1.io (W1.l a72_ (ldN 2) ?_))
        refine TI.a [1] ⟨?_,trivial⟩
        obtain⟨r3,hb5,hX3⟩:=ob hX3
        refine TI.br rfl <| W1.io (W1.w1 (vAg eSpot) r3 33 #[a74_] (fun w' hh=>iL e2 r3 hb5 w') ?_)
        intro u V10 hV10 hu
        obtain rfl:=jk _ _ _ hu
        refine TI.a [3] ⟨?_,trivial⟩
        obtain⟨r4,hb6,hX3⟩:=ob hX3
        refine TI.br rfl <| W1.io (W1.w1 (vSc ic) r4 46 #[.agg #[vi r3.key.pfs,vi r3.key.obj,vi r3.key.off,vi r3.made],a72_] (fun w' hh=>iU r3 (DSpot.mk p1 0) r4 hb6 w') ?_)
        intro u V11 hV11 hu
        obtain rfl:=il _ _ _ hu
        refine TI.a [4] ⟨?_,trivial⟩
        refine TI.br rfl (W1.io (W1.l (.bool (decide ((0:Int)≤r4))) (fun _ _=>by kernel_rfl) ?_))
        refine TI.a [5] ⟨?_,trivial⟩
        refine TI.br rfl (W1.io (W1.l (.bool (decide ((0:Int)≤r4))) (fun _ _=>by kernel_rfl) ?_))
        cases hg1:decide ((0:Int)≤r4)
        ·
         rw [hg1,cond_false] at hX3
         refine TI.a [6,7] ⟨?_,?_,trivial⟩
         ·
          refine TI.n ?_
          refine TI.a [7] ⟨?_,trivial⟩
          refine TI.n ?_
          refine TI.a [8] ⟨?_,trivial⟩
          refine TI.n ?_
          refine TI.a [9] ⟨?_,trivial⟩
          refine TI.n ?_
          refine TI.a [10] ⟨?_,trivial⟩
          refine TI.br rfl (W1.io (W1.l (.bool false) (fun _ _=>by kernel_rfl) ?_))
          refine TI.d ?_
          cases hX3
          exact fun a w' hf hh=>⟨0,x8,x9,x10,x11,x12,x13,rfl,V11,(vt hV10 hV11),(Fr.s hf),(hh.u)⟩
         refine TI.n ?_
         refine TI.a [6] ⟨?_,trivial⟩
         refine TI.n ?_
         refine TI.a [8] ⟨?_,trivial⟩
         refine TI.n ?_
         refine TI.a [9] ⟨?_,trivial⟩
         refine TI.n ?_
         refine TI.a [10] ⟨?_,trivial⟩
         refine TI.br rfl (W1.io (W1.l (.bool false) (fun _ _=>by kernel_rfl) ?_))
         refine TI.d ?_
         cases hX3
         exact fun a w' hf hh=>⟨0,x8,x9,x10,x11,x12,x13,rfl,V11,(vt hV10 hV11),(Fr.s hf),(hh.u)⟩
        rw [hg1,cond_true] at hX3
        refine TI.a [6,7] ⟨?_,?_,trivial⟩
        ·
         refine TI.br rfl (W1.io (W1.l (.func (.yield l1) #[] #[]) (fun _ _=>by kernel_rfl) ?_))
         refine TI.a [7] ⟨?_,trivial⟩
         refine TI.br rfl (W1.io (W1.l a74_ (ldN 0) ?_))
         refine TI.a [8] ⟨?_,trivial⟩
         obtain⟨q6,hX4,hX3⟩:=ob hX3
         refine TI.br rfl (W1R.jO 4 l1 (fun v w'=>∃(k4:Nat) (z31:Int) (z32:Int) (z33:Int) (z34:Int) (z35:Int) (z36:ByteArray),q6=(k4,z31,z32,z33,z34,z35,z36)∧∃(V12:View),View.le V11 V12∧v = .bool (isz k4)∧Hp w V12 (i31_::i19_::i20_::i21_::(iC l1 lr1 (.exit 0) [.ret] k4)::(iu d1)::(box b5 35 [vi 0])::(box b4 47 [vi z31,vi z32,vi z33,vi z34,vi z35,.string z36])::t22_) w') (by rfl) hl1 hl2 hl3 hl4 (by rfl) (by kernel_rfl) rfl (by kernel_rfl) rfl ?_ ?_)
         ·
          refine T.ia (T.gZ (W1.np 47 v65_ (fun b12=>?_)))
          let i43_:HObj:=box b12 47 v68_
          refine T.gZ (W1.st 0 v68_ (i43_::t32_) v68_ ?_)
          refine T.gO ?_
          refine T.iH ?_
          refine T.kp 5 (i43_::i31_::i19_::i20_::i21_::(jv l1 lr1)::t26_) (by rfl) rfl ?_
          refine T.im (T.ie (T.ie (T.ia (T.k (pB b12 0) (T.l (.agg #[vi e2.key.pfs,vi e2.key.obj,vi e2.key.off]) (ldN 0) ?_)))))
          refine T.l a71_ (ldN 10) ?_
          refine T.l (.bool (!(e2.key == p1))) (fun w' hh=>jt e2.key p1 w' rfl rfl rfl) ?_
          refine T.gO ?_
          refine T.cb (!(e2.key == p1)) (fun hc5=>?_) (fun hc5=>?_)
          ·
           rw [hc5,cond_true] at hX4
           refine T.iO ?_
           cases hX4
           repeat first | refine T.jW ?_ | refine T.jM rfl ?_
           exact T.jD (.exit 0) [.ret] 0 5 (i43_::i31_::i19_::i20_::i21_::(iC l1 lr1 (.exit 0) [.ret] (0 + 1))::t26_) (by rfl) rfl rfl (fun w' hh=>⟨_,rfl,⟨(0 + 1),x8,x9,x10,x11,x12,x13,rfl,V11,vr,rfl,(hh.u)⟩⟩)
          rw [hc5,cond_false] at hX4
          refine T.hJ ?_
          refine T.ie (T.ia (T.l a74_ (ldN 0) ?_))
          refine T.l (vi p2) (ld1 9) ?_
          obtain⟨r5,hb7,hX4⟩:=ob hX4
          refine T.gZ (W1.w1 (vSc eBool) r5 38 #[a74_,vi p2] (fun w' hh=>ko e2 p2 r5 hb7 w') ?_)
          intro u V13 hV13 hu
          obtain rfl:=jL _ _ _ hu
          refine T.gO ?_
          refine T.cb r5 (fun hc6=>?_) (fun hc6=>?_)
          ·
           rw [hc6,cond_true] at hX4
           refine T.ie (T.ia (T.l a74_ (ldN 0) ?_))
           let i44_:HObj:=box b4 47 v68_
           let t45_:List HObj:=i44_::t22_
           let t46_:List HObj:=(box b5 35 [vi 0])::t45_
           let t47_:List HObj:=(iu d1)::t46_
           refine T.gZ (W1.st 8 v68_ (i43_::i31_::i19_::i20_::i21_::(jv l1 lr1)::t47_) v68_ ?_)
           refine T.gZ (W1.st 7 [vi 0] (i43_::i31_::i19_::i20_::i21_::(jv l1 lr1)::t47_) [vi 0] ?_)
           refine T.gO ?_
           cases hX4
           refine T.ik rfl ?_
           repeat first | refine T.j4 ?_ | refine T.jV ?_
           exact T.jU (.exit 0) [.ret] 1 5 (i43_::i31_::i19_::i20_::i21_::(iC l1 lr1 (.exit 0) [.ret] (1 + 1))::t47_) (by rfl) rfl rfl (fun w' hh=>⟨_,rfl,⟨(1 + 1),e2.key.pfs,e2.key.obj,e2.key.off,e2.made,e2.gone,e2.val,rfl,V13,hV13,rfl,(hh.u)⟩⟩)
          rw [hc6,cond_false] at hX4
          refine T.hJ ?_
          cases hX4
          repeat first | refine T.iH ?_ | refine T.iS ?_
          exact T.jq (.exit 0) [.ret] 5 (i43_::t32_) (by rfl) rfl (fun w' hh=>⟨_,rfl,⟨0,x8,x9,x10,x11,x12,x13,rfl,V13,hV13,rfl,(hh.u)⟩⟩)
         rintro v w' ⟨k4,z31,z32,z33,z34,z35,z36,rfl,V12,hV12,rfl,hh⟩
         try dsimp only at hX3
         refine⟨V12,(i31_::i19_::i20_::i21_::(iC l1 lr1 (.exit 0) [.ret] k4)::(iu d1)::(box b5 35 [vi 0])::(box b4 47 [vi z31,vi z32,vi z33,vi z34,vi z35,.string z36])::t22_),hh,?_⟩
         clear hh
         cases k4 with
         | zero =>
          rw [iD] at hX3
          refine TI.a [9] ⟨?_,trivial⟩
          refine TI.br rfl (W1.io (W1.l (.bool false) (fun _ _=>by kernel_rfl) ?_))
          refine TI.a [10] ⟨?_,trivial⟩
          refine TI.br rfl (W1.io (W1.l (.bool false) (fun _ _=>by kernel_rfl) ?_))
          refine TI.d ?_
          cases hX3
          exact fun a w' hf hh=>⟨0,z31,z32,z33,z34,z35,z36,rfl,V12,(vt (vt hV10 hV11) hV12),(Fr.s hf),(hh.u)⟩
         | succ k5 =>
          rw [iF] at hX3
          refine TI.a [9] ⟨?_,trivial⟩
          refine TI.br rfl (W1.io (W1.l (.bool true) (fun _ _=>by kernel_rfl) ?_))
          refine TI.a [10] ⟨?_,trivial⟩
          refine TI.br rfl (W1.io (W1.l (.bool true) (fun _ _=>by kernel_rfl) ?_))
          refine TI.d ?_
          cases hX3
          exact fun a w' hf hh=>⟨(k5 + 1),z31,z32,z33,z34,z35,z36,rfl,V12,(vt (vt hV10 hV11) hV12),(Fr.s hf),(hh.u)⟩
        refine TI.br rfl (W1.io (W1.l a74_ (ldN 0) ?_))
        refine TI.a [6] ⟨?_,trivial⟩
        refine TI.br rfl (W1.io (W1.l (.func (.yield l1) #[] #[]) (fun _ _=>by kernel_rfl) ?_))
        refine TI.a [8] ⟨?_,trivial⟩
        obtain⟨q6,hX4,hX3⟩:=ob hX3
        refine TI.br rfl (W1R.jO 4 l1 (fun v w'=>∃(k4:Nat) (z31:Int) (z32:Int) (z33:Int) (z34:Int) (z35:Int) (z36:ByteArray),q6=(k4,z31,z32,z33,z34,z35,z36)∧∃(V12:View),View.le V11 V12∧v = .bool (isz k4)∧Hp w V12 (i31_::i19_::i20_::i21_::(iC l1 lr1 (.exit 0) [.ret] k4)::(iu d1)::(box b5 35 [vi 0])::(box b4 47 [vi z31,vi z32,vi z33,vi z34,vi z35,.string z36])::t22_) w') (by rfl) hl1 hl2 hl3 hl4 (by rfl) (by kernel_rfl) rfl (by kernel_rfl) rfl ?_ ?_)
        ·
         refine T.ia (T.gZ (W1.np 47 v65_ (fun b12=>?_)))
         let i48_:HObj:=box b12 47 v68_
         refine T.gZ (W1.st 0 v68_ (i48_::t32_) v68_ ?_)
         refine T.gO ?_
         refine T.iH ?_
         refine T.kp 5 (i48_::i31_::i19_::i20_::i21_::(jv l1 lr1)::t26_) (by rfl) rfl ?_
         refine T.im (T.ie (T.ie (T.ia (T.k (pB b12 0) (T.l (.agg #[vi e2.key.pfs,vi e2.key.obj,vi e2.key.off]) (ldN 0) ?_)))))
         refine T.l a71_ (ldN 10) ?_
         refine T.l (.bool (!(e2.key == p1))) (fun w' hh=>jt e2.key p1 w' rfl rfl rfl) ?_
         refine T.gO ?_
         refine T.cb (!(e2.key == p1)) (fun hc5=>?_) (fun hc5=>?_)
         ·
          rw [hc5,cond_true] at hX4
          refine T.iO ?_
          cases hX4
          repeat first | refine T.jW ?_ | refine T.jM rfl ?_
          exact T.jD (.exit 0) [.ret] 0 5 (i48_::i31_::i19_::i20_::i21_::(iC l1 lr1 (.exit 0) [.ret] (0 + 1))::t26_) (by rfl) rfl rfl (fun w' hh=>⟨_,rfl,⟨(0 + 1),x8,x9,x10,x11,x12,x13,rfl,V11,vr,rfl,(hh.u)⟩⟩)
         rw [hc5,cond_false] at hX4
         refine T.hJ ?_
         refine T.ie (T.ia (T.l a74_ (ldN 0) ?_))
         refine T.l (vi p2) (ld1 9) ?_
         obtain⟨r5,hb7,hX4⟩:=ob hX4
         refine T.gZ (W1.w1 (vSc eBool) r5 38 #[a74_,vi p2] (fun w' hh=>ko e2 p2 r5 hb7 w') ?_)
         intro u V13 hV13 hu
         obtain rfl:=jL _ _ _ hu
         refine T.gO ?_
         refine T.cb r5 (fun hc6=>?_) (fun hc6=>?_)
         ·
          rw [hc6,cond_true] at hX4
          refine T.ie (T.ia (T.l a74_ (ldN 0) ?_))
          let i49_:HObj:=box b4 47 v68_
          let t50_:List HObj:=i49_::t22_
          let t51_:List HObj:=(box b5 35 [vi 0])::t50_
          let t52_:List HObj:=(iu d1)::t51_
          refine T.gZ (W1.st 8 v68_ (i48_::i31_::i19_::i20_::i21_::(jv l1 lr1)::t52_) v68_ ?_)
          refine T.gZ (W1.st 7 [vi 0] (i48_::i31_::i19_::i20_::i21_::(jv l1 lr1)::t52_) [vi 0] ?_)
          refine T.gO ?_
          cases hX4
          refine T.ik rfl ?_
          repeat first | refine T.j4 ?_ | refine T.jV ?_
          exact T.jU (.exit 0) [.ret] 1 5 (i48_::i31_::i19_::i20_::i21_::(iC l1 lr1 (.exit 0) [.ret] (1 + 1))::t52_) (by rfl) rfl rfl (fun w' hh=>⟨_,rfl,⟨(1 + 1),e2.key.pfs,e2.key.obj,e2.key.off,e2.made,e2.gone,e2.val,rfl,V13,hV13,rfl,(hh.u)⟩⟩)
         rw [hc6,cond_false] at hX4
         refine T.hJ ?_
         cases hX4
         repeat first | refine T.iH ?_ | refine T.iS ?_
         exact T.jq (.exit 0) [.ret] 5 (i48_::t32_) (by rfl) rfl (fun w' hh=>⟨_,rfl,⟨0,x8,x9,x10,x11,x12,x13,rfl,V13,hV13,rfl,(hh.u)⟩⟩)
        rintro v w' ⟨k4,z31,z32,z33,z34,z35,z36,rfl,V12,hV12,rfl,hh⟩
        try dsimp only at hX3
        refine⟨V12,(i31_::i19_::i20_::i21_::(iC l1 lr1 (.exit 0) [.ret] k4)::(iu d1)::(box b5 35 [vi 0])::(box b4 47 [vi z31,vi z32,vi z33,vi z34,vi z35,.string z36])::t22_),hh,?_⟩
        clear hh
        cases k4 with
        | zero =>
         rw [iD] at hX3
         refine TI.a [9] ⟨?_,trivial⟩
         refine TI.br rfl (W1.io (W1.l (.bool false) (fun _ _=>by kernel_rfl) ?_))
         refine TI.a [10] ⟨?_,trivial⟩
         refine TI.br rfl (W1.io (W1.l (.bool false) (fun _ _=>by kernel_rfl) ?_))
         refine TI.d ?_
         cases hX3
         exact fun a w' hf hh=>⟨0,z31,z32,z33,z34,z35,z36,rfl,V12,(vt (vt hV10 hV11) hV12),(Fr.s hf),(hh.u)⟩
        | succ k5 =>
         rw [iF] at hX3
         refine TI.a [9] ⟨?_,trivial⟩
         refine TI.br rfl (W1.io (W1.l (.bool true) (fun _ _=>by kernel_rfl) ?_))
         refine TI.a [10] ⟨?_,trivial⟩
         refine TI.br rfl (W1.io (W1.l (.bool true) (fun _ _=>by kernel_rfl) ?_))
         refine TI.d ?_
         cases hX3
         exact fun a w' hf hh=>⟨(k5 + 1),z31,z32,z33,z34,z35,z36,rfl,V12,(vt (vt hV10 hV11) hV12),(Fr.s hf),(hh.u)⟩
       refine TI.br rfl (W1.io (W1.l a72_ (ldN 2) ?_))
       refine TI.a [0] ⟨?_,trivial⟩
       refine TI.br rfl (W1.io (W1.l a74_ (ldN 0) ?_))
       refine TI.a [1] ⟨?_,trivial⟩
       obtain⟨r3,hb5,hX3⟩:=ob hX3
       refine TI.br rfl <| W1.io (W1.w1 (vAg eSpot) r3 33 #[a74_] (fun w' hh=>iL e2 r3 hb5 w') ?_)
       intro u V10 hV10 hu
       obtain rfl:=jk _ _ _ hu
       refine TI.a [3] ⟨?_,trivial⟩
       obtain⟨r4,hb6,hX3⟩:=ob hX3
       refine TI.br rfl <| W1.io (W1.w1 (vSc ic) r4 46 #[.agg #[vi r3.key.pfs,vi r3.key.obj,vi r3.key.off,vi r3.made],a72_] (fun w' hh=>iU r3 (DSpot.mk p1 0) r4 hb6 w') ?_)
       intro u V11 hV11 hu
       obtain rfl:=il _ _ _ hu
       refine TI.a [4] ⟨?_,trivial⟩
       refine TI.br rfl (W1.io (W1.l (.bool (decide ((0:Int)≤r4))) (fun _ _=>by kernel_rfl) ?_))
       refine TI.a [5] ⟨?_,trivial⟩
       refine TI.br rfl (W1.io (W1.l (.bool (decide ((0:Int)≤r4))) (fun _ _=>by kernel_rfl) ?_))
       cases hg1:decide ((0:Int)≤r4)
       ·
        rw [hg1,cond_false] at hX3
        refine TI.a [6,7] ⟨?_,?_,trivial⟩
        ·
         refine TI.n ?_
         refine TI.a [7] ⟨?_,trivial⟩
         refine TI.n ?_
         refine TI.a [8] ⟨?_,trivial⟩
         refine TI.n ?_
         refine TI.a [9] ⟨?_,trivial⟩
         refine TI.n ?_
         refine TI.a [10] ⟨?_,trivial⟩
         refine TI.br rfl (W1.io (W1.l (.bool false) (fun _ _=>by kernel_rfl) ?_))
         refine TI.d ?_
         cases hX3
         exact fun a w' hf hh=>⟨0,x8,x9,x10,x11,x12,x13,rfl,V11,(vt hV10 hV11),(Fr.s hf),(hh.u)⟩
        refine TI.n ?_
        refine TI.a [6] ⟨?_,trivial⟩
        refine TI.n ?_
        refine TI.a [8] ⟨?_,trivial⟩
        refine TI.n ?_
        refine TI.a [9] ⟨?_,trivial⟩
        refine TI.n ?_
        refine TI.a [10] ⟨?_,trivial⟩
        refine TI.br rfl (W1.io (W1.l (.bool false) (fun _ _=>by kernel_rfl) ?_))
        refine TI.d ?_
        cases hX3
        exact fun a w' hf hh=>⟨0,x8,x9,x10,x11,x12,x13,rfl,V11,(vt hV10 hV11),(Fr.s hf),(hh.u)⟩
       rw [hg1,cond_true] at hX3
       refine TI.a [6,7] ⟨?_,?_,trivial⟩
       ·
        refine TI.br rfl (W1.io (W1.l (.func (.yield l1) #[] #[]) (fun _ _=>by kernel_rfl) ?_))
        refine TI.a [7] ⟨?_,trivial⟩
        refine TI.br rfl (W1.io (W1.l a74_ (ldN 0) ?_))
        refine TI.a [8] ⟨?_,trivial⟩
        obtain⟨q6,hX4,hX3⟩:=ob hX3
        refine TI.br rfl (W1R.jO 4 l1 (fun v w'=>∃(k4:Nat) (z31:Int) (z32:Int) (z33:Int) (z34:Int) (z35:Int) (z36:ByteArray),q6=(k4,z31,z32,z33,z34,z35,z36)∧∃(V12:View),View.le V11 V12∧v = .bool (isz k4)∧Hp w V12 (i31_::i19_::i20_::i21_::(iC l1 lr1 (.exit 0) [.ret] k4)::(iu d1)::(box b5 35 [vi 0])::(box b4 47 [vi z31,vi z32,vi z33,vi z34,vi z35,.string z36])::t22_) w') (by rfl) hl1 hl2 hl3 hl4 (by rfl) (by kernel_rfl) rfl (by kernel_rfl) rfl ?_ ?_)
        ·
         refine T.ia (T.gZ (W1.np 47 v65_ (fun b12=>?_)))
         let i53_:HObj:=box b12 47 v68_
         refine T.gZ (W1.st 0 v68_ (i53_::t32_) v68_ ?_)
         refine T.gO ?_
         refine T.iH ?_
         refine T.kp 5 (i53_::i31_::i19_::i20_::i21_::(jv l1 lr1)::t26_) (by rfl) rfl ?_
         refine T.im (T.ie (T.ie (T.ia (T.k (pB b12 0) (T.l (.agg #[vi e2.key.pfs,vi e2.key.obj,vi e2.key.off]) (ldN 0) ?_)))))
         refine T.l a71_ (ldN 10) ?_
         refine T.l (.bool (!(e2.key == p1))) (fun w' hh=>jt e2.key p1 w' rfl rfl rfl) ?_
         refine T.gO ?_
         refine T.cb (!(e2.key == p1)) (fun hc5=>?_) (fun hc5=>?_)
         ·
          rw [hc5,cond_true] at hX4
          refine T.iO ?_
          cases hX4
          repeat first | refine T.jW ?_ | refine T.jM rfl ?_
          exact T.jD (.exit 0) [.ret] 0 5 (i53_::i31_::i19_::i20_::i21_::(iC l1 lr1 (.exit 0) [.ret] (0 + 1))::t26_) (by rfl) rfl rfl (fun w' hh=>⟨_,rfl,⟨(0 + 1),x8,x9,x10,x11,x12,x13,rfl,V11,vr,rfl,(hh.u)⟩⟩)
         rw [hc5,cond_false] at hX4
         refine T.hJ ?_
         refine T.ie (T.ia (T.l a74_ (ldN 0) ?_))
         refine T.l (vi p2) (ld1 9) ?_
         obtain⟨r5,hb7,hX4⟩:=ob hX4
         refine T.gZ (W1.w1 (vSc eBool) r5 38 #[a74_,vi p2] (fun w' hh=>ko e2 p2 r5 hb7 w') ?_)
         intro u V13 hV13 hu
         obtain rfl:=jL _ _ _ hu
         refine T.gO ?_
         refine T.cb r5 (fun hc6=>?_) (fun hc6=>?_)
         ·
          rw [hc6,cond_true] at hX4
          refine T.ie (T.ia (T.l a74_ (ldN 0) ?_))
          let i54_:HObj:=box b4 47 v68_
          let t55_:List HObj:=i54_::t22_
          let t56_:List HObj:=(box b5 35 [vi 0])::t55_
          let t57_:List HObj:=(iu d1)::t56_
          refine T.gZ (W1.st 8 v68_ (i53_::i31_::i19_::i20_::i21_::(jv l1 lr1)::t57_) v68_ ?_)
          refine T.gZ (W1.st 7 [vi 0] (i53_::i31_::i19_::i20_::i21_::(jv l1 lr1)::t57_) [vi 0] ?_)
          refine T.gO ?_
          cases hX4
          refine T.ik rfl ?_
          repeat first | refine T.j4 ?_ | refine T.jV ?_
          exact T.jU (.exit 0) [.ret] 1 5 (i53_::i31_::i19_::i20_::i21_::(iC l1 lr1 (.exit 0) [.ret] (1 + 1))::t57_) (by rfl) rfl rfl (fun w' hh=>⟨_,rfl,⟨(1 + 1),e2.key.pfs,e2.key.obj,e2.key.off,e2.made,e2.gone,e2.val,rfl,V13,hV13,rfl,(hh.u)⟩⟩)
         rw [hc6,cond_false] at hX4
         refine T.hJ ?_
         cases hX4
         repeat first | refine T.iH ?_ | refine T.iS ?_
         exact T.jq (.exit 0) [.ret] 5 (i53_::t32_) (by rfl) rfl (fun w' hh=>⟨_,rfl,⟨0,x8,x9,x10,x11,x12,x13,rfl,V13,hV13,rfl,(hh.u)⟩⟩)
        rintro v w' ⟨k4,z31,z32,z33,z34,z35,z36,rfl,V12,hV12,rfl,hh⟩
        try dsimp only at hX3
        refine⟨V12,(i31_::i19_::i20_::i21_::(iC l1 lr1 (.exit 0) [.ret] k4)::(iu d1)::(box b5 35 [vi 0])::(box b4 47 [vi z31,vi z32,vi z33,vi z34,vi z35,.string z36])::t22_),hh,?_⟩
        clear hh
        cases k4 with
        | zero =>
         rw [iD] at hX3
         refine TI.a [9] ⟨?_,trivial⟩
         refine TI.br rfl (W1.io (W1.l (.bool false) (fun _ _=>by kernel_rfl) ?_))
         refine TI.a [10] ⟨?_,trivial⟩
         refine TI.br rfl (W1.io (W1.l (.bool false) (fun _ _=>by kernel_rfl) ?_))
         refine TI.d ?_
         cases hX3
         exact fun a w' hf hh=>⟨0,z31,z32,z33,z34,z35,z36,rfl,V12,(vt (vt hV10 hV11) hV12),(Fr.s hf),(hh.u)⟩
        | succ k5 =>
         rw [iF] at hX3
         refine TI.a [9] ⟨?_,trivial⟩
         refine TI.br rfl (W1.io (W1.l (.bool true) (fun _ _=>by kernel_rfl) ?_))
         refine TI.a [10] ⟨?_,trivial⟩
         refine TI.br rfl (W1.io (W1.l (.bool true) (fun _ _=>by kernel_rfl) ?_))
         refine TI.d ?_
         cases hX3
         exact fun a w' hf hh=>⟨(k5 + 1),z31,z32,z33,z34,z35,z36,rfl,V12,(vt (vt hV10 hV11) hV12),(Fr.s hf),(hh.u)⟩
       refine TI.br rfl (W1.io (W1.l a74_ (ldN 0) ?_))
       refine TI.a [6] ⟨?_,trivial⟩
       refine TI.br rfl (W1.io (W1.l (.func (.yield l1) #[] #[]) (fun _ _=>by kernel_rfl) ?_))
       refine TI.a [8] ⟨?_,trivial⟩
       obtain⟨q6,hX4,hX3⟩:=ob hX3
       refine TI.br rfl (W1R.jO 4 l1 (fun v w'=>∃(k4:Nat) (z31:Int) (z32:Int) (z33:Int) (z34:Int) (z35:Int) (z36:ByteArray),q6=(k4,z31,z32,z33,z34,z35,z36)∧∃(V12:View),View.le V11 V12∧v = .bool (isz k4)∧Hp w V12 (i31_::i19_::i20_::i21_::(iC l1 lr1 (.exit 0) [.ret] k4)::(iu d1)::(box b5 35 [vi 0])::(box b4 47 [vi z31,vi z32,vi z33,vi z34,vi z35,.string z36])::t22_) w') (by rfl) hl1 hl2 hl3 hl4 (by rfl) (by kernel_rfl) rfl (by kernel_rfl) rfl ?_ ?_)
       ·
        refine T.ia (T.gZ (W1.np 47 v65_ (fun b12=>?_)))
        let i58_:HObj:=box b12 47 v68_
        refine T.gZ (W1.st 0 v68_ (i58_::t32_) v68_ ?_)
        refine T.gO ?_
        refine T.iH ?_
        refine T.kp 5 (i58_::i31_::i19_::i20_::i21_::(jv l1 lr1)::t26_) (by rfl) rfl ?_
        refine T.im (T.ie (T.ie (T.ia (T.k (pB b12 0) (T.l (.agg #[vi e2.key.pfs,vi e2.key.obj,vi e2.key.off]) (ldN 0) ?_)))))
        refine T.l a71_ (ldN 10) ?_
        refine T.l (.bool (!(e2.key == p1))) (fun w' hh=>jt e2.key p1 w' rfl rfl rfl) ?_
        refine T.gO ?_
        refine T.cb (!(e2.key == p1)) (fun hc5=>?_) (fun hc5=>?_)
        ·
         rw [hc5,cond_true] at hX4
         refine T.iO ?_
         cases hX4
         repeat first | refine T.jW ?_ | refine T.jM rfl ?_
         exact T.jD (.exit 0) [.ret] 0 5 (i58_::i31_::i19_::i20_::i21_::(iC l1 lr1 (.exit 0) [.ret] (0 + 1))::t26_) (by rfl) rfl rfl (fun w' hh=>⟨_,rfl,⟨(0 + 1),x8,x9,x10,x11,x12,x13,rfl,V11,vr,rfl,(hh.u)⟩⟩)
        rw [hc5,cond_false] at hX4
        refine T.hJ ?_
        refine T.ie (T.ia (T.l a74_ (ldN 0) ?_))
        refine T.l (vi p2) (ld1 9) ?_
        obtain⟨r5,hb7,hX4⟩:=ob hX4
        refine T.gZ (W1.w1 (vSc eBool) r5 38 #[a74_,vi p2] (fun w' hh=>ko e2 p2 r5 hb7 w') ?_)
        intro u V13 hV13 hu
        obtain rfl:=jL _ _ _ hu
        refine T.gO ?_
        refine T.cb r5 (fun hc6=>?_) (fun hc6=>?_)
        ·
         rw [hc6,cond_true] at hX4
         refine T.ie (T.ia (T.l a74_ (ldN 0) ?_))
         let i59_:HObj:=box b4 47 v68_
         let t60_:List HObj:=i59_::t22_
         let t61_:List HObj:=(box b5 35 [vi 0])::t60_
         let t62_:List HObj:=(iu d1)::t61_
         refine T.gZ (W1.st 8 v68_ (i58_::i31_::i19_::i20_::i21_::(jv l1 lr1)::t62_) v68_ ?_)
         refine T.gZ (W1.st 7 [vi 0] (i58_::i31_::i19_::i20_::i21_::(jv l1 lr1)::t62_) [vi 0] ?_)
         refine T.gO ?_
         cases hX4
         refine T.ik rfl ?_
         repeat first | refine T.j4 ?_ | refine T.jV ?_
         exact T.jU (.exit 0) [.ret] 1 5 (i58_::i31_::i19_::i20_::i21_::(iC l1 lr1 (.exit 0) [.ret] (1 + 1))::t62_) (by rfl) rfl rfl (fun w' hh=>⟨_,rfl,⟨(1 + 1),e2.key.pfs,e2.key.obj,e2.key.off,e2.made,e2.gone,e2.val,rfl,V13,hV13,rfl,(hh.u)⟩⟩)
        rw [hc6,cond_false] at hX4
        refine T.hJ ?_
        cases hX4
        repeat first | refine T.iH ?_ | refine T.iS ?_
        exact T.jq (.exit 0) [.ret] 5 (i58_::t32_) (by rfl) rfl (fun w' hh=>⟨_,rfl,⟨0,x8,x9,x10,x11,x12,x13,rfl,V13,hV13,rfl,(hh.u)⟩⟩)
       rintro v w' ⟨k4,z31,z32,z33,z34,z35,z36,rfl,V12,hV12,rfl,hh⟩
       try dsimp only at hX3
       refine⟨V12,(i31_::i19_::i20_::i21_::(iC l1 lr1 (.exit 0) [.ret] k4)::(iu d1)::(box b5 35 [vi 0])::(box b4 47 [vi z31,vi z32,vi z33,vi z34,vi z35,.string z36])::t22_),hh,?_⟩
       clear hh
       cases k4 with
       | zero =>
        rw [iD] at hX3
        refine TI.a [9] ⟨?_,trivial⟩
        refine TI.br rfl (W1.io (W1.l (.bool false) (fun _ _=>by kernel_rfl) ?_))
        refine TI.a [10] ⟨?_,trivial⟩
        refine TI.br rfl (W1.io (W1.l (.bool false) (fun _ _=>by kernel_rfl) ?_))
        refine TI.d ?_
        cases hX3
        exact fun a w' hf hh=>⟨0,z31,z32,z33,z34,z35,z36,rfl,V12,(vt (vt hV10 hV11) hV12),(Fr.s hf),(hh.u)⟩
       | succ k5 =>
        rw [iF] at hX3
        refine TI.a [9] ⟨?_,trivial⟩
        refine TI.br rfl (W1.io (W1.l (.bool true) (fun _ _=>by kernel_rfl) ?_))
        refine TI.a [10] ⟨?_,trivial⟩
        refine TI.br rfl (W1.io (W1.l (.bool true) (fun _ _=>by kernel_rfl) ?_))
        refine TI.d ?_
        cases hX3
        exact fun a w' hf hh=>⟨(k5 + 1),z31,z32,z33,z34,z35,z36,rfl,V12,(vt (vt hV10 hV11) hV12),(Fr.s hf),(hh.u)⟩
      rintro a w' ⟨k3,z25,z26,z27,z28,z29,z30,rfl,V9,hV9,hf,hh⟩
      try dsimp only at hY1
      refine(?_:T 59 w V9 (i19_::i20_::i21_::(iC l1 lr1 (.exit 0) [.ret] k3)::(iu d1)::(box b5 35 [vi 0])::(box b4 47 [vi z25,vi z26,vi z27,vi z28,vi z29,.string z30])::t22_) [(3,.func (.yield l1) #[] #[]),(4,pB b8 0),(6,pB b9 0),(9,pB b10 0),(20,.slice A2 e1.elems.length c2),(21,vi (e1.elems.length:Int)),(22,vi x14),(36,.bool (!(isz k3)))] _) a w' hf hh
      clear hf hh
      cases k3 with
      | zero =>
       rw [iD] at hY1
       refine T.cb false (fun h=>Bool.noConfusion h) (fun _=>?_)
       refine T.hJ ?_
       refine T.ia (T.k2 (vi (IntKind.i64.wrap (x14 + 1))) (vi (IntKind.i64.wrap (x14 + 1))) (T.gO ?_))
       cases hY1
       exact fun a w' hf hh=>⟨(z25,z26,z27,z28,z29,z30,IntKind.i64.wrap (x14 + 1)),rfl,z25,z26,z27,z28,z29,z30,(IntKind.i64.wrap (x14 + 1)),rfl,V9,(vt hV7 hV9),(Fr.s hf),(hh.u)⟩
      | succ k6 =>
       rw [iF] at hY1
       refine T.cb true (fun _=>?_) (fun h=>Bool.noConfusion h)
       refine T.ie (T.ia (T.k (.bool false) (T.gO ?_)))
       cases hY1
       cases (hr2 _ rfl)
       try dsimp only at hS1
       have hres:=Option.some.inj hS1
       subst hres
       refine T.ik rfl ?_
       repeat first | refine T.iz ?_ | refine T.iw ?_
       exact T.ir rfl (rT rfl) fun w' hh=>⟨_,rfl,⟨(k6 + 1),z25,z26,z27,z28,z29,z30,rfl,V9,(vt hV7 hV9),rfl,(hh.u)⟩⟩
     rw [hc4,cond_false] at hY1
     refine T.iO ?_
     cases hY1
     cases (hr2 _ rfl)
     exact fun a w' hf hh=>⟨x8,x9,x10,x11,x12,x13,rfl,V7,hV7,(Fr.s hf),(hh.u)⟩
    rintro a w' ⟨z19,z20,z21,z22,z23,z24,rfl,V8,hV8,hf,hh⟩
    try dsimp only at hS1
    refine(?_:T 59 w V8 (i19_::i20_::i21_::i18_::(iu d1)::(box b5 35 [vi 0])::(box b4 47 [vi z19,vi z20,vi z21,vi z22,vi z23,.string z24])::t22_) [(3,.func (.yield l1) #[] #[]),(4,pB b8 0),(6,pB b9 0),(9,pB b10 0)] _) a w' hf hh
    clear hf hh
    refine T.ie (T.ie (T.ia (T.k (pB b10 0) (T.l (vi e1.kind) (ld1 0) ?_))))
    refine T.k (.bool (e1.kind == 1)) (T.gO ?_)
    refine T.cb (e1.kind == 1) (fun hc7=>?_) (fun hc7=>?_)
    ·
     rw [hc7,cond_true] at hS1
     refine T.ie (T.ia (T.k (.bool true) (T.gO ?_)))
     have hres:=Option.some.inj hS1
     subst hres
     refine T.ik rfl ?_
     repeat first | refine T.iz ?_ | refine T.iw ?_
     exact T.ir rfl (rT rfl) fun w' hh=>⟨_,rfl,⟨0,z19,z20,z21,z22,z23,z24,rfl,V8,hV8,rfl,(hh.u)⟩⟩
    rw [hc7,cond_false] at hS1
    refine T.hJ ?_
    refine T.ie (T.ie ?_)
    refine T.j6 (by kernel_rfl) (by kernel_rfl) ?_
    refine TQ.k (pB b10 2) ?_
    refine TQ.l (.slice A3 e1.kids.length c3) (ld1 0) ?_
    refine TQ.l a73_ (ldN 0) ?_
    refine TQ.l a72_ (ldN 1) ?_
    obtain⟨r6,hb8,hS1⟩:=ob hS1
    refine TQ.jA (vSc ic) r6 43 #[a73_,a72_] (vi r6) (fun V u hu=>il V u _ hu) (by kernel_rfl) (fun _=>by kernel_rfl) (fun w' hh=>lM F e1 (DSpot.mk p1 0) r6 hb8 w' A2 c2 (ib.mono (ib.mono hs2 hV8) hh.view) A3 c3 (ib.mono (ib.mono hs3 hV8) hh.view) A4 c4 (ib.mono (ib.mono hs4 hV8) hh.view) A5 c5 (ib.mono (ib.mono hs5 hV8) hh.view)) ?_
    obtain⟨s2,hb9,hS1⟩:=ob hS1
    refine TQ.l (.slice (iW A3 c3 r6.toNat 1) s2.length (c3 - r6.toNat)) (fun w' hh=>iM (e:=3) (s:=1) (lx:=(some _)) (hx:=none) (k:=.i64) (k':=.i64) rfl rfl (by kernel_rfl) (by kernel_rfl) ((ib.mono hs3 hV8)).1 rfl rfl hb9) ?_
    refine TQ.k (vi (s2.length:Int)) ?_
    refine TQ.k (vi 0) ?_
    refine TQ.jN ?_
    obtain⟨q7,hz3,hS1⟩:=ob hS1
    refine T.jw (fun a w'=>∃(z37:Int) (z38:Int) (z39:Int) (z40:Int) (z41:Int) (z42:ByteArray),q7=Sum.inl (z37,z38,z39,z40,z41,z42)∧∃(V15:View),View.le V8 V15∧Fr 59 [] a∧Hp w V15 (i18_::(iu d1)::(box b5 35 [vi 0])::(box b4 47 [vi z37,vi z38,vi z39,vi z40,vi z41,.string z42])::t22_) w') ?_ ?_
    ·
     refine T.im ?_
     refine T.jl (fun s3 a w'=>∃(x15:Int) (x16:Int) (x17:Int) (x18:Int) (x19:Int) (x20:ByteArray) (x21:Int),s3=(x15,x16,x17,x18,x19,x20,x21)∧∃(A6:Option Addr) (c6:Nat) (V14:View),View.le V8 V14∧ib V14 ic A6 c6 s2∧Fr 59 [(3,.func (.yield l1) #[] #[]),(4,pB b8 0),(6,pB b9 0),(46,.slice A6 s2.length c6),(47,vi (s2.length:Int)),(48,vi x21)] a∧Hp w V14 (i20_::i21_::i18_::(iu d1)::(box b5 35 [vi 0])::(box b4 47 [vi x15,vi x16,vi x17,vi x18,vi x19,.string x20])::t22_) w') hz3 ?_ ?_
     ·
      exact fun a w' hf hh=>⟨z19,z20,z21,z22,z23,z24,0,rfl,(iW A3 c3 r6.toNat 1),(c3 - r6.toNat),V8,vr,(ib.cut (ib.mono hs3 hV8) hb9),(Fr.s hf),(hh.u)⟩
     rintro s3 y2 hY2 hr3 a w' ⟨x15,x16,x17,x18,x19,x20,x21,rfl,A6,c6,V14,hV14,hs6,hf,hh⟩
     refine(?_:T 59 w V14 (i20_::i21_::i18_::(iu d1)::(box b5 35 [vi 0])::(box b4 47 [vi x15,vi x16,vi x17,vi x18,vi x19,.string x20])::t22_) [(3,.func (.yield l1) #[] #[]),(4,pB b8 0),(6,pB b9 0),(46,.slice A6 s2.length c6),(47,vi (s2.length:Int)),(48,vi x21)] _) a w' hf hh
     clear hf hh
     try dsimp only at hY2
     refine T.ie (T.ia (T.k (.bool (decide (x21 < (s2.length:Int)))) (T.gO (T.ie ?_))))
     refine T.cb (decide (x21 < (s2.length:Int))) (fun hc8=>?_) (fun hc8=>?_)
     ·
      rw [hc8,cond_true] at hY2
      refine T.hJ ?_
      refine T.ie (T.im (T.ie (T.ia ?_)))
      obtain⟨e3,hb10,hY2⟩:=ob hY2
      obtain⟨hi7,hi8,hi9⟩:=ij hb10
      refine T.l (.pointer (some ((iI A6).add (x21.toNat * 1)))) (fun w' hh=>ig (e:=3) (s:=1) rfl rfl rfl (by kernel_rfl) (by kernel_rfl) hi7 hi8 (hs6.some_ hi9 (by decide))) ?_
      refine T.l (vi e3) (fun w' hh=>iG rfl rfl (by kernel_rfl) (hh.cell_view (ib.cellF0 (E:=ic) hs6 hi9 (fun _ _ _ h=>h) rfl))) ?_
      refine T.k (vi e3) (T.gO ?_)
      obtain⟨q8,hX5,hY2⟩:=ob hY2
      refine T.iZ (fun a w'=>∃(k7:Nat) (z43:Int) (z44:Int) (z45:Int) (z46:Int) (z47:Int) (z48:ByteArray),q8=(k7,z43,z44,z45,z46,z47,z48)∧∃(V16:View),View.le V14 V16∧Fr 59 [(3,.func (.yield l1) #[] #[]),(4,pB b8 0),(6,pB b9 0),(46,.slice A6 s2.length c6),(47,vi (s2.length:Int)),(48,vi x21),(57,.bool (!(isz k7)))] a∧Hp w V16 (i20_::i21_::(iC l1 lr1 (.exit 0) [.ret] k7)::(iu d1)::(box b5 35 [vi 0])::(box b4 47 [vi z43,vi z44,vi z45,vi z46,vi z47,.string z48])::t22_) w') ?_ ?_
      ·
       refine T.ia (T.l a70_ (ldN 1) ?_)
       refine T.k (vi e3) (T.l a72_ (ldN 0) ?_)
       refine T.k (.func (.yield l1) #[] #[]) ?_
       obtain⟨q9,hz4,hX5⟩:=ob hX5
       refine T.gZ (W1.cj (fun w' hh=>ih1 _ _ hz4 x15 x16 x17 x18 x19 x20 e3 rfl V14 (i20_::i21_::G1) w' (vt (vt hV5 hV8) hV14) ((hh.sub (kp7 (kp1 kpr))).perm (pt sw1 (pt sw0 (pc1 (pt sw1 (pt sw0 (pc1 (pt sw1 (pt sw0 (pc1 (pt sw1 (pt sw0 (pc1 (pt sw1 (pt sw0 (pc1 (pt sw1 (pt sw0 pz))))))))))))))))))) ?_)
       rintro v w' ⟨z49,z50,z51,z52,z53,z54,z55,rfl,V17,hV17,rfl,hh⟩
       try dsimp only at hX5
       refine⟨V17,(i20_::i21_::(iC l1 lr1 (.exit 0) [.ret] z49)::(iu d1)::(box b5 35 [vi 0])::(box b4 47 [vi z50,vi z51,vi z52,vi z53,vi z54,.string z55])::t22_),(hh.sub (kp7 (kp1 kpr))).perm (pt sw5 (pt sw4 (pt sw3 (pt sw2 (pt sw1 (pt sw0 (pc1 (pt sw5 (pt sw4 (pt sw3 (pt sw2 (pt sw1 (pt sw0 pz))))))))))))),?_⟩
       clear hh
       cases z49 with
       | zero =>
        rw [iD] at hX5
        refine T.k (.bool false) (T.gO ?_)
        cases hX5
        exact fun a w' hf hh=>⟨0,z50,z51,z52,z53,z54,z55,rfl,V17,hV17,(Fr.s hf),(hh.u)⟩
       | succ k8 =>
        rw [iF] at hX5
        refine T.k (.bool true) (T.gO ?_)
        cases hX5
        exact fun a w' hf hh=>⟨(k8 + 1),z50,z51,z52,z53,z54,z55,rfl,V17,hV17,(Fr.s hf),(hh.u)⟩
      rintro a w' ⟨k7,z43,z44,z45,z46,z47,z48,rfl,V16,hV16,hf,hh⟩
      try dsimp only at hY2
      refine(?_:T 59 w V16 (i20_::i21_::(iC l1 lr1 (.exit 0) [.ret] k7)::(iu d1)::(box b5 35 [vi 0])::(box b4 47 [vi z43,vi z44,vi z45,vi z46,vi z47,.string z48])::t22_) [(3,.func (.yield l1) #[] #[]),(4,pB b8 0),(6,pB b9 0),(46,.slice A6 s2.length c6),(47,vi (s2.length:Int)),(48,vi x21),(57,.bool (!(isz k7)))] _) a w' hf hh
      clear hf hh
      cases k7 with
      | zero =>
       rw [iD] at hY2
       refine T.cb false (fun h=>Bool.noConfusion h) (fun _=>?_)
       refine T.hJ ?_
       refine T.ia (T.k2 (vi (IntKind.i64.wrap (x21 + 1))) (vi (IntKind.i64.wrap (x21 + 1))) (T.gO ?_))
       cases hY2
       exact fun a w' hf hh=>⟨(z43,z44,z45,z46,z47,z48,IntKind.i64.wrap (x21 + 1)),rfl,z43,z44,z45,z46,z47,z48,(IntKind.i64.wrap (x21 + 1)),rfl,A6,c6,V16,(vt hV14 hV16),(ib.mono hs6 hV16),(Fr.s hf),(hh.u)⟩
      | succ k9 =>
       rw [iF] at hY2
       refine T.cb true (fun _=>?_) (fun h=>Bool.noConfusion h)
       refine T.ie (T.ia (T.k (.bool false) (T.gO ?_)))
       cases hY2
       cases (hr3 _ rfl)
       try dsimp only at hS1
       have hres:=Option.some.inj hS1
       subst hres
       refine T.ik rfl ?_
       repeat first | refine T.iz ?_ | refine T.iw ?_
       exact T.ir rfl (rT rfl) fun w' hh=>⟨_,rfl,⟨(k9 + 1),z43,z44,z45,z46,z47,z48,rfl,V16,(vt (vt hV8 hV14) hV16),rfl,(hh.u)⟩⟩
     rw [hc8,cond_false] at hY2
     refine T.iO ?_
     cases hY2
     cases (hr3 _ rfl)
     exact fun a w' hf hh=>⟨x15,x16,x17,x18,x19,x20,rfl,V14,hV14,(Fr.nil hf),(hh.u)⟩
    rintro a w' ⟨z37,z38,z39,z40,z41,z42,rfl,V15,hV15,hf,hh⟩
    try dsimp only at hS1
    refine(?_:T 59 w V15 (i18_::(iu d1)::(box b5 35 [vi 0])::(box b4 47 [vi z37,vi z38,vi z39,vi z40,vi z41,.string z42])::t22_) [] _) a w' hf hh
    clear hf hh
    refine T.ie (T.ia (T.k (.bool true) (T.gO ?_)))
    have hres:=Option.some.inj hS1
    subst hres
    refine T.ik rfl ?_
    repeat first | refine T.iz ?_ | refine T.iw ?_
    exact T.ir rfl (rT rfl) fun w' hh=>⟨_,rfl,⟨0,z37,z38,z39,z40,z41,z42,rfl,V15,(vt hV8 hV15),rfl,(hh.u)⟩⟩
   refine T.gZ (W1.cj (fun w' hh=>hq1 0 0 0 0 0 (ByteArray.mk #[]) p0.root rfl V2 (i16_::i17_::i15_::[]) w' vr ((hh.sub (kp8 (kp1 kp0))).perm (pc2 (pt sw1 (pt sw0 (pc1 (pt sw1 (pt sw0 (pc1 (pt sw1 (pt sw0 (pc1 (pt sw1 (pt sw0 pz)))))))))))))) ?_)
   rintro v w' ⟨z56,z57,z58,z59,z60,z61,z62,rfl,V18,hV18,rfl,hh⟩
   try dsimp only at hX2
   refine⟨V18,[iC l1 lr1 (.exit 0) [.ret] z56,iu d1,box b7 76 v66_,box b6 27 v63_,box b5 35 [vi 0],box b4 47 [vi z57,vi z58,vi z59,vi z60,vi z61,.string z62],box b3 3 [vi p2],box b2 33 v64_,box b1 27 v63_],(hh.sub (kp8 (kp1 kp0))).perm (pc2 (pt sw3 (pt sw2 (pt sw1 (pt sw0 (pc1 (pt sw3 (pt sw2 (pt sw1 (pt sw0 pz)))))))))),?_⟩
   clear hh
   cases z56 with
   | zero =>
    rw [iD] at hX2
    refine T.gO ?_
    cases hX2
    repeat first | refine T.iH ?_ | refine T.iS ?_
    exact T.jT rfl (fun w' hh=>⟨_,rfl,⟨0,z57,z58,z59,z60,z61,z62,rfl,V18,hV18,(hh.u)⟩⟩)
   | succ k10 =>
    rw [iF] at hX2
    refine T.gO ?_
    cases hX2
    repeat first | refine T.iH ?_ | refine T.iS ?_
    exact T.jT rfl (fun w' hh=>⟨_,rfl,⟨(k10 + 1),z57,z58,z59,z60,z61,z62,rfl,V18,hV18,(hh.u)⟩⟩)
  rintro l1 d1 lr1 w' ⟨k1,z7,z8,z9,z10,z11,z12,rfl,V4,hV4,hh⟩
  try dsimp only at hX1
  let v69_:List Value:=[vi z7,vi z8,vi z9,vi z10,vi z11,.string z12]
  refine⟨V4,[iu d1,box b5 35 [vi 0],box b4 47 v69_],k1,hh,?_⟩
  clear hh
  cases k1 with
  | zero =>
   rw [iD] at hX1
   rw [iD]
   cases hX1
   exact fun a w' hf hh=>⟨z7,z8,z9,z10,z11,z12,rfl,d1,V4,hV4,(Fr.s hf),(hh.u)⟩
  | succ k11 =>
   rw [iF] at hX1
   rw [iF]
   cases k11 with
   | zero =>
    rw [iD] at hX1
    rw [oK]
    refine T.iO ?_
    cases hX1
    exact fun a w' hf hh=>⟨z7,z8,z9,z10,z11,z12,rfl,d1,V4,hV4,(Fr.s hf),(hh.u)⟩
   | succ k12 =>
    rw [iF] at hX1
    rw [oJ]
    rw [ov]
    cases hX1
    try dsimp only at hF
    cases hF
    refine T.ik rfl ?_
    refine T.kf ((box b5 35 [vi 0])::(box b4 47 v69_)::[]) [d1] (fun w' hh=>hh.u) ?_
    exact T.jf rfl (rN 1) (kF.cell1 0 rfl (by rfl) (fun _=>by kernel_rfl)) fun w' hh=>⟨_,rfl,hh.below,(vT2.mk (vAg.mk rfl) (show _ from rfl))⟩
 rintro a w' ⟨z1,z2,z3,z4,z5,z6,rfl,d1,V3,hV3,hf,hh⟩
 try dsimp only at hF
 refine(?_:T ⟨37,[d1]⟩ w V3 [iu d1,box b5 35 [vi 0],box b4 47 [vi z1,vi z2,vi z3,vi z4,vi z5,.string z6]] [(6,pB b4 0),(7,pB b5 0)] _) a w' hf hh
 clear hf hh
 refine T.ie (T.ia (T.k (.agg #[vi 0,vi 0,vi 0,vi 0,vi 0,.string (ByteArray.mk #[])]) (T.gZ (W1.st 2 v65_ [iu d1,box b5 35 [vi 0],box b4 47 v65_] v65_ ?_))))
 refine T.gZ (W1.st 1 [vi 4] [iu d1,box b5 35 [vi 4],box b4 47 v65_] [vi 4] ?_)
 refine T.gO ?_
 cases hF
 refine T.ik rfl ?_
 refine T.kf ((box b5 35 [vi 4])::(box b4 47 v65_)::[]) [d1] (fun w' hh=>hh.u) ?_
 exact T.jf rfl (rN 1) (kF.cell1 0 rfl (by rfl) (fun _=>by kernel_rfl)) fun w' hh=>⟨_,rfl,hh.below,(vT2.mk (vAg.mk rfl) (show _ from rfl))⟩
end Go.Proofs.Ytljbmnknmhogaaa
