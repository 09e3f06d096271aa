/- The Go functions of group Step compute its pure functions, where these yield a result. -/
import Derived.Test.YtfbpiogbhkgieaaGreatShAL
import Derived.Test.YtfbpiogbhkgieaaGreatWrHFL
import Derived.Test.YtfbpiogbhkgieaaGreatCpLL
import Derived.Test.YtfbpiogbhkgieaaGreatFrLL
import Derived.Test.YtfbpiogbhkgieaaGreatRangeL
import Derived.Test.YtfbpiogbhkgieaaGreatSpoilL
import Derived.Test.YtfbpiogbhkgieaaGreatTreeOL
import Derived.Test.YtfbpiogbhkgieaaGreatClearL
import Derived.Test.YtfbpiogbhkgieaaGreatStepFL
import Derived.Test.YtfbpiogbhkgieaaGreatEqLL
namespace Go.Proofs.YtfbpiogbhkgieaaGreat
open IntKind (i64)
set_option maxRecDepth 100000
set_option maxHeartbeats 4000000
set_option linter.unusedVariables false
theorem pS (F:Nat) (p0:DTree) (p1:(List Int)) (p2:Int) (r:DTree × Int × Int) (hF:nq F p0 p1 p2=some r) (w:World) (A1:Option Addr) (c1:Nat) (hs1:ia (vw w) j9 A1 c1 p0.nodes) (A2:Option Addr) (c2:Nat) (hs2:ia (vw w) hO A2 c2 p1) :
 Calls Tryz.prog 12 #[.agg #[.int .i64 p0.root,.slice A1 p0.nodes.length c1],.slice A2 p1.length c2,.int .i64 p2] w (fun e w'=>∃ p:Option Addr × Nat × List DHdr,e = .returned (.tuple #[.agg #[.int .i64 r.1.root,.slice p.1 p.2.2.length p.2.1],.int .i64 r.2.1,.int .i64 r.2.2])∧p.2.2.length=r.1.nodes.length∧kZ w w' [row 55 eHdr p.1 p.2.1 p.2.2,il (TreeTy.mk 28 3 36) p.2.2 (r.1.nodes.map Sum.inr)]):=by
 unfold nq at hF
 let a75_:Value:=.agg #[vi p0.root,.slice A1 p0.nodes.length c1]
 refine T.lZ (l:=[a75_,.slice A2 p1.length c2,vi p2]) Tryz.func12 rfl rfl rfl ?_
 refine T.gR (T.gQ ?_)
 let v63_:List Value:=[vi p0.root,.slice A1 p0.nodes.length c1]
 refine T.gO (W1.np 24 v63_ (fun b1=>?_))
 refine T.gO (W1.np 29 [.slice A2 p1.length c2] (fun b2=>?_))
 refine T.gO (W1.np 3 [vi p2] (fun b3=>?_))
 let v64_:List Value:=[vi 0,sN]
 refine T.gO (W1.np 24 v64_ (fun b4=>?_))
 refine T.k2 (vi 0) (vi 0) (T.gN (T.gR (T.gR (T.gQ (T.l a75_ (ldN 3) ?_)))))
 obtain⟨r1,hb1,hF⟩:=ob hF
 refine T.gO (W1.w1 (vSc hO) r1 29 #[a75_] (fun w' hh=>ml F p0 r1 hb1 w' A1 c1 (ia.mono hs1 hh.view)) ?_)
 intro u V1 hV1 hu
 obtain rfl:=ir _ _ _ hu
 refine T.k (vi r1) (T.gN (T.gR (T.gQ (T.k2 (vi r1) (.bool (r1 != 0)) (T.gN ?_)))))
 refine T.cb (r1 != 0) (fun hc1=>?_) (fun hc1=>?_)
 ·
  rw [hc1,cond_true] at hF
  refine T.gR (T.gQ (T.k2 (.agg #[vi 0,sN]) (vi r1) ?_))
  let i1_:HObj:=box b4 24 v64_
  let i2_:HObj:=box b2 29 [.slice A2 p1.length c2]
  let i3_:HObj:=box b1 24 v63_
  refine T.gO (W1.st 0 v64_ (i1_::(box b3 3 [vi p2])::i2_::i3_::[]) v64_ ?_)
  refine T.k2 (vi 0) (vi r1) (T.gN ?_)
  refine T.jj (TreeTy.mk 28 3 36) ?_
  refine T.iA 55 eHdr ?_
  cases hF
  refine T.ii rfl ?_
  let i4_:HObj:=row 55 eHdr none 0 ([] : List DHdr)
  let i5_:HObj:=il (TreeTy.mk 28 3 36) [] []
  refine T.jU (i4_::i5_::i1_::(box b3 3 [vi p2])::i2_::i3_::[]) [] (fun w' hh=>hh.u) ?_
  exact T.lD rfl (rN 2) (rT rfl) (rT rfl) fun w' hh=>⟨(none,0,[]),rfl,rfl,iP (X:=(i4_::i5_::[])) (hh.u) ⟨iG (fun _ _ _ _ h=>h),iO _ _ _,trivial⟩⟩
 rw [hc1,cond_false] at hF
 refine T.gP ?_
 refine T.gR (T.gR (T.gQ (T.l (.slice A2 p1.length c2) (ld1 2) ?_)))
 obtain⟨r3,hb2,hF⟩:=ob hF
 refine T.gO (W1.w1 (vSc hO) r3 37 #[.slice A2 p1.length c2] (fun w' hh=>pw F p1 r3 hb2 w' A2 c2 (ia.mono (ia.mono hs2 hV1) hh.view)) ?_)
 intro u V2 hV2 hu
 obtain rfl:=ir _ _ _ hu
 refine T.k (vi r3) (T.gN (T.gR (T.gQ (T.k2 (vi r3) (.bool (r3 != 0)) (T.gN ?_)))))
 refine T.cb (r3 != 0) (fun hc2=>?_) (fun hc2=>?_)
 ·
  rw [hc2,cond_true] at hF
  refine T.gR (T.gQ (T.k2 (.agg #[vi 0,sN]) (vi r3) ?_))
  let i6_:HObj:=box b4 24 v64_
  let i7_:HObj:=box b2 29 [.slice A2 p1.length c2]
  let i8_:HObj:=box b1 24 v63_
  refine T.gO (W1.st 0 v64_ (i6_::(box b3 3 [vi p2])::i7_::i8_::[]) v64_ ?_)
  refine T.k2 (vi 0) (vi r3) (T.gN ?_)
  refine T.jj (TreeTy.mk 28 3 36) ?_
  refine T.iA 55 eHdr ?_
  cases hF
  refine T.ii rfl ?_
  let i9_:HObj:=row 55 eHdr none 0 ([] : List DHdr)
  let i10_:HObj:=il (TreeTy.mk 28 3 36) [] []
  refine T.jU (i9_::i10_::i6_::(box b3 3 [vi p2])::i7_::i8_::[]) [] (fun w' hh=>hh.u) ?_
  exact T.lD rfl (rN 2) (rT rfl) (rT rfl) fun w' hh=>⟨(none,0,[]),rfl,rfl,iP (X:=(i9_::i10_::[])) (hh.u) ⟨iG (fun _ _ _ _ h=>h),iO _ _ _,trivial⟩⟩
 rw [hc2,cond_false] at hF
 refine T.gP ?_
 refine T.gR (T.gR (T.gQ (T.l (vi p2) (ld1 1) ?_)))
 refine T.k (.bool (decide (p2 < 0))) (T.gN ?_)
 refine T.cb (decide (p2 < 0)) (fun hc3=>?_) (fun hc3=>?_)
 ·
  rw [hc3,cond_true] at hF
  refine T.gR (T.gQ (T.k (.agg #[vi 0,sN]) ?_))
  let i11_:HObj:=box b4 24 v64_
  let i12_:HObj:=box b2 29 [.slice A2 p1.length c2]
  let i13_:HObj:=box b1 24 v63_
  refine T.gO (W1.st 0 v64_ (i11_::(box b3 3 [vi p2])::i12_::i13_::[]) v64_ ?_)
  refine T.k2 (vi 0) (vi 1) (T.gN ?_)
  refine T.jj (TreeTy.mk 28 3 36) ?_
  refine T.iA 55 eHdr ?_
  cases hF
  refine T.ii rfl ?_
  let i14_:HObj:=row 55 eHdr none 0 ([] : List DHdr)
  let i15_:HObj:=il (TreeTy.mk 28 3 36) [] []
  refine T.jU (i14_::i15_::i11_::(box b3 3 [vi p2])::i12_::i13_::[]) [] (fun w' hh=>hh.u) ?_
  exact T.lD rfl (rN 2) (rT rfl) (rT rfl) fun w' hh=>⟨(none,0,[]),rfl,rfl,iP (X:=(i14_::i15_::[])) (hh.u) ⟨iG (fun _ _ _ _ h=>h),iO _ _ _,trivial⟩⟩
 rw [hc3,cond_false] at hF
 refine T.gP ?_
 refine T.gR (T.gQ (T.gO (W1.np 53 [sN] (fun b5=>?_))))
 refine T.gN ?_
 obtain⟨z1,hX1,hF⟩:=ob hF
 let i16_:HObj:=box b4 24 v64_
 let i17_:HObj:=box b1 24 v63_
 let t18_:List HObj:=i16_::i17_::[]
 refine T.ji (fun a w'=>∃(A3:Option Addr) (c3:Nat) (d1:Nat) (V3:View),View.le V2 V3∧Fr ⟨62,[d1]⟩ [(3,pB b1 0),(6,pB b4 0),(11,pB b5 0)] a∧Hp w V3 ((row 36 eSpot A3 c3 z1)::(iu d1)::(box b5 53 [.slice A3 z1.length c3])::t18_) w') ?_ ?_
 ·
  refine T.gR (T.gQ (T.l a75_ (ldN 4) ?_))
  let i19_:HObj:=box b2 29 [.slice A2 p1.length c2]
  let t20_:List HObj:=i19_::i17_::[]
  let t21_:List HObj:=(box b3 3 [vi p2])::t20_
  let t22_:List HObj:=i16_::t21_
  let t23_:List HObj:=(box b5 53 [sN])::t22_
  refine T.gO (W1.jw 38 [a75_] (fun v w'=>∃(b7:Nat) (b6:Nat),v = .func (.func 62) #[] #[pB b7 0,pB b6 0]∧Hp w V2 ((box b7 106 [.func (.func 61) #[] #[pB b6 0,pB b7 0]])::(box b6 24 v63_)::t23_) w') Tryz.func38 rfl rfl (by kernel_rfl) (fun _=>by kernel_rfl) rfl ?_ ?_)
  ·
   refine T.gR (T.gQ (T.gO (W1.np 24 v63_ (fun b6=>?_))))
   refine T.k (.nilFunc) (T.gN (T.gR (T.gQ (T.gO (W1.np 106 [.nilFunc] (fun b7=>?_))))))
   refine T.gN (T.gR (T.gQ (T.k (.func (.func 61) #[] #[pB b6 0,pB b7 0]) (T.gO (W1.st 0 [.func (.func 61) #[] #[pB b6 0,pB b7 0]] ((box b7 106 [.func (.func 61) #[] #[pB b6 0,pB b7 0]])::(box b6 24 v63_)::t23_) [.func (.func 61) #[] #[pB b6 0,pB b7 0]] ?_)))))
   refine T.gN (T.gR (T.gQ (T.k2 (.func (.func 62) #[] #[pB b7 0,pB b6 0]) (.func (.func 62) #[] #[pB b7 0,pB b6 0]) (T.gN ?_))))
   refine T.ii rfl ?_
   exact T.ik rfl (rT rfl) fun w' hh=>⟨_,rfl,⟨b7,b6,rfl,(hh.u)⟩⟩
  rintro v w' ⟨b7,b6,rfl,hh⟩
  let i24_:HObj:=box b7 106 [.func (.func 61) #[] #[pB b6 0,pB b7 0]]
  let i25_:HObj:=box b6 24 v63_
  refine⟨V2,(i24_::i25_::t23_),hh,?_⟩
  clear hh
  refine T.gN (T.ic ?_)
  obtain⟨q1,hX2,hX1⟩:=ob hX1
  refine T.mO (gf:=62) (lb:=[pB b7 0,pB b6 0]) (.exit 0) [] (fun l1 d1 lr1 w'=>∃(z2:List DSpot) (k1:Nat),q1=(z2,k1)∧∃(A4:Option Addr) (c4:Nat) (V4:View),View.le V2 V4∧Hp w V4 [iD l1 lr1 (.exit 0) [] k1,row 36 eSpot A4 c4 z2,iu d1,box b5 53 [.slice A4 z2.length c4],box b4 24 v64_,box b1 24 v63_] w') (by kernel_rfl) (by kernel_rfl) (fun _ _=>by kernel_rfl) ?_ ?_
  ·
   intro l1 d1 lr1 hl1 hl2 hl3 hl4 w1 hh
   refine T.iF (l:=[.func (.yield l1) #[] #[],pB b7 0,pB b6 0]) Tryz.func62 rfl rfl rfl ?_ hh
   clear hh
   refine T.gQ (T.l (.func (.func 61) #[] #[pB b6 0,pB b7 0]) (ld1 2) ?_)
   refine T.k (pB b6 0) (T.l (vi p0.root) (ld1 3) ?_)
   refine T.k (.func (.yield l1) #[] #[]) ?_
   refine T.iA 36 eSpot ?_
   obtain⟨q2,hz1,hX2⟩:=ob hX2
   refine(have hq1:=kQ (fun (s_:(List DSpot) × Int) (r_:(List DSpot) × Nat)=>∀(x1:List DSpot) (x2:Int),s_=(x1,x2)→∀(A5:Option Addr) (c5:Nat) (V5:View) (G2:List HObj) (w1:World),View.le V2 V5→Hp w V5 ((row 36 eSpot A5 c5 x1)::(iD l1 lr1 (.exit 0) [] 0)::(iu d1)::i24_::i25_::(box b5 53 [.slice A5 x1.length c5])::(box b3 3 [vi p2])::i19_::G2) w1→Calls Tryz.prog 61 #[vi x2,.func (.yield l1) #[] #[],pB b6 0,pB b7 0] w1 (fun e w2=>∃ v,e = .returned v∧∃(z3:List DSpot) (k2:Nat),r_=(z3,k2)∧∃(A6:Option Addr) (c6:Nat) (V6:View),View.le V5 V6∧v = .bool (isz k2)∧Hp w V6 ((row 36 eSpot A6 c6 z3)::(iD l1 lr1 (.exit 0) [] k2)::(iu d1)::i24_::i25_::(box b5 53 [.slice A6 z3.length c6])::(box b3 3 [vi p2])::i19_::G2) w2)) hz1 ?_;?_)
   ·
    rintro rf2 ih1 s_ r_ hS1 x1 x2 rfl A5 c5 V5 G2 w1 hV5 hh
    try dsimp only at hS1
    refine T.iF (l:=[vi x2,.func (.yield l1) #[] #[],pB b6 0,pB b7 0]) Tryz.func61 rfl rfl rfl ?_ hh
    clear hh
    refine T.gR (T.gQ (T.k (.bool false) (T.gN (T.gR (T.gQ (T.k (pB b6 1) (T.l (.slice A1 p0.nodes.length c1) (ld1 4) ?_)))))))
    refine T.k (vi x2) ?_
    obtain⟨e1,hb3,hS1⟩:=ob hS1
    obtain⟨hi1,hi2,hi3⟩:=iq hb3
    obtain⟨cs1,hr1,hc4⟩:=ia.elem (ia.mono hs1 (vt (vt hV1 hV2) hV5)) hi3
    obtain⟨A7,c7,A8,c8,A9,c9,A10,c10,rfl,hs3,hs4,hs5,hs6⟩:=hr1
    refine T.l (.pointer (some ((iC A1).add (x2.toNat * 5)))) (fun w' hh=>ib (e:=55) (s:=5) rfl rfl rfl (by kernel_rfl) (by kernel_rfl) hi1 hi2 ((ia.mono hs1 (vt (vt hV1 hV2) hV5)).some_ hi3 (by decide))) ?_
    let v65_:List Value:=[vi e1.kind,.slice A7 e1.elems.length c7,.slice A8 e1.kids.length c8,.slice A9 e1.seps.length c9,.slice A10 e1.tids.length c10]
    refine T.l (.agg #[vi e1.kind,.slice A7 e1.elems.length c7,.slice A8 e1.kids.length c8,.slice A9 e1.seps.length c9,.slice A10 e1.tids.length c10]) (fun w' hh=>lN (fun j u hj=>hh.cell_view (View.cell_mono vr (hc4 j u hj).2))) ?_
    refine T.gO (W1.np 55 [vi 0,sN,sN,sN,sN] (fun b8=>?_))
    let i26_:HObj:=box b8 55 v65_
    let t27_:List HObj:=(box b3 3 [vi p2])::i19_::G2
    refine T.gO (W1.st 0 v65_ (i26_::(row 36 eSpot A5 c5 x1)::(iD l1 lr1 (.exit 0) [] 0)::(iu d1)::i24_::i25_::(box b5 53 [.slice A5 x1.length c5])::t27_) v65_ ?_)
    refine T.gN (T.gR (T.gR (T.gQ (T.k (pB b8 1) (T.l (.slice A7 e1.elems.length c7) (ld1 0) ?_)))))
    refine T.k2 (vi (e1.elems.length:Int)) (vi 0) (T.gN ?_)
    obtain⟨q3,hz2,hS1⟩:=ob hS1
    refine T.jf (fun a w'=>∃(z4:List DSpot),q3=Sum.inl z4∧∃(A12:Option Addr) (c12:Nat) (V8:View),View.le V5 V8∧Fr 42 [(1,.func (.yield l1) #[] #[]),(3,pB b7 0),(7,pB b8 0)] a∧Hp w V8 (i26_::(row 36 eSpot A12 c12 z4)::(iD l1 lr1 (.exit 0) [] 0)::(iu d1)::i24_::i25_::(box b5 53 [.slice A12 z4.length c12])::t27_) w') ?_ ?_
    ·
     refine T.ic ?_
     refine T.jh (fun s1 a w'=>∃(x3:List DSpot) (x4:Int),s1=(x3,x4)∧∃(A11:Option Addr) (c11:Nat) (V7:View),View.le V5 V7∧Fr 42 [(1,.func (.yield l1) #[] #[]),(3,pB b7 0),(7,pB b8 0),(18,.slice A7 e1.elems.length c7),(19,vi (e1.elems.length:Int)),(20,vi x4)] a∧Hp w V7 (i26_::(row 36 eSpot A11 c11 x3)::(iD l1 lr1 (.exit 0) [] 0)::(iu d1)::i24_::i25_::(box b5 53 [.slice A11 x3.length c11])::t27_) w') hz2 ?_ ?_
     ·
      exact fun a w' hf hh=>⟨x1,0,rfl,A5,c5,V5,vr,(Fr.s hf),(hh.u)⟩
     rintro s1 y1 hY1 hr2 a w' ⟨x3,x4,rfl,A11,c11,V7,hV7,hf,hh⟩
     let i28_:HObj:=box b5 53 [.slice A11 x3.length c11]
     let t29_:List HObj:=i28_::t27_
     let t30_:List HObj:=i25_::t29_
     let t31_:List HObj:=i24_::t30_
     let t32_:List HObj:=(iu d1)::t31_
     let t33_:List HObj:=(iD l1 lr1 (.exit 0) [] 0)::t32_
     let t34_:List HObj:=(row 36 eSpot A11 c11 x3)::t33_
     let t35_:List HObj:=i26_::t34_
     refine(?_:T 42 w V7 t35_ [(1,.func (.yield l1) #[] #[]),(3,pB b7 0),(7,pB b8 0),(18,.slice A7 e1.elems.length c7),(19,vi (e1.elems.length:Int)),(20,vi x4)] _) a w' hf hh
     clear hf hh
     try dsimp only at hY1
     refine T.gR (T.gQ (T.k (.bool (decide (x4 < (e1.elems.length:Int)))) (T.gN (T.gR ?_))))
     refine T.cb (decide (x4 < (e1.elems.length:Int))) (fun hc5=>?_) (fun hc5=>?_)
     ·
      rw [hc5,cond_true] at hY1
      refine T.gP ?_
      refine T.gR (T.ic (T.gR (T.gQ ?_)))
      obtain⟨e2,hb4,hY1⟩:=ob hY1
      obtain⟨hi4,hi5,hi6⟩:=iq hb4
      refine T.l (.pointer (some ((iC A7).add (x4.toNat * 6)))) (fun w' hh=>ib (e:=28) (s:=6) rfl rfl rfl (by kernel_rfl) (by kernel_rfl) hi4 hi5 ((ia.mono hs3 hV7).some_ hi6 (by decide))) ?_
      let v66_:List Value:=[vi e2.key.pfs,vi e2.key.obj,vi e2.key.off,vi e2.made,vi e2.gone,.string e2.val]
      let a76_:Value:=.agg #[vi e2.key.pfs,vi e2.key.obj,vi e2.key.off,vi e2.made,vi e2.gone,.string e2.val]
      refine T.l a76_ (fun w' hh=>lN (fun j u hj=>(hh.cell_view (ia.cellF (E:=eElem) (ia.mono hs3 hV7) hi6 j (fun _ _ _ h=>h) hj)))) ?_
      let v67_:List Value:=[vi 0,vi 0,vi 0,vi 0,vi 0,.string (ByteArray.mk #[])]
      refine T.gO (W1.np 28 v67_ (fun b9=>?_))
      let i36_:HObj:=box b9 28 v66_
      let t37_:List HObj:=i36_::t35_
      refine T.gO (W1.st 0 v66_ t37_ v66_ ?_)
      refine T.gN ?_
      obtain⟨q4,hX3,hY1⟩:=ob hY1
      refine T.ji (fun a w'=>∃(z5:List DSpot) (k3:Nat),q4=(z5,k3)∧∃(A13:Option Addr) (c13:Nat) (V9:View),View.le V7 V9∧Fr 42 [(1,.func (.yield l1) #[] #[]),(3,pB b7 0),(7,pB b8 0),(18,.slice A7 e1.elems.length c7),(19,vi (e1.elems.length:Int)),(20,vi x4),(27,.bool (!(isz k3)))] a∧Hp w V9 (i26_::(row 36 eSpot A13 c13 z5)::(iD l1 lr1 (.exit 0) [] k3)::(iu d1)::i24_::i25_::(box b5 53 [.slice A13 z5.length c13])::t27_) w') ?_ ?_
      ·
       refine T.gQ (T.k (.func (.yield l1) #[] #[]) (T.l a76_ (ldN 0) ?_))
       obtain⟨q5,hX4,hX3⟩:=ob hX3
       refine T.oB (W1R.lu 3 l1 (fun v w'=>∃(z6:List DSpot) (k4:Nat),q5=(z6,k4)∧∃(A14:Option Addr) (c14:Nat) (V10:View),View.le V7 V10∧v = .bool (isz k4)∧Hp w V10 (i36_::i26_::(row 36 eSpot A14 c14 z6)::(iD l1 lr1 (.exit 0) [] k4)::(iu d1)::i24_::i25_::(box b5 53 [.slice A14 z6.length c14])::t27_) w') (by rfl) hl1 hl2 hl3 hl4 (by rfl) (by kernel_rfl) rfl (by kernel_rfl) rfl ?_ ?_)
       ·
        refine T.gQ (T.gO (W1.np 28 v67_ (fun b10=>?_)))
        let i38_:HObj:=box b10 28 v66_
        refine T.gO (W1.st 0 v66_ (i38_::t37_) v66_ ?_)
        refine T.gN ?_
        refine T.jo ?_
        let t39_:List HObj:=(kK l1 lr1)::t32_
        let t40_:List HObj:=(row 36 eSpot A11 c11 x3)::t39_
        let t41_:List HObj:=i26_::t40_
        let t42_:List HObj:=i36_::t41_
        refine T.mN 4 (i38_::t42_) (by rfl) rfl ?_
        refine T.ic (T.gR (T.gR (T.gQ (T.l (.slice A11 x3.length c11) (ld1 8) ?_))))
        refine T.k (vi (x3.length:Int)) (T.l (vi p2) (ld1 9) ?_)
        refine T.k (.bool ((x3.length:Int) == p2)) (T.gN ?_)
        refine T.cb ((x3.length:Int) == p2) (fun hc6=>?_) (fun hc6=>?_)
        ·
         rw [hc6,cond_true] at hX4
         refine T.iE ?_
         cases hX4
         repeat first | refine T.iN ?_ | refine T.ng rfl ?_
         exact T.my (.exit 0) [] 0 4 (i38_::i36_::i26_::(row 36 eSpot A11 c11 x3)::(iD l1 lr1 (.exit 0) [] (0 + 1))::t32_) (by rfl) rfl rfl (fun w' hh=>⟨_,rfl,⟨x3,(0 + 1),rfl,A11,c11,V7,vr,rfl,(hh.u)⟩⟩)
        rw [hc6,cond_false] at hX4
        refine T.gP ?_
        refine T.gR (T.gQ (T.l a76_ (ldN 0) ?_))
        refine T.l (.slice A2 p1.length c2) (ld1 10) ?_
        obtain⟨r7,hb5,hX4⟩:=ob hX4
        refine T.gO (W1.w1 (vSc eBool) r7 39 #[a76_,.slice A2 p1.length c2] (fun w' hh=>pv F e2 p1 r7 hb5 w' A2 c2 (ia.mono (ia.mono hs2 (vt (vt (vt hV1 hV2) hV5) hV7)) hh.view)) ?_)
        intro u V11 hV11 hu
        obtain rfl:=jS _ _ _ hu
        refine T.k (.bool (!r7)) (T.gN ?_)
        refine T.cb (!r7) (fun hc7=>?_) (fun hc7=>?_)
        ·
         rw [hc7,cond_true] at hX4
         refine T.oG (by kernel_rfl) ?_
         obtain⟨r8,hb6,hX4⟩:=ob hX4
         let v68_:List Value:=[vi r8.key.pfs,vi r8.key.obj,vi r8.key.off,vi r8.made]
         refine TI.kJ 2 #[true,true,true,true,false,false] (fun a w'=>∃(b11:Nat) (V13:View),View.le V11 V13∧Fr 62 [(11,pB b5 0),(42,.slice A11 x3.length c11),(45,.slice (some ⟨b11,0,none⟩) 1 1)] a∧Hp w V13 ((box b11 36 v68_)::t42_) w') ?_ (fun hD1=>?_)
         ·
          rintro a w' ⟨b11,V13,hV13,hf,hh⟩
          let i43_:HObj:=box b11 36 v68_
          refine(?_:T 62 w V13 (i43_::t42_) [(11,pB b5 0),(42,.slice A11 x3.length c11),(45,.slice (some ⟨b11,0,none⟩) 1 1)] _) a w' hf hh
          clear hf hh
          refine TI.a [4] ⟨?_,trivial⟩
          obtain⟨y2,hb7,hX4⟩:=ob hX4
          obtain⟨hb7_r,hb7_m,rfl⟩:=iX hb7
          obtain⟨ti,hti,hz1,hz2,hz3⟩:=info_parts (P:=Tryz.prog) (e:=36) (z:=.agg #[vi 0,vi 0,vi 0,vi 0]) (size:=4) (bytes:=32) (by kernel_rfl)
          refine TI.br rfl <| W1.iy (W1.l8 (E:=eSpot) (l:=x3) (m:=[r8]) 3 _ _ 32 ti _ (by rfl) (by kernel_rfl) rfl (by kernel_rfl) hti hz1 hz2 hz3 rfl (by decide) rfl rfl (fun w' hh=>(ia.sF (jv (E:=eSpot) (f:=DSpot.cells) [r8] (fun _ _=>rfl) (Nat.le_of_ble_eq_true (by rfl)) (fun j=>hh.cellBox (i:=0) (by rfl) j)))) hb7_r hb7_m (fun A15 c15=>?_))
          refine TI.a [5] ⟨?_,trivial⟩
          let i44_:HObj:=row 36 eSpot A15 c15 (x3 ++ [r8])
          let v69_:List Value:=[.slice A15 ((x3 ++ [r8]).length) c15]
          let i45_:HObj:=box b5 53 v69_
          refine TI.br rfl <| W1.iy (W1.st 8 v69_ (i43_::i36_::i26_::i44_::(kK l1 lr1)::(iu d1)::i24_::i25_::i45_::t27_) v69_ ?_)
          refine TI.d ?_
          cases hX4
          repeat first | refine T.jo ?_ | refine T.jB ?_
          exact T.kN (.exit 0) [] 4 (i43_::i36_::i26_::i44_::(iD l1 lr1 (.exit 0) [] 0)::(iu d1)::i24_::i25_::i45_::t27_) (by rfl) rfl (fun w' hh=>⟨_,rfl,⟨(x3 ++ [r8]),0,rfl,A15,c15,V13,(vt hV11 hV13),rfl,(hh.u)⟩⟩)
         refine TI.a [0,1] ⟨?_,?_,trivial⟩
         ·
          refine TI.br rfl (W1.iy (W1.l (.slice A11 x3.length c11) (ld1 8) ?_))
          refine TI.a [1] ⟨?_,trivial⟩
          refine TI.br rfl (W1.iy (W1.l a76_ (ldN 0) ?_))
          refine TI.a [2] ⟨?_,trivial⟩
          refine TI.br rfl <| W1.iy (W1.w1 (vAg eSpot) r8 35 #[a76_] (fun w' hh=>iz e2 r8 hb6 w') ?_)
          intro u V12 hV12 hu
          obtain rfl:=iU _ _ _ hu
          refine TI.a [3] ⟨?_,trivial⟩
          refine TI.br rfl <| W1.iy (W1.ns 36 v68_ (fun b11=>?_))
          exact TI.jz hD1 (by kernel_rfl) (fun a w' hf hh=>⟨b11,V12,hV12,((((Fr.nil hf).pick hf 45 rfl).pick hf 42 rfl).pick hf 11 rfl),(hh.u)⟩)
         refine TI.br rfl (W1.iy (W1.l a76_ (ldN 0) ?_))
         refine TI.a [0,2] ⟨?_,?_,trivial⟩
         ·
          refine TI.br rfl (W1.iy (W1.l (.slice A11 x3.length c11) (ld1 8) ?_))
          refine TI.a [2] ⟨?_,trivial⟩
          refine TI.br rfl <| W1.iy (W1.w1 (vAg eSpot) r8 35 #[a76_] (fun w' hh=>iz e2 r8 hb6 w') ?_)
          intro u V12 hV12 hu
          obtain rfl:=iU _ _ _ hu
          refine TI.a [3] ⟨?_,trivial⟩
          refine TI.br rfl <| W1.iy (W1.ns 36 v68_ (fun b11=>?_))
          exact TI.jz hD1 (by kernel_rfl) (fun a w' hf hh=>⟨b11,V12,hV12,((((Fr.nil hf).pick hf 45 rfl).pick hf 42 rfl).pick hf 11 rfl),(hh.u)⟩)
         refine TI.br rfl <| W1.iy (W1.w1 (vAg eSpot) r8 35 #[a76_] (fun w' hh=>iz e2 r8 hb6 w') ?_)
         intro u V12 hV12 hu
         obtain rfl:=iU _ _ _ hu
         refine TI.a [0,3] ⟨?_,?_,trivial⟩
         ·
          refine TI.br rfl (W1.iy (W1.l (.slice A11 x3.length c11) (ld1 8) ?_))
          refine TI.a [3] ⟨?_,trivial⟩
          refine TI.br rfl <| W1.iy (W1.ns 36 v68_ (fun b11=>?_))
          exact TI.jz hD1 (by kernel_rfl) (fun a w' hf hh=>⟨b11,V12,hV12,((((Fr.nil hf).pick hf 45 rfl).pick hf 42 rfl).pick hf 11 rfl),(hh.u)⟩)
         refine TI.br rfl <| W1.iy (W1.ns 36 v68_ (fun b11=>?_))
         refine TI.a [0] ⟨?_,trivial⟩
         refine TI.br rfl (W1.iy (W1.l (.slice A11 x3.length c11) (ld1 9) ?_))
         exact TI.jz hD1 (by kernel_rfl) (fun a w' hf hh=>⟨b11,V12,hV12,((((Fr.nil hf).pick hf 45 rfl).pick hf 42 rfl).pick hf 11 rfl),(hh.u)⟩)
        rw [hc7,cond_false] at hX4
        refine T.gP ?_
        cases hX4
        repeat first | refine T.jo ?_ | refine T.jB ?_
        exact T.kN (.exit 0) [] 4 (i38_::t37_) (by rfl) rfl (fun w' hh=>⟨_,rfl,⟨x3,0,rfl,A11,c11,V11,hV11,rfl,(hh.u)⟩⟩)
       rintro v w' ⟨z6,k4,rfl,A14,c14,V10,hV10,rfl,hh⟩
       try dsimp only at hX3
       refine⟨V10,(i36_::i26_::(row 36 eSpot A14 c14 z6)::(iD l1 lr1 (.exit 0) [] k4)::(iu d1)::i24_::i25_::(box b5 53 [.slice A14 z6.length c14])::t27_),hh,?_⟩
       clear hh
       cases k4 with
       | zero =>
        rw [iI] at hX3
        refine T.k (.bool false) (T.gN ?_)
        cases hX3
        exact fun a w' hf hh=>⟨z6,0,rfl,A14,c14,V10,hV10,(Fr.s hf),(hh.u)⟩
       | succ k5 =>
        rw [iQ] at hX3
        refine T.k (.bool true) (T.gN ?_)
        cases hX3
        exact fun a w' hf hh=>⟨z6,(k5 + 1),rfl,A14,c14,V10,hV10,(Fr.s hf),(hh.u)⟩
      rintro a w' ⟨z5,k3,rfl,A13,c13,V9,hV9,hf,hh⟩
      try dsimp only at hY1
      refine(?_:T 42 w V9 (i26_::(row 36 eSpot A13 c13 z5)::(iD l1 lr1 (.exit 0) [] k3)::(iu d1)::i24_::i25_::(box b5 53 [.slice A13 z5.length c13])::t27_) [(1,.func (.yield l1) #[] #[]),(3,pB b7 0),(7,pB b8 0),(18,.slice A7 e1.elems.length c7),(19,vi (e1.elems.length:Int)),(20,vi x4),(27,.bool (!(isz k3)))] _) a w' hf hh
      clear hf hh
      cases k3 with
      | zero =>
       rw [iI] at hY1
       refine T.cb false (fun h=>Bool.noConfusion h) (fun _=>?_)
       refine T.gP ?_
       refine T.gQ (T.k2 (vi (IntKind.i64.wrap (x4 + 1))) (vi (IntKind.i64.wrap (x4 + 1))) (T.gN ?_))
       cases hY1
       exact fun a w' hf hh=>⟨(z5,IntKind.i64.wrap (x4 + 1)),rfl,z5,(IntKind.i64.wrap (x4 + 1)),rfl,A13,c13,V9,(vt hV7 hV9),(Fr.s hf),(hh.u)⟩
      | succ k6 =>
       rw [iQ] at hY1
       refine T.cb true (fun _=>?_) (fun h=>Bool.noConfusion h)
       refine T.gR (T.gQ (T.k (.bool false) (T.gN ?_)))
       cases hY1
       cases (hr2 _ rfl)
       try dsimp only at hS1
       have hres:=Option.some.inj hS1
       subst hres
       refine T.ii rfl ?_
       repeat first | refine T.ij ?_ | refine T.ig ?_
       exact T.ik rfl (rT rfl) fun w' hh=>⟨_,rfl,⟨z5,(k6 + 1),rfl,A13,c13,V9,(vt hV7 hV9),rfl,(hh.u)⟩⟩
     rw [hc5,cond_false] at hY1
     refine T.iE ?_
     cases hY1
     cases (hr2 _ rfl)
     exact fun a w' hf hh=>⟨x3,rfl,A11,c11,V7,hV7,(Fr.s hf),(hh.u)⟩
    rintro a w' ⟨z4,rfl,A12,c12,V8,hV8,hf,hh⟩
    try dsimp only at hS1
    refine(?_:T 42 w V8 (i26_::(row 36 eSpot A12 c12 z4)::(iD l1 lr1 (.exit 0) [] 0)::(iu d1)::i24_::i25_::(box b5 53 [.slice A12 z4.length c12])::t27_) [(1,.func (.yield l1) #[] #[]),(3,pB b7 0),(7,pB b8 0)] _) a w' hf hh
    clear hf hh
    refine T.gR (T.gR (T.gQ (T.k (pB b8 2) (T.l (.slice A8 e1.kids.length c8) (ld1 0) ?_))))
    refine T.k2 (vi (e1.kids.length:Int)) (vi 0) (T.gN ?_)
    obtain⟨q6,hz3,hS1⟩:=ob hS1
    refine T.jf (fun a w'=>∃(z7:List DSpot),q6=Sum.inl z7∧∃(A17:Option Addr) (c17:Nat) (V15:View),View.le V8 V15∧Fr 42 [] a∧Hp w V15 ((row 36 eSpot A17 c17 z7)::(iD l1 lr1 (.exit 0) [] 0)::(iu d1)::i24_::i25_::(box b5 53 [.slice A17 z7.length c17])::t27_) w') ?_ ?_
    ·
     refine T.ic ?_
     refine T.jh (fun s2 a w'=>∃(x5:List DSpot) (x6:Int),s2=(x5,x6)∧∃(A16:Option Addr) (c16:Nat) (V14:View),View.le V8 V14∧Fr 42 [(1,.func (.yield l1) #[] #[]),(3,pB b7 0),(30,.slice A8 e1.kids.length c8),(31,vi (e1.kids.length:Int)),(32,vi x6)] a∧Hp w V14 ((row 36 eSpot A16 c16 x5)::(iD l1 lr1 (.exit 0) [] 0)::(iu d1)::i24_::i25_::(box b5 53 [.slice A16 x5.length c16])::t27_) w') hz3 ?_ ?_
     ·
      exact fun a w' hf hh=>⟨z4,0,rfl,A12,c12,V8,vr,(Fr.s hf),(hh.u)⟩
     rintro s2 y3 hY2 hr3 a w' ⟨x5,x6,rfl,A16,c16,V14,hV14,hf,hh⟩
     refine(?_:T 42 w V14 ((row 36 eSpot A16 c16 x5)::(iD l1 lr1 (.exit 0) [] 0)::(iu d1)::i24_::i25_::(box b5 53 [.slice A16 x5.length c16])::t27_) [(1,.func (.yield l1) #[] #[]),(3,pB b7 0),(30,.slice A8 e1.kids.length c8),(31,vi (e1.kids.length:Int)),(32,vi x6)] _) a w' hf hh
     clear hf hh
     try dsimp only at hY2
     refine T.gR (T.gQ (T.k (.bool (decide (x6 < (e1.kids.length:Int)))) (T.gN (T.gR ?_))))
     refine T.cb (decide (x6 < (e1.kids.length:Int))) (fun hc8=>?_) (fun hc8=>?_)
     ·
      rw [hc8,cond_true] at hY2
      refine T.gP ?_
      refine T.gR (T.ic (T.gR (T.gQ ?_)))
      obtain⟨e3,hb8,hY2⟩:=ob hY2
      obtain⟨hi7,hi8,hi9⟩:=iq hb8
      refine T.l (.pointer (some ((iC A8).add (x6.toNat * 1)))) (fun w' hh=>ib (e:=3) (s:=1) rfl rfl rfl (by kernel_rfl) (by kernel_rfl) hi7 hi8 ((ia.mono hs4 (vt hV8 hV14)).some_ hi9 (by decide))) ?_
      refine T.l (vi e3) (fun w' hh=>iB rfl rfl (by kernel_rfl) (hh.cell_view (ia.cellF0 (E:=hO) (ia.mono hs4 (vt hV8 hV14)) hi9 (fun _ _ _ h=>h) rfl))) ?_
      refine T.k (vi e3) (T.gN ?_)
      obtain⟨q7,hX5,hY2⟩:=ob hY2
      refine T.ji (fun a w'=>∃(z8:List DSpot) (k7:Nat),q7=(z8,k7)∧∃(A18:Option Addr) (c18:Nat) (V16:View),View.le V14 V16∧Fr 42 [(1,.func (.yield l1) #[] #[]),(3,pB b7 0),(30,.slice A8 e1.kids.length c8),(31,vi (e1.kids.length:Int)),(32,vi x6),(40,.bool (!(isz k7)))] a∧Hp w V16 ((row 36 eSpot A18 c18 z8)::(iD l1 lr1 (.exit 0) [] k7)::(iu d1)::i24_::i25_::(box b5 53 [.slice A18 z8.length c18])::t27_) w') ?_ ?_
      ·
       refine T.gQ (T.l (.func (.func 61) #[] #[pB b6 0,pB b7 0]) (ld1 3) ?_)
       refine T.k2 (vi e3) (.func (.yield l1) #[] #[]) ?_
       obtain⟨q8,hz4,hX5⟩:=ob hX5
       refine T.gO (W1.cj (fun w' hh=>ih1 _ _ hz4 x5 e3 rfl A16 c16 V14 G2 w' (vt (vt hV5 hV8) hV14) (hh.u)) ?_)
       rintro v w' ⟨z9,z10,rfl,A19,c19,V17,hV17,rfl,hh⟩
       try dsimp only at hX5
       refine⟨_,_,hh,?_⟩
       clear hh
       cases z10 with
       | zero =>
        rw [iI] at hX5
        refine T.k (.bool false) (T.gN ?_)
        cases hX5
        exact fun a w' hf hh=>⟨z9,0,rfl,A19,c19,V17,hV17,(Fr.s hf),(hh.u)⟩
       | succ k8 =>
        rw [iQ] at hX5
        refine T.k (.bool true) (T.gN ?_)
        cases hX5
        exact fun a w' hf hh=>⟨z9,(k8 + 1),rfl,A19,c19,V17,hV17,(Fr.s hf),(hh.u)⟩
      rintro a w' ⟨z8,k7,rfl,A18,c18,V16,hV16,hf,hh⟩
      try dsimp only at hY2
      refine(?_:T 42 w V16 ((row 36 eSpot A18 c18 z8)::(iD l1 lr1 (.exit 0) [] k7)::(iu d1)::i24_::i25_::(box b5 53 [.slice A18 z8.length c18])::t27_) [(1,.func (.yield l1) #[] #[]),(3,pB b7 0),(30,.slice A8 e1.kids.length c8),(31,vi (e1.kids.length:Int)),(32,vi x6),(40,.bool (!(isz k7)))] _) a w' hf hh
      clear hf hh
      cases k7 with
      | zero =>
       rw [iI] at hY2
       refine T.cb false (fun h=>Bool.noConfusion h) (fun _=>?_)
       refine T.gP ?_
       refine T.gQ (T.k2 (vi (IntKind.i64.wrap (x6 + 1))) (vi (IntKind.i64.wrap (x6 + 1))) (T.gN ?_))
       cases hY2
       exact fun a w' hf hh=>⟨(z8,IntKind.i64.wrap (x6 + 1)),rfl,z8,(IntKind.i64.wrap (x6 + 1)),rfl,A18,c18,V16,(vt hV14 hV16),(Fr.s hf),(hh.u)⟩
      | succ k9 =>
       rw [iQ] at hY2
       refine T.cb true (fun _=>?_) (fun h=>Bool.noConfusion h)
       refine T.gR (T.gQ (T.k (.bool false) (T.gN ?_)))
       cases hY2
       cases (hr3 _ rfl)
       try dsimp only at hS1
       have hres:=Option.some.inj hS1
       subst hres
       refine T.ii rfl ?_
       repeat first | refine T.ij ?_ | refine T.ig ?_
       exact T.ik rfl (rT rfl) fun w' hh=>⟨_,rfl,⟨z8,(k9 + 1),rfl,A18,c18,V16,(vt (vt hV8 hV14) hV16),rfl,(hh.u)⟩⟩
     rw [hc8,cond_false] at hY2
     refine T.iE ?_
     cases hY2
     cases (hr3 _ rfl)
     exact fun a w' hf hh=>⟨x5,rfl,A16,c16,V14,hV14,(Fr.nil hf),(hh.u)⟩
    rintro a w' ⟨z7,rfl,A17,c17,V15,hV15,hf,hh⟩
    try dsimp only at hS1
    refine(?_:T 42 w V15 ((row 36 eSpot A17 c17 z7)::(iD l1 lr1 (.exit 0) [] 0)::(iu d1)::i24_::i25_::(box b5 53 [.slice A17 z7.length c17])::t27_) [] _) a w' hf hh
    clear hf hh
    refine T.gR (T.gQ (T.k (.bool true) (T.gN ?_)))
    have hres:=Option.some.inj hS1
    subst hres
    refine T.ii rfl ?_
    repeat first | refine T.ij ?_ | refine T.ig ?_
    exact T.ik rfl (rT rfl) fun w' hh=>⟨_,rfl,⟨z7,0,rfl,A17,c17,V15,(vt hV8 hV15),rfl,(hh.u)⟩⟩
   refine T.gO (W1.cj (fun w' hh=>hq1 [] p0.root rfl none 0 V2 t18_ w' vr (hh.ix 9 [0,1,2,3,4,5,7,8,6])) ?_)
   rintro v w' ⟨z11,z12,rfl,A20,c20,V18,hV18,rfl,hh⟩
   try dsimp only at hX2
   refine⟨V18,((row 36 eSpot A20 c20 z11)::(iD l1 lr1 (.exit 0) [] z12)::(iu d1)::i24_::i25_::(box b5 53 [.slice A20 z11.length c20])::t22_),hh.ix 9 [0,1,2,3,4,5,8,6,7],?_⟩
   clear hh
   cases z12 with
   | zero =>
    rw [iI] at hX2
    refine T.gN ?_
    cases hX2
    repeat first | refine T.jo ?_ | refine T.jB ?_
    exact T.jD rfl (fun w' hh=>⟨_,rfl,⟨z11,0,rfl,A20,c20,V18,hV18,(hh.ix 9 [1,0,2,5,6])⟩⟩)
   | succ k10 =>
    rw [iQ] at hX2
    refine T.gN ?_
    cases hX2
    repeat first | refine T.jo ?_ | refine T.jB ?_
    exact T.jD rfl (fun w' hh=>⟨_,rfl,⟨z11,(k10 + 1),rfl,A20,c20,V18,hV18,(hh.ix 9 [1,0,2,5,6])⟩⟩)
  rintro l1 d1 lr1 w' ⟨z2,k1,rfl,A4,c4,V4,hV4,hh⟩
  try dsimp only at hX1
  refine⟨V4,((row 36 eSpot A4 c4 z2)::(iu d1)::(box b5 53 [.slice A4 z2.length c4])::t18_),k1,hh,?_⟩
  clear hh
  cases k1 with
  | zero =>
   rw [iI] at hX1
   rw [iI]
   cases hX1
   exact fun a w' hf hh=>⟨A4,c4,d1,V4,hV4,(Fr.s hf),(hh.u)⟩
  | succ k11 =>
   rw [iQ] at hX1
   rw [iQ]
   rw [ph]
   refine T.iE ?_
   cases hX1
   exact fun a w' hf hh=>⟨A4,c4,d1,V4,hV4,(Fr.s hf),(hh.u)⟩
 rintro a w' ⟨A3,c3,d1,V3,hV3,hf,hh⟩
 let i46_:HObj:=box b5 53 [.slice A3 z1.length c3]
 let t47_:List HObj:=i46_::t18_
 let t48_:List HObj:=(iu d1)::t47_
 let t49_:List HObj:=(row 36 eSpot A3 c3 z1)::t48_
 refine(?_:T ⟨62,[d1]⟩ w V3 t49_ [(3,pB b1 0),(6,pB b4 0),(11,pB b5 0)] _) a w' hf hh
 clear hf hh
 refine T.gR (T.gQ (T.l a75_ (ldN 4) ?_))
 obtain⟨r9,hb9,hF⟩:=ob hF
 refine T.gO (W1.jO 24 #[a75_] (fun p:Option Addr × Nat × List DHdr=>.agg #[vi r9.root,.slice p.1 p.2.2.length p.2.1]) (fun p=>((row 55 eHdr p.1 p.2.1 p.2.2)::(il (TreeTy.mk 28 3 36) p.2.2 (r9.nodes.map Sum.inr))::[])) (fun p=>p.2.2.length=r9.nodes.length) (by kernel_rfl) (fun _=>by kernel_rfl) (fun w' hh=>kB F p0 r9 hb9 w' A1 c1 (ia.mono (ia.mono hs1 (vt (vt hV1 hV2) hV3)) hh.view)) ?_)
 rintro⟨A21,c21,hs7⟩ hl5
 let i50_:HObj:=il (TreeTy.mk 28 3 36) hs7 (r9.nodes.map Sum.inr)
 refine T.iH (H':=((row 55 eHdr A21 c21 hs7)::i50_::t49_)) (by rfl) ?_
 refine T.gO (W1.np 24 v64_ (fun b12=>?_))
 let v70_:List Value:=[vi r9.root,.slice A21 hs7.length c21]
 refine T.gO (W1.st 0 v70_ ((box b12 24 v70_)::(row 55 eHdr A21 c21 hs7)::i50_::t49_) v70_ ?_)
 refine T.gN (T.gR (T.gR ?_))
 refine T.iL 2 (by rfl) (fun ht1=>?_)
 refine T.gQ (T.l (.slice A3 z1.length c3) (ld1 5) ?_)
 refine T.k2 (vi (z1.length:Int)) (vi 0) (T.gN ?_)
 obtain⟨q9,hz5,hF⟩:=ob hF
 let t51_:List HObj:=i46_::i16_::[]
 let t52_:List HObj:=(iu d1)::t51_
 let t53_:List HObj:=(row 36 eSpot A3 c3 z1)::t52_
 refine T.jf (fun a w'=>∃(z13:Int) (z14:List (Int ⊕ DNode)),q9=(z13,z14)∧∃(hs9:List DHdr) (V20:View),View.le V3 V20∧Fr ⟨62,[d1]⟩ [(6,pB b4 0),(11,pB b5 0),(13,pB b12 0)] a∧Hp w V20 ((box b12 24 [vi z13,.slice A21 hs9.length c21])::(row 55 eHdr A21 c21 hs9)::(il (TreeTy.mk 28 3 36) hs9 z14)::t53_) w') ?_ ?_
 ·
  refine T.ic ?_
  refine T.jh (fun s3 a w'=>∃(x7:Int) (x8:List (Int ⊕ DNode)) (x9:Int),s3=(x7,x8,x9)∧∃(hs8:List DHdr) (V19:View),View.le V3 V19∧Fr ⟨62,[d1]⟩ [(6,pB b4 0),(11,pB b5 0),(13,pB b12 0),(49,.slice A3 z1.length c3),(50,vi (z1.length:Int)),(51,vi x9)] a∧Hp w V19 ((box b12 24 [vi x7,.slice A21 hs8.length c21])::(row 55 eHdr A21 c21 hs8)::(il (TreeTy.mk 28 3 36) hs8 x8)::t53_) w') hz5 ?_ ?_
  ·
   exact fun a w' hf hh=>⟨r9.root,(r9.nodes.map Sum.inr),0,rfl,hs7,V3,vr,(Fr.s hf),(hh.u)⟩
  rintro s3 y4 hY3 hr4 a w' ⟨x7,x8,x9,rfl,hs8,V19,hV19,hf,hh⟩
  let v71_:List Value:=[vi x7,.slice A21 hs8.length c21]
  let i54_:HObj:=box b12 24 v71_
  let i55_:HObj:=il (TreeTy.mk 28 3 36) hs8 x8
  refine(?_:T ⟨62,[d1]⟩ w V19 (i54_::(row 55 eHdr A21 c21 hs8)::i55_::t53_) [(6,pB b4 0),(11,pB b5 0),(13,pB b12 0),(49,.slice A3 z1.length c3),(50,vi (z1.length:Int)),(51,vi x9)] _) a w' hf hh
  clear hf hh
  try dsimp only at hY3
  refine T.gR (T.gQ (T.k (.bool (decide (x9 < (z1.length:Int)))) (T.gN (T.gR ?_))))
  refine T.cb (decide (x9 < (z1.length:Int))) (fun hc9=>?_) (fun hc9=>?_)
  ·
   rw [hc9,cond_true] at hY3
   refine T.gP ?_
   refine T.gR (T.ic (T.gR ?_))
   refine T.iL 2 (by rfl) (fun ht2=>?_)
   refine T.gQ ?_
   obtain⟨e4,hb10,hY3⟩:=ob hY3
   obtain⟨hi10,hi11,hi12⟩:=iq hb10
   refine T.l (.pointer (some ((iC A3).add (x9.toNat * 4)))) (iR 3 (e:=36) (s:=4) hi10 hi11 hi12) ?_
   let v72_:List Value:=[vi e4.key.pfs,vi e4.key.obj,vi e4.key.off,vi e4.made]
   let a77_:Value:=.agg #[vi e4.key.pfs,vi e4.key.obj,vi e4.key.off,vi e4.made]
   refine T.l a77_ (fun w' hh=>lN (fun j u hj=>(ia.wcellF (E:=eSpot) (hh.row_slOk (i:=3) (by rfl)) hi12 j (fun _ _ _ h=>h) hj))) ?_
   refine T.gO (W1.np 36 [vi 0,vi 0,vi 0,vi 0] (fun b13=>?_))
   let i56_:HObj:=box b13 36 v72_
   refine T.gO (W1.st 0 v72_ (i56_::i54_::(row 55 eHdr A21 c21 hs8)::i55_::t53_) v72_ ?_)
   refine T.gN (T.gQ (T.l (.agg #[vi x7,.slice A21 hs8.length c21]) (ldN 1) ?_))
   refine T.l a77_ (ldN 0) ?_
   obtain⟨r11,hb11,hY3⟩:=ob hY3
   refine T.gO (W1.cj (fun w' hh=>li F x7 x8 e4 r11 hb11 w A21 c21 hs8 V19 (i56_::i54_::t53_) w' (hh.ix 4 [2,3,0,1])) ?_)
   rintro v w' ⟨hs10,V21,hV21,rfl,hh⟩
   let i57_:HObj:=il (TreeTy.mk 28 3 36) hs10 r11.1
   refine⟨V21,(i56_::i54_::(row 55 eHdr A21 c21 hs10)::i57_::t53_),hh.ix 4 [2,3,0,1],?_⟩
   clear hh
   let v73_:List Value:=[vi r11.2,.slice A21 hs10.length c21]
   refine T.gO (W1.st 1 v73_ (i56_::(box b12 24 v73_)::(row 55 eHdr A21 c21 hs10)::i57_::t53_) v73_ ?_)
   refine T.gN (T.gQ (T.k2 (vi (IntKind.i64.wrap (x9 + 1))) (vi (IntKind.i64.wrap (x9 + 1))) (T.gN ?_)))
   cases hY3
   exact fun a w' hf hh=>⟨(r11.2,r11.1,IntKind.i64.wrap (x9 + 1)),rfl,r11.2,r11.1,(IntKind.i64.wrap (x9 + 1)),rfl,hs10,V21,(vt hV19 hV21),(Fr.s hf),(hh.u)⟩
  rw [hc9,cond_false] at hY3
  refine T.iE ?_
  cases hY3
  cases (hr4 _ rfl)
  exact fun a w' hf hh=>⟨x7,x8,rfl,hs8,V19,hV19,(Fr.s hf),(hh.u)⟩
 rintro a w' ⟨z13,z14,rfl,hs9,V20,hV20,hf,hh⟩
 try dsimp only at hF
 let v74_:List Value:=[vi z13,.slice A21 hs9.length c21]
 let i58_:HObj:=box b12 24 v74_
 let i59_:HObj:=il (TreeTy.mk 28 3 36) hs9 z14
 refine(?_:T ⟨62,[d1]⟩ w V20 (i58_::(row 55 eHdr A21 c21 hs9)::i59_::t53_) [(6,pB b4 0),(11,pB b5 0),(13,pB b12 0)] _) a w' hf hh
 clear hf hh
 refine T.gR ?_
 refine T.iL 2 (by rfl) (fun ht3=>?_)
 refine T.sc (i58_::(row 55 eHdr A21 c21 hs9)::(row 36 eSpot A3 c3 z1)::i46_::[]) (by kernel_rfl) ?_
 have w78_:=vt (vt (vt hV1 hV2) hV3) hV20
 refine TA.ja (Hp.q vr w78_) fun o79_=>?_
 refine TA.tk 0 (.agg #[vi z13,.slice A21 hs9.length c21]) rfl o79_ (ldN 0) ?_
 refine TA.tk 1 (.slice A3 z1.length c3) rfl o79_ (ld1 3) ?_
 refine TA.tp 2 (vi (z1.length:Int)) rfl o79_ ?_
 refine TA.a [3] ⟨?_,trivial⟩
 let i60_:HObj:=box b4 24 v74_
 let t61_:List HObj:=i46_::i60_::[]
 refine TA.br rfl (W1.st 6 v74_ (i58_::(row 55 eHdr A21 c21 hs9)::i59_::(row 36 eSpot A3 c3 z1)::(iu d1)::t61_) v74_ ?_)
 refine TA.iS (Hp.q vr w78_) fun o80_=>?_
 refine TA.tp 4 (vi (z1.length:Int)) rfl o80_ ?_
 refine TA.tp 5 (vi 0) rfl o80_ ?_
 refine TA.d ?_
 obtain⟨l2,hb12,hF⟩:=ob hF
 have hl6:hs9.length=l2.length:=by have:=ht3.len;rwa [jd hb12,List.length_map] at this
 let i62_:HObj:=il (TreeTy.mk 28 3 36) hs9 (l2.map Sum.inr)
 refine T.iH (H':=(i58_::(row 55 eHdr A21 c21 hs9)::i62_::(row 36 eSpot A3 c3 z1)::(iu d1)::t61_)) (by simp +zetaDelta only [jd hb12]) ?_
 cases hF
 refine T.ii rfl ?_
 refine T.jU (i58_::(row 55 eHdr A21 c21 hs9)::i62_::(row 36 eSpot A3 c3 z1)::t61_) [d1] (fun w' hh=>hh.ix 5 [4,0,1,2,3]) ?_
 exact T.lD rfl (rN 5) (rT rfl) (rT rfl) fun w' hh=>⟨(A21,c21,hs9),rfl,hl6,iP (X:=((row 55 eHdr A21 c21 hs9)::i62_::[])) (hh.u) ⟨iG (fun _ _ _ _ h=>h),iO _ _ _,trivial⟩⟩
end Go.Proofs.YtfbpiogbhkgieaaGreat
