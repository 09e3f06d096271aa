/- The Go functions of group Step compute its pure functions, where these yield a result. -/
import Derived.Test.YtljbmnknmhogaaaShAT
import Derived.Test.YtljbmnknmhogaaaPastCLT
import Derived.Test.YtljbmnknmhogaaaPruneLT
import Derived.Test.YtljbmnknmhogaaaCpLT
import Derived.Test.YtljbmnknmhogaaaFrLT
import Derived.Test.YtljbmnknmhogaaaRangeT
import Derived.Test.YtljbmnknmhogaaaTreeOT
import Derived.Test.YtljbmnknmhogaaaClearT
import Derived.Test.YtljbmnknmhogaaaStepFT
import Derived.Test.YtljbmnknmhogaaaEqLT
namespace Go.Proofs.Ytljbmnknmhogaaa
open IntKind (i64)
set_option maxRecDepth 100000
set_option maxHeartbeats 4000000
set_option linter.unusedVariables false
set_option linter.defProp false
def ipStepL_1:=info_parts (P:=Try.prog) (e:=76) (z:=.agg #[.int .i64 0,.int .i64 0,.int .i64 0,.int .i64 0]) (size:=4) (bytes:=32) (by kernel_rfl)
theorem o9 (F:Nat) (p0:DTree) (p1:(List Int)) (p2:Int) (r:DTree × Int × Int) (hF:mY F p0 p1 p2=some r) (w:World) (A1:Option Addr) (c1:Nat) (hs1:ib (vw w) ju A1 c1 p0.nodes) (A2:Option Addr) (c2:Nat) (hs2:ib (vw w) ic A2 c2 p1) :
 Calls Try.prog 12 #[.agg #[.int .i64 p0.root,.slice A1 p0.nodes.length c1],.slice A2 p1.length c2,.int .i64 p2] w (jZ (vT3 (vAg mq) (vSc ic) (vSc ic)) r w):=by
 unfold mY at hF
 let a83_:Value:=.agg #[vi p0.root,.slice A1 p0.nodes.length c1]
 refine T.mu (l:=[a83_,.slice A2 p1.length c2,vi p2]) Try.func12 rfl rfl rfl ?_
 refine T.ie (T.ia ?_)
 let v65_:List Value:=[vi p0.root,.slice A1 p0.nodes.length c1]
 refine T.gZ (W1.np 27 v65_ (fun b1=>?_))
 refine T.gZ (W1.np 31 [.slice A2 p1.length c2] (fun b2=>?_))
 refine T.gZ (W1.np 3 [vi p2] (fun b3=>?_))
 let v66_:List Value:=[vi 0,sN]
 refine T.gZ (W1.np 27 v66_ (fun b4=>?_))
 refine T.k2 (vi 0) (vi 0) (T.gO (T.ie (T.ie (T.ia (T.l a83_ (ldN 3) ?_)))))
 obtain⟨r1,hb1,hF⟩:=ob hF
 refine T.gZ (W1.w1 (vSc ic) r1 19 #[a83_] (fun w' hh=>lu F p0 r1 hb1 w' A1 c1 (ib.mono hs1 hh.view)) ?_)
 intro u V1 hV1 hu
 obtain rfl:=il _ _ _ hu
 refine T.k (vi r1) (T.gO (T.ie (T.ia (T.k2 (vi r1) (.bool (r1 != 0)) (T.gO ?_)))))
 refine T.cb (r1 != 0) (fun hc1=>?_) (fun hc1=>?_)
 ·
  rw [hc1,cond_true] at hF
  refine T.ie (T.ia (T.k2 (.agg #[vi 0,sN]) (vi r1) ?_))
  let i1_:HObj:=box b4 27 v66_
  let i2_:HObj:=box b2 31 [.slice A2 p1.length c2]
  let i3_:HObj:=box b1 27 v65_
  refine T.gZ (W1.st 0 v66_ (i1_::(box b3 3 [vi p2])::i2_::i3_::[]) v66_ ?_)
  refine T.k2 (vi 0) (vi r1) (T.gO ?_)
  cases hF
  refine T.ik rfl ?_
  refine T.kf (i1_::(box b3 3 [vi p2])::i2_::i3_::[]) [] (fun w' hh=>hh.u) ?_
  exact T.mt rfl (rN 0) (rT rfl) (rT rfl) fun w' hh=>⟨_,rfl,hh.below,(vT3.mk (vAg.mk ⟨_,_,rfl,(ib.nil _ _)⟩) (show _ from rfl) (show _ from rfl))⟩
 rw [hc1,cond_false] at hF
 refine T.hJ ?_
 refine T.ie (T.ie (T.ia (T.l (.slice A2 p1.length c2) (ld1 2) ?_)))
 obtain⟨r2,hb2,hF⟩:=ob hF
 refine T.gZ (W1.w1 (vSc ic) r2 34 #[.slice A2 p1.length c2] (fun w' hh=>mR F p1 r2 hb2 w' A2 c2 (ib.mono (ib.mono hs2 hV1) hh.view)) ?_)
 intro u V2 hV2 hu
 obtain rfl:=il _ _ _ hu
 refine T.k (vi r2) (T.gO (T.ie (T.ia (T.k2 (vi r2) (.bool (r2 != 0)) (T.gO ?_)))))
 refine T.cb (r2 != 0) (fun hc2=>?_) (fun hc2=>?_)
 ·
  rw [hc2,cond_true] at hF
  refine T.ie (T.ia (T.k2 (.agg #[vi 0,sN]) (vi r2) ?_))
  let i4_:HObj:=box b4 27 v66_
  let i5_:HObj:=box b2 31 [.slice A2 p1.length c2]
  let i6_:HObj:=box b1 27 v65_
  refine T.gZ (W1.st 0 v66_ (i4_::(box b3 3 [vi p2])::i5_::i6_::[]) v66_ ?_)
  refine T.k2 (vi 0) (vi r2) (T.gO ?_)
  cases hF
  refine T.ik rfl ?_
  refine T.kf (i4_::(box b3 3 [vi p2])::i5_::i6_::[]) [] (fun w' hh=>hh.u) ?_
  exact T.mt rfl (rN 0) (rT rfl) (rT rfl) fun w' hh=>⟨_,rfl,hh.below,(vT3.mk (vAg.mk ⟨_,_,rfl,(ib.nil _ _)⟩) (show _ from rfl) (show _ from rfl))⟩
 rw [hc2,cond_false] at hF
 refine T.hJ ?_
 refine T.ie (T.ie (T.ia (T.l (vi p2) (ld1 1) ?_)))
 refine T.k (.bool (decide (p2 < 0))) (T.gO ?_)
 refine T.cb (decide (p2 < 0)) (fun hc3=>?_) (fun hc3=>?_)
 ·
  rw [hc3,cond_true] at hF
  refine T.ie (T.ia (T.k (.agg #[vi 0,sN]) ?_))
  let i7_:HObj:=box b4 27 v66_
  let i8_:HObj:=box b2 31 [.slice A2 p1.length c2]
  let i9_:HObj:=box b1 27 v65_
  refine T.gZ (W1.st 0 v66_ (i7_::(box b3 3 [vi p2])::i8_::i9_::[]) v66_ ?_)
  refine T.k2 (vi 0) (vi 1) (T.gO ?_)
  cases hF
  refine T.ik rfl ?_
  refine T.kf (i7_::(box b3 3 [vi p2])::i8_::i9_::[]) [] (fun w' hh=>hh.u) ?_
  exact T.mt rfl (rN 0) (rT rfl) (rT rfl) fun w' hh=>⟨_,rfl,hh.below,(vT3.mk (vAg.mk ⟨_,_,rfl,(ib.nil _ _)⟩) (show _ from rfl) (show _ from rfl))⟩
 rw [hc3,cond_false] at hF
 refine T.hJ ?_
 refine T.ie (T.ia (T.gZ (W1.np 55 [sN] (fun b5=>?_))))
 refine T.gO ?_
 obtain⟨z1,hX1,hF⟩:=ob hF
 let i10_:HObj:=box b4 27 v66_
 let i11_:HObj:=box b1 27 v65_
 let t12_:List HObj:=i10_::i11_::[]
 refine T.iZ (fun a w'=>∃(A3:Option Addr) (c3:Nat) (d1:Nat) (V3:View),View.le V2 V3∧Fr ⟨62,[d1]⟩ [(3,pB b1 0),(6,pB b4 0),(11,pB b5 0)] a∧Hp w V3 ((row 76 eSpot A3 c3 z1)::(iu d1)::(box b5 55 [.slice A3 z1.length c3])::t12_) w') ?_ ?_
 ·
  refine T.ie (T.ia (T.l a83_ (ldN 4) ?_))
  let i13_:HObj:=box b2 31 [.slice A2 p1.length c2]
  let t14_:List HObj:=i13_::i11_::[]
  let t15_:List HObj:=(box b3 3 [vi p2])::t14_
  let t16_:List HObj:=i10_::t15_
  let t17_:List HObj:=(box b5 55 [sN])::t16_
  refine T.gZ (W1.jx 35 [a83_] (fun v w'=>∃(b7:Nat) (b6:Nat),v = .func (.func 52) #[] #[pB b7 0,pB b6 0]∧Hp w V2 ((box b7 100 [.func (.func 51) #[] #[pB b6 0,pB b7 0]])::(box b6 27 v65_)::t17_) w') Try.func35 rfl rfl (by kernel_rfl) (fun _=>by kernel_rfl) rfl ?_ ?_)
  ·
   refine T.ie (T.ia (T.gZ (W1.np 27 v65_ (fun b6=>?_))))
   refine T.k (.nilFunc) (T.gO (T.ie (T.ia (T.gZ (W1.np 100 [.nilFunc] (fun b7=>?_))))))
   refine T.gO (T.ie (T.ia (T.k (.func (.func 51) #[] #[pB b6 0,pB b7 0]) (T.gZ (W1.st 0 [.func (.func 51) #[] #[pB b6 0,pB b7 0]] ((box b7 100 [.func (.func 51) #[] #[pB b6 0,pB b7 0]])::(box b6 27 v65_)::t17_) [.func (.func 51) #[] #[pB b6 0,pB b7 0]] ?_)))))
   refine T.gO (T.ie (T.ia (T.k2 (.func (.func 52) #[] #[pB b7 0,pB b6 0]) (.func (.func 52) #[] #[pB b7 0,pB b6 0]) (T.gO ?_))))
   refine T.ik rfl ?_
   exact T.ir rfl (rT rfl) fun w' hh=>⟨_,rfl,⟨b7,b6,rfl,(hh.u)⟩⟩
  rintro v w' ⟨b7,b6,rfl,hh⟩
  let i18_:HObj:=box b7 100 [.func (.func 51) #[] #[pB b6 0,pB b7 0]]
  let i19_:HObj:=box b6 27 v65_
  refine⟨V2,(i18_::i19_::t17_),hh,?_⟩
  clear hh
  refine T.gO (T.im ?_)
  obtain⟨q1,hX2,hX1⟩:=ob hX1
  refine T.m7 (gf:=52) (lb:=[pB b7 0,pB b6 0]) (.exit 0) [] (fun l1 d1 lr1 w'=>∃(z2:List DSpot) (k1:Nat),q1=(z2,k1)∧∃(A4:Option Addr) (c4:Nat) (V4:View),View.le V2 V4∧Hp w V4 [iC l1 lr1 (.exit 0) [] k1,row 76 eSpot A4 c4 z2,iu d1,box b5 55 [.slice A4 z2.length c4],box b4 27 v66_,box b1 27 v65_] w') (by kernel_rfl) (by kernel_rfl) (fun _ _=>by kernel_rfl) ?_ ?_
  ·
   intro l1 d1 lr1 hl1 hl2 hl3 hl4 w1 hh
   refine T.jj (l:=[.func (.yield l1) #[] #[],pB b7 0,pB b6 0]) Try.func52 rfl rfl rfl ?_ hh
   clear hh
   refine T.ia (T.l (.func (.func 51) #[] #[pB b6 0,pB b7 0]) (ld1 2) ?_)
   refine T.k (pB b6 0) (T.l (vi p0.root) (ld1 3) ?_)
   refine T.k (.func (.yield l1) #[] #[]) ?_
   refine T.jg 76 eSpot ?_
   obtain⟨q2,hz1,hX2⟩:=ob hX2
   refine(have hq1:=kZ (fun (s_:(List DSpot) × Int) (r_:(List DSpot) × Nat)=>∀(x1:List DSpot) (x2:Int),s_=(x1,x2)→∀(A5:Option Addr) (c5:Nat) (V5:View) (G2:List HObj) (w1:World),View.le V2 V5→Hp w V5 ((row 76 eSpot A5 c5 x1)::(iC l1 lr1 (.exit 0) [] 0)::(iu d1)::i18_::i19_::(box b5 55 [.slice A5 x1.length c5])::(box b3 3 [vi p2])::i13_::G2) w1→Calls Try.prog 51 #[vi x2,.func (.yield l1) #[] #[],pB b6 0,pB b7 0] w1 (fun e w2=>∃ v,e = .returned v∧∃(z3:List DSpot) (k2:Nat),r_=(z3,k2)∧∃(A6:Option Addr) (c6:Nat) (V6:View),View.le V5 V6∧v = .bool (isz k2)∧Hp w V6 ((row 76 eSpot A6 c6 z3)::(iC l1 lr1 (.exit 0) [] k2)::(iu d1)::i18_::i19_::(box b5 55 [.slice A6 z3.length c6])::(box b3 3 [vi p2])::i13_::G2) w2)) hz1 ?_;?_)
   ·
    rintro rf2 ih1 s_ r_ hS1 x1 x2 rfl A5 c5 V5 G2 w1 hV5 hh
    try dsimp only at hS1
    refine T.jj (l:=[vi x2,.func (.yield l1) #[] #[],pB b6 0,pB b7 0]) Try.func51 rfl rfl rfl ?_ hh
    clear hh
    refine T.ie (T.ia (T.k (.bool false) (T.gO (T.ie (T.ia (T.k (pB b6 1) (T.l (.slice A1 p0.nodes.length c1) (ld1 4) ?_)))))))
    refine T.k (vi x2) ?_
    obtain⟨e1,hb3,hS1⟩:=ob hS1
    obtain⟨hi1,hi2,hi3⟩:=ij hb3
    obtain⟨cs1,hr1,hc4⟩:=ib.elem (ib.mono hs1 (vt (vt hV1 hV2) hV5)) hi3
    obtain⟨A7,c7,A8,c8,A9,c9,A10,c10,rfl,hs3,hs4,hs5,hs6⟩:=hr1
    refine T.l (.pointer (some ((iI A1).add (x2.toNat * 5)))) (fun w' hh=>ig (e:=57) (s:=5) rfl rfl rfl (by kernel_rfl) (by kernel_rfl) hi1 hi2 ((ib.mono hs1 (vt (vt hV1 hV2) hV5)).some_ hi3 (by decide))) ?_
    let v67_:List Value:=[vi e1.kind,.slice A7 e1.elems.length c7,.slice A8 e1.kids.length c8,.slice A9 e1.seps.length c9,.slice A10 e1.tids.length c10]
    refine T.l (.agg #[vi e1.kind,.slice A7 e1.elems.length c7,.slice A8 e1.kids.length c8,.slice A9 e1.seps.length c9,.slice A10 e1.tids.length c10]) (fun w' hh=>lN (fun j u hj=>hh.cell_view (View.cell_mono vr (hc4 j u hj).2))) ?_
    refine T.gZ (W1.np 57 [vi 0,sN,sN,sN,sN] (fun b8=>?_))
    let i20_:HObj:=box b8 57 v67_
    let t21_:List HObj:=(box b3 3 [vi p2])::i13_::G2
    refine T.gZ (W1.st 0 v67_ (i20_::(row 76 eSpot A5 c5 x1)::(iC l1 lr1 (.exit 0) [] 0)::(iu d1)::i18_::i19_::(box b5 55 [.slice A5 x1.length c5])::t21_) v67_ ?_)
    refine T.gO (T.ie (T.ie (T.ia (T.k (pB b8 1) (T.l (.slice A7 e1.elems.length c7) (ld1 0) ?_)))))
    refine T.k2 (vi (e1.elems.length:Int)) (vi 0) (T.gO ?_)
    obtain⟨q3,hz2,hS1⟩:=ob hS1
    refine T.jw (fun a w'=>∃(z4:List DSpot),q3=Sum.inl z4∧∃(A12:Option Addr) (c12:Nat) (V8:View),View.le V5 V8∧Fr 42 [(1,.func (.yield l1) #[] #[]),(3,pB b7 0),(7,pB b8 0)] a∧Hp w V8 (i20_::(row 76 eSpot A12 c12 z4)::(iC l1 lr1 (.exit 0) [] 0)::(iu d1)::i18_::i19_::(box b5 55 [.slice A12 z4.length c12])::t21_) w') ?_ ?_
    ·
     refine T.im ?_
     refine T.jl (fun s1 a w'=>∃(x3:List DSpot) (x4:Int),s1=(x3,x4)∧∃(A11:Option Addr) (c11:Nat) (V7:View),View.le V5 V7∧Fr 42 [(1,.func (.yield l1) #[] #[]),(3,pB b7 0),(7,pB b8 0),(18,.slice A7 e1.elems.length c7),(19,vi (e1.elems.length:Int)),(20,vi x4)] a∧Hp w V7 (i20_::(row 76 eSpot A11 c11 x3)::(iC l1 lr1 (.exit 0) [] 0)::(iu d1)::i18_::i19_::(box b5 55 [.slice A11 x3.length c11])::t21_) w') hz2 ?_ ?_
     ·
      exact fun a w' hf hh=>⟨x1,0,rfl,A5,c5,V5,vr,(Fr.s hf),(hh.u)⟩
     rintro s1 y1 hY1 hr2 a w' ⟨x3,x4,rfl,A11,c11,V7,hV7,hf,hh⟩
     let i22_:HObj:=box b5 55 [.slice A11 x3.length c11]
     let t23_:List HObj:=i22_::t21_
     let t24_:List HObj:=i19_::t23_
     let t25_:List HObj:=i18_::t24_
     let t26_:List HObj:=(iu d1)::t25_
     let t27_:List HObj:=(iC l1 lr1 (.exit 0) [] 0)::t26_
     let t28_:List HObj:=(row 76 eSpot A11 c11 x3)::t27_
     let t29_:List HObj:=i20_::t28_
     refine(?_:T 42 w V7 t29_ [(1,.func (.yield l1) #[] #[]),(3,pB b7 0),(7,pB b8 0),(18,.slice A7 e1.elems.length c7),(19,vi (e1.elems.length:Int)),(20,vi x4)] _) a w' hf hh
     clear hf hh
     try dsimp only at hY1
     refine T.ie (T.ia (T.k (.bool (decide (x4 < (e1.elems.length:Int)))) (T.gO (T.ie ?_))))
     refine T.cb (decide (x4 < (e1.elems.length:Int))) (fun hc5=>?_) (fun hc5=>?_)
     ·
      rw [hc5,cond_true] at hY1
      refine T.hJ ?_
      refine T.ie (T.im (T.ie (T.ia ?_)))
      obtain⟨e2,hb4,hY1⟩:=ob hY1
      obtain⟨hi4,hi5,hi6⟩:=ij hb4
      refine T.l (.pointer (some ((iI A7).add (x4.toNat * 6)))) (fun w' hh=>ig (e:=47) (s:=6) rfl rfl rfl (by kernel_rfl) (by kernel_rfl) hi4 hi5 ((ib.mono hs3 hV7).some_ hi6 (by decide))) ?_
      let v68_:List Value:=[vi e2.key.pfs,vi e2.key.obj,vi e2.key.off,vi e2.made,vi e2.gone,.string e2.val]
      let a84_:Value:=.agg #[vi e2.key.pfs,vi e2.key.obj,vi e2.key.off,vi e2.made,vi e2.gone,.string e2.val]
      refine T.l a84_ (fun w' hh=>lN (fun j u hj=>(hh.cell_view (ib.cellF (E:=eElem) (ib.mono hs3 hV7) hi6 j (fun _ _ _ h=>h) hj)))) ?_
      let v69_:List Value:=[vi 0,vi 0,vi 0,vi 0,vi 0,.string (ByteArray.mk #[])]
      refine T.gZ (W1.np 47 v69_ (fun b9=>?_))
      let i30_:HObj:=box b9 47 v68_
      let t31_:List HObj:=i30_::t29_
      refine T.gZ (W1.st 0 v68_ t31_ v68_ ?_)
      refine T.gO ?_
      obtain⟨q4,hX3,hY1⟩:=ob hY1
      refine T.iZ (fun a w'=>∃(z5:List DSpot) (k3:Nat),q4=(z5,k3)∧∃(A13:Option Addr) (c13:Nat) (V9:View),View.le V7 V9∧Fr 42 [(1,.func (.yield l1) #[] #[]),(3,pB b7 0),(7,pB b8 0),(18,.slice A7 e1.elems.length c7),(19,vi (e1.elems.length:Int)),(20,vi x4),(27,.bool (!(isz k3)))] a∧Hp w V9 (i20_::(row 76 eSpot A13 c13 z5)::(iC l1 lr1 (.exit 0) [] k3)::(iu d1)::i18_::i19_::(box b5 55 [.slice A13 z5.length c13])::t21_) w') ?_ ?_
      ·
       refine T.ia (T.k (.func (.yield l1) #[] #[]) (T.l a84_ (ldN 0) ?_))
       obtain⟨q5,hX4,hX3⟩:=ob hX3
       refine T.oN (W1R.jO 3 l1 (fun v w'=>∃(z6:List DSpot) (k4:Nat),q5=(z6,k4)∧∃(A14:Option Addr) (c14:Nat) (V10:View),View.le V7 V10∧v = .bool (isz k4)∧Hp w V10 (i30_::i20_::(row 76 eSpot A14 c14 z6)::(iC l1 lr1 (.exit 0) [] k4)::(iu d1)::i18_::i19_::(box b5 55 [.slice A14 z6.length c14])::t21_) w') (by rfl) hl1 hl2 hl3 hl4 (by rfl) (by kernel_rfl) rfl (by kernel_rfl) rfl ?_ ?_)
       ·
        refine T.ia (T.gZ (W1.np 47 v69_ (fun b10=>?_)))
        let i32_:HObj:=box b10 47 v68_
        refine T.gZ (W1.st 0 v68_ (i32_::t31_) v68_ ?_)
        refine T.gO ?_
        refine T.iH ?_
        refine T.kp 4 (i32_::i30_::i20_::(row 76 eSpot A11 c11 x3)::(jv l1 lr1)::t26_) (by rfl) rfl ?_
        refine T.im (T.ie (T.ie (T.ia (T.l (.slice A11 x3.length c11) (ld1 8) ?_))))
        refine T.k (vi (x3.length:Int)) (T.l (vi p2) (ld1 9) ?_)
        refine T.k (.bool ((x3.length:Int) == p2)) (T.gO ?_)
        refine T.cb ((x3.length:Int) == p2) (fun hc6=>?_) (fun hc6=>?_)
        ·
         rw [hc6,cond_true] at hX4
         refine T.iO ?_
         cases hX4
         repeat first | refine T.jW ?_ | refine T.jM rfl ?_
         exact T.jD (.exit 0) [] 0 4 (i32_::i30_::i20_::(row 76 eSpot A11 c11 x3)::(iC l1 lr1 (.exit 0) [] (0 + 1))::t26_) (by rfl) rfl rfl (fun w' hh=>⟨_,rfl,⟨x3,(0 + 1),rfl,A11,c11,V7,vr,rfl,(hh.u)⟩⟩)
        rw [hc6,cond_false] at hX4
        refine T.hJ ?_
        refine T.ie (T.ia (T.l a84_ (ldN 0) ?_))
        refine T.l (.slice A2 p1.length c2) (ld1 10) ?_
        obtain⟨r4,hb5,hX4⟩:=ob hX4
        refine T.gZ (W1.w1 (vSc eBool) r4 36 #[a84_,.slice A2 p1.length c2] (fun w' hh=>mQ F e2 p1 r4 hb5 w' A2 c2 (ib.mono (ib.mono hs2 (vt (vt (vt hV1 hV2) hV5) hV7)) hh.view)) ?_)
        intro u V11 hV11 hu
        obtain rfl:=jL _ _ _ hu
        refine T.k (.bool (!r4)) (T.gO ?_)
        refine T.cb (!r4) (fun hc7=>?_) (fun hc7=>?_)
        ·
         rw [hc7,cond_true] at hX4
         refine T.pA (by kernel_rfl) ?_
         refine TI.a [0,1] ⟨?_,?_,trivial⟩
         ·
          refine TI.br rfl (W1.io (W1.l (.slice A11 x3.length c11) (ld1 8) ?_))
          refine TI.a [1] ⟨?_,trivial⟩
          refine TI.br rfl (W1.io (W1.l a84_ (ldN 0) ?_))
          refine TI.a [2] ⟨?_,trivial⟩
          obtain⟨r5,hb6,hX4⟩:=ob hX4
          refine TI.br rfl <| W1.io (W1.w1 (vAg eSpot) r5 33 #[a84_] (fun w' hh=>iL e2 r5 hb6 w') ?_)
          intro u V12 hV12 hu
          obtain rfl:=jk _ _ _ hu
          refine TI.a [3] ⟨?_,trivial⟩
          let v70_:List Value:=[vi r5.key.pfs,vi r5.key.obj,vi r5.key.off,vi r5.made]
          refine TI.br rfl <| W1.io (W1.ns 76 v70_ (fun b11=>?_))
          refine TI.a [4] ⟨?_,trivial⟩
          obtain⟨y2,hb7,hX4⟩:=ob hX4
          obtain⟨hb7_r,hb7_m,rfl⟩:=iE hb7
          obtain⟨ti,hti,hz1,hz2,hz3⟩:=ipStepL_1
          refine TI.br rfl <| W1.io (W1.j5 (E:=eSpot) (l:=x3) (m:=[r5]) 4 _ _ 32 ti _ (by rfl) (by kernel_rfl) rfl (by kernel_rfl) hti hz1 hz2 hz3 rfl (by decide) rfl rfl (fun w' hh=>(ib.sF (ja (E:=eSpot) (f:=DSpot.cells) [r5] (fun _ _=>rfl) (Nat.le_of_ble_eq_true (by rfl)) (fun j=>hh.cellBox (i:=0) (by rfl) j)))) hb7_r hb7_m (fun A15 c15=>?_))
          refine TI.a [5] ⟨?_,trivial⟩
          let i33_:HObj:=box b11 76 v70_
          let i34_:HObj:=row 76 eSpot A15 c15 (x3 ++ [r5])
          let v71_:List Value:=[.slice A15 ((x3 ++ [r5]).length) c15]
          let i35_:HObj:=box b5 55 v71_
          refine TI.br rfl <| W1.io (W1.st 9 v71_ (i33_::i32_::i30_::i20_::i34_::(jv l1 lr1)::(iu d1)::i18_::i19_::i35_::t21_) v71_ ?_)
          refine TI.d ?_
          cases hX4
          repeat first | refine T.iH ?_ | refine T.iS ?_
          exact T.jq (.exit 0) [] 5 (i33_::i32_::i30_::i20_::i34_::(iC l1 lr1 (.exit 0) [] 0)::(iu d1)::i18_::i19_::i35_::t21_) (by rfl) rfl (fun w' hh=>⟨_,rfl,⟨(x3 ++ [r5]),0,rfl,A15,c15,V12,(vt hV11 hV12),rfl,(hh.u)⟩⟩)
         refine TI.br rfl (W1.io (W1.l a84_ (ldN 0) ?_))
         refine TI.a [0,2] ⟨?_,?_,trivial⟩
         ·
          refine TI.br rfl (W1.io (W1.l (.slice A11 x3.length c11) (ld1 8) ?_))
          refine TI.a [2] ⟨?_,trivial⟩
          obtain⟨r5,hb6,hX4⟩:=ob hX4
          refine TI.br rfl <| W1.io (W1.w1 (vAg eSpot) r5 33 #[a84_] (fun w' hh=>iL e2 r5 hb6 w') ?_)
          intro u V12 hV12 hu
          obtain rfl:=jk _ _ _ hu
          refine TI.a [3] ⟨?_,trivial⟩
          let v72_:List Value:=[vi r5.key.pfs,vi r5.key.obj,vi r5.key.off,vi r5.made]
          refine TI.br rfl <| W1.io (W1.ns 76 v72_ (fun b11=>?_))
          refine TI.a [4] ⟨?_,trivial⟩
          obtain⟨y2,hb7,hX4⟩:=ob hX4
          obtain⟨hb7_r,hb7_m,rfl⟩:=iE hb7
          obtain⟨ti,hti,hz1,hz2,hz3⟩:=ipStepL_1
          refine TI.br rfl <| W1.io (W1.j5 (E:=eSpot) (l:=x3) (m:=[r5]) 4 _ _ 32 ti _ (by rfl) (by kernel_rfl) rfl (by kernel_rfl) hti hz1 hz2 hz3 rfl (by decide) rfl rfl (fun w' hh=>(ib.sF (ja (E:=eSpot) (f:=DSpot.cells) [r5] (fun _ _=>rfl) (Nat.le_of_ble_eq_true (by rfl)) (fun j=>hh.cellBox (i:=0) (by rfl) j)))) hb7_r hb7_m (fun A15 c15=>?_))
          refine TI.a [5] ⟨?_,trivial⟩
          let i36_:HObj:=box b11 76 v72_
          let i37_:HObj:=row 76 eSpot A15 c15 (x3 ++ [r5])
          let v73_:List Value:=[.slice A15 ((x3 ++ [r5]).length) c15]
          let i38_:HObj:=box b5 55 v73_
          refine TI.br rfl <| W1.io (W1.st 9 v73_ (i36_::i32_::i30_::i20_::i37_::(jv l1 lr1)::(iu d1)::i18_::i19_::i38_::t21_) v73_ ?_)
          refine TI.d ?_
          cases hX4
          repeat first | refine T.iH ?_ | refine T.iS ?_
          exact T.jq (.exit 0) [] 5 (i36_::i32_::i30_::i20_::i37_::(iC l1 lr1 (.exit 0) [] 0)::(iu d1)::i18_::i19_::i38_::t21_) (by rfl) rfl (fun w' hh=>⟨_,rfl,⟨(x3 ++ [r5]),0,rfl,A15,c15,V12,(vt hV11 hV12),rfl,(hh.u)⟩⟩)
         obtain⟨r5,hb6,hX4⟩:=ob hX4
         refine TI.br rfl <| W1.io (W1.w1 (vAg eSpot) r5 33 #[a84_] (fun w' hh=>iL e2 r5 hb6 w') ?_)
         intro u V12 hV12 hu
         obtain rfl:=jk _ _ _ hu
         refine TI.a [0,3] ⟨?_,?_,trivial⟩
         ·
          refine TI.br rfl (W1.io (W1.l (.slice A11 x3.length c11) (ld1 8) ?_))
          refine TI.a [3] ⟨?_,trivial⟩
          let v74_:List Value:=[vi r5.key.pfs,vi r5.key.obj,vi r5.key.off,vi r5.made]
          refine TI.br rfl <| W1.io (W1.ns 76 v74_ (fun b11=>?_))
          refine TI.a [4] ⟨?_,trivial⟩
          obtain⟨y2,hb7,hX4⟩:=ob hX4
          obtain⟨hb7_r,hb7_m,rfl⟩:=iE hb7
          obtain⟨ti,hti,hz1,hz2,hz3⟩:=ipStepL_1
          refine TI.br rfl <| W1.io (W1.j5 (E:=eSpot) (l:=x3) (m:=[r5]) 4 _ _ 32 ti _ (by rfl) (by kernel_rfl) rfl (by kernel_rfl) hti hz1 hz2 hz3 rfl (by decide) rfl rfl (fun w' hh=>(ib.sF (ja (E:=eSpot) (f:=DSpot.cells) [r5] (fun _ _=>rfl) (Nat.le_of_ble_eq_true (by rfl)) (fun j=>hh.cellBox (i:=0) (by rfl) j)))) hb7_r hb7_m (fun A15 c15=>?_))
          refine TI.a [5] ⟨?_,trivial⟩
          let i39_:HObj:=box b11 76 v74_
          let i40_:HObj:=row 76 eSpot A15 c15 (x3 ++ [r5])
          let v75_:List Value:=[.slice A15 ((x3 ++ [r5]).length) c15]
          let i41_:HObj:=box b5 55 v75_
          refine TI.br rfl <| W1.io (W1.st 9 v75_ (i39_::i32_::i30_::i20_::i40_::(jv l1 lr1)::(iu d1)::i18_::i19_::i41_::t21_) v75_ ?_)
          refine TI.d ?_
          cases hX4
          repeat first | refine T.iH ?_ | refine T.iS ?_
          exact T.jq (.exit 0) [] 5 (i39_::i32_::i30_::i20_::i40_::(iC l1 lr1 (.exit 0) [] 0)::(iu d1)::i18_::i19_::i41_::t21_) (by rfl) rfl (fun w' hh=>⟨_,rfl,⟨(x3 ++ [r5]),0,rfl,A15,c15,V12,(vt hV11 hV12),rfl,(hh.u)⟩⟩)
         let v76_:List Value:=[vi r5.key.pfs,vi r5.key.obj,vi r5.key.off,vi r5.made]
         refine TI.br rfl <| W1.io (W1.ns 76 v76_ (fun b11=>?_))
         refine TI.a [0] ⟨?_,trivial⟩
         refine TI.br rfl (W1.io (W1.l (.slice A11 x3.length c11) (ld1 9) ?_))
         refine TI.a [4] ⟨?_,trivial⟩
         obtain⟨y2,hb7,hX4⟩:=ob hX4
         obtain⟨hb7_r,hb7_m,rfl⟩:=iE hb7
         obtain⟨ti,hti,hz1,hz2,hz3⟩:=ipStepL_1
         refine TI.br rfl <| W1.io (W1.j5 (E:=eSpot) (l:=x3) (m:=[r5]) 4 _ _ 32 ti _ (by rfl) (by kernel_rfl) rfl (by kernel_rfl) hti hz1 hz2 hz3 rfl (by decide) rfl rfl (fun w' hh=>(ib.sF (ja (E:=eSpot) (f:=DSpot.cells) [r5] (fun _ _=>rfl) (Nat.le_of_ble_eq_true (by rfl)) (fun j=>hh.cellBox (i:=0) (by rfl) j)))) hb7_r hb7_m (fun A15 c15=>?_))
         refine TI.a [5] ⟨?_,trivial⟩
         let i42_:HObj:=box b11 76 v76_
         let i43_:HObj:=row 76 eSpot A15 c15 (x3 ++ [r5])
         let v77_:List Value:=[.slice A15 ((x3 ++ [r5]).length) c15]
         let i44_:HObj:=box b5 55 v77_
         refine TI.br rfl <| W1.io (W1.st 9 v77_ (i42_::i32_::i30_::i20_::i43_::(jv l1 lr1)::(iu d1)::i18_::i19_::i44_::t21_) v77_ ?_)
         refine TI.d ?_
         cases hX4
         repeat first | refine T.iH ?_ | refine T.iS ?_
         exact T.jq (.exit 0) [] 5 (i42_::i32_::i30_::i20_::i43_::(iC l1 lr1 (.exit 0) [] 0)::(iu d1)::i18_::i19_::i44_::t21_) (by rfl) rfl (fun w' hh=>⟨_,rfl,⟨(x3 ++ [r5]),0,rfl,A15,c15,V12,(vt hV11 hV12),rfl,(hh.u)⟩⟩)
        rw [hc7,cond_false] at hX4
        refine T.hJ ?_
        cases hX4
        repeat first | refine T.iH ?_ | refine T.iS ?_
        exact T.jq (.exit 0) [] 4 (i32_::t31_) (by rfl) rfl (fun w' hh=>⟨_,rfl,⟨x3,0,rfl,A11,c11,V11,hV11,rfl,(hh.u)⟩⟩)
       rintro v w' ⟨z6,k4,rfl,A14,c14,V10,hV10,rfl,hh⟩
       try dsimp only at hX3
       refine⟨V10,(i30_::i20_::(row 76 eSpot A14 c14 z6)::(iC l1 lr1 (.exit 0) [] k4)::(iu d1)::i18_::i19_::(box b5 55 [.slice A14 z6.length c14])::t21_),hh,?_⟩
       clear hh
       cases k4 with
       | zero =>
        rw [iD] at hX3
        refine T.k (.bool false) (T.gO ?_)
        cases hX3
        exact fun a w' hf hh=>⟨z6,0,rfl,A14,c14,V10,hV10,(Fr.s hf),(hh.u)⟩
       | succ k5 =>
        rw [iF] at hX3
        refine T.k (.bool true) (T.gO ?_)
        cases hX3
        exact fun a w' hf hh=>⟨z6,(k5 + 1),rfl,A14,c14,V10,hV10,(Fr.s hf),(hh.u)⟩
      rintro a w' ⟨z5,k3,rfl,A13,c13,V9,hV9,hf,hh⟩
      try dsimp only at hY1
      refine(?_:T 42 w V9 (i20_::(row 76 eSpot A13 c13 z5)::(iC l1 lr1 (.exit 0) [] k3)::(iu d1)::i18_::i19_::(box b5 55 [.slice A13 z5.length c13])::t21_) [(1,.func (.yield l1) #[] #[]),(3,pB b7 0),(7,pB b8 0),(18,.slice A7 e1.elems.length c7),(19,vi (e1.elems.length:Int)),(20,vi x4),(27,.bool (!(isz k3)))] _) a w' hf hh
      clear hf hh
      cases k3 with
      | zero =>
       rw [iD] at hY1
       refine T.cb false (fun h=>Bool.noConfusion h) (fun _=>?_)
       refine T.hJ ?_
       refine T.ia (T.k2 (vi (IntKind.i64.wrap (x4 + 1))) (vi (IntKind.i64.wrap (x4 + 1))) (T.gO ?_))
       cases hY1
       exact fun a w' hf hh=>⟨(z5,IntKind.i64.wrap (x4 + 1)),rfl,z5,(IntKind.i64.wrap (x4 + 1)),rfl,A13,c13,V9,(vt hV7 hV9),(Fr.s hf),(hh.u)⟩
      | succ k6 =>
       rw [iF] at hY1
       refine T.cb true (fun _=>?_) (fun h=>Bool.noConfusion h)
       refine T.ie (T.ia (T.k (.bool false) (T.gO ?_)))
       cases hY1
       cases (hr2 _ rfl)
       try dsimp only at hS1
       have hres:=Option.some.inj hS1
       subst hres
       refine T.ik rfl ?_
       repeat first | refine T.iz ?_ | refine T.iw ?_
       exact T.ir rfl (rT rfl) fun w' hh=>⟨_,rfl,⟨z5,(k6 + 1),rfl,A13,c13,V9,(vt hV7 hV9),rfl,(hh.u)⟩⟩
     rw [hc5,cond_false] at hY1
     refine T.iO ?_
     cases hY1
     cases (hr2 _ rfl)
     exact fun a w' hf hh=>⟨x3,rfl,A11,c11,V7,hV7,(Fr.s hf),(hh.u)⟩
    rintro a w' ⟨z4,rfl,A12,c12,V8,hV8,hf,hh⟩
    try dsimp only at hS1
    refine(?_:T 42 w V8 (i20_::(row 76 eSpot A12 c12 z4)::(iC l1 lr1 (.exit 0) [] 0)::(iu d1)::i18_::i19_::(box b5 55 [.slice A12 z4.length c12])::t21_) [(1,.func (.yield l1) #[] #[]),(3,pB b7 0),(7,pB b8 0)] _) a w' hf hh
    clear hf hh
    refine T.ie (T.ie (T.ia (T.k (pB b8 2) (T.l (.slice A8 e1.kids.length c8) (ld1 0) ?_))))
    refine T.k2 (vi (e1.kids.length:Int)) (vi 0) (T.gO ?_)
    obtain⟨q6,hz3,hS1⟩:=ob hS1
    refine T.jw (fun a w'=>∃(z7:List DSpot),q6=Sum.inl z7∧∃(A17:Option Addr) (c17:Nat) (V14:View),View.le V8 V14∧Fr 42 [] a∧Hp w V14 ((row 76 eSpot A17 c17 z7)::(iC l1 lr1 (.exit 0) [] 0)::(iu d1)::i18_::i19_::(box b5 55 [.slice A17 z7.length c17])::t21_) w') ?_ ?_
    ·
     refine T.im ?_
     refine T.jl (fun s2 a w'=>∃(x5:List DSpot) (x6:Int),s2=(x5,x6)∧∃(A16:Option Addr) (c16:Nat) (V13:View),View.le V8 V13∧Fr 42 [(1,.func (.yield l1) #[] #[]),(3,pB b7 0),(30,.slice A8 e1.kids.length c8),(31,vi (e1.kids.length:Int)),(32,vi x6)] a∧Hp w V13 ((row 76 eSpot A16 c16 x5)::(iC l1 lr1 (.exit 0) [] 0)::(iu d1)::i18_::i19_::(box b5 55 [.slice A16 x5.length c16])::t21_) w') hz3 ?_ ?_
     ·
      exact fun a w' hf hh=>⟨z4,0,rfl,A12,c12,V8,vr,(Fr.s hf),(hh.u)⟩
     rintro s2 y3 hY2 hr3 a w' ⟨x5,x6,rfl,A16,c16,V13,hV13,hf,hh⟩
     refine(?_:T 42 w V13 ((row 76 eSpot A16 c16 x5)::(iC l1 lr1 (.exit 0) [] 0)::(iu d1)::i18_::i19_::(box b5 55 [.slice A16 x5.length c16])::t21_) [(1,.func (.yield l1) #[] #[]),(3,pB b7 0),(30,.slice A8 e1.kids.length c8),(31,vi (e1.kids.length:Int)),(32,vi x6)] _) a w' hf hh
     clear hf hh
     try dsimp only at hY2
     refine T.ie (T.ia (T.k (.bool (decide (x6 < (e1.kids.length:Int)))) (T.gO (T.ie ?_))))
     refine T.cb (decide (x6 < (e1.kids.length:Int))) (fun hc8=>?_) (fun hc8=>?_)
     ·
      rw [hc8,cond_true] at hY2
      refine T.hJ ?_
      refine T.ie (T.im (T.ie (T.ia ?_)))
      obtain⟨e3,hb8,hY2⟩:=ob hY2
      obtain⟨hi7,hi8,hi9⟩:=ij hb8
      refine T.l (.pointer (some ((iI A8).add (x6.toNat * 1)))) (fun w' hh=>ig (e:=3) (s:=1) rfl rfl rfl (by kernel_rfl) (by kernel_rfl) hi7 hi8 ((ib.mono hs4 (vt hV8 hV13)).some_ hi9 (by decide))) ?_
      refine T.l (vi e3) (fun w' hh=>iG rfl rfl (by kernel_rfl) (hh.cell_view (ib.cellF0 (E:=ic) (ib.mono hs4 (vt hV8 hV13)) hi9 (fun _ _ _ h=>h) rfl))) ?_
      refine T.k (vi e3) (T.gO ?_)
      obtain⟨q7,hX5,hY2⟩:=ob hY2
      refine T.iZ (fun a w'=>∃(z8:List DSpot) (k7:Nat),q7=(z8,k7)∧∃(A18:Option Addr) (c18:Nat) (V15:View),View.le V13 V15∧Fr 42 [(1,.func (.yield l1) #[] #[]),(3,pB b7 0),(30,.slice A8 e1.kids.length c8),(31,vi (e1.kids.length:Int)),(32,vi x6),(40,.bool (!(isz k7)))] a∧Hp w V15 ((row 76 eSpot A18 c18 z8)::(iC l1 lr1 (.exit 0) [] k7)::(iu d1)::i18_::i19_::(box b5 55 [.slice A18 z8.length c18])::t21_) w') ?_ ?_
      ·
       refine T.ia (T.l (.func (.func 51) #[] #[pB b6 0,pB b7 0]) (ld1 3) ?_)
       refine T.k2 (vi e3) (.func (.yield l1) #[] #[]) ?_
       obtain⟨q8,hz4,hX5⟩:=ob hX5
       refine T.gZ (W1.cj (fun w' hh=>ih1 _ _ hz4 x5 e3 rfl A16 c16 V13 G2 w' (vt (vt hV5 hV8) hV13) (hh.u)) ?_)
       rintro v w' ⟨z9,z10,rfl,A19,c19,V16,hV16,rfl,hh⟩
       try dsimp only at hX5
       refine⟨_,_,hh,?_⟩
       clear hh
       cases z10 with
       | zero =>
        rw [iD] at hX5
        refine T.k (.bool false) (T.gO ?_)
        cases hX5
        exact fun a w' hf hh=>⟨z9,0,rfl,A19,c19,V16,hV16,(Fr.s hf),(hh.u)⟩
       | succ k8 =>
        rw [iF] at hX5
        refine T.k (.bool true) (T.gO ?_)
        cases hX5
        exact fun a w' hf hh=>⟨z9,(k8 + 1),rfl,A19,c19,V16,hV16,(Fr.s hf),(hh.u)⟩
      rintro a w' ⟨z8,k7,rfl,A18,c18,V15,hV15,hf,hh⟩
      try dsimp only at hY2
      refine(?_:T 42 w V15 ((row 76 eSpot A18 c18 z8)::(iC l1 lr1 (.exit 0) [] k7)::(iu d1)::i18_::i19_::(box b5 55 [.slice A18 z8.length c18])::t21_) [(1,.func (.yield l1) #[] #[]),(3,pB b7 0),(30,.slice A8 e1.kids.length c8),(31,vi (e1.kids.length:Int)),(32,vi x6),(40,.bool (!(isz k7)))] _) a w' hf hh
      clear hf hh
      cases k7 with
      | zero =>
       rw [iD] at hY2
       refine T.cb false (fun h=>Bool.noConfusion h) (fun _=>?_)
       refine T.hJ ?_
       refine T.ia (T.k2 (vi (IntKind.i64.wrap (x6 + 1))) (vi (IntKind.i64.wrap (x6 + 1))) (T.gO ?_))
       cases hY2
       exact fun a w' hf hh=>⟨(z8,IntKind.i64.wrap (x6 + 1)),rfl,z8,(IntKind.i64.wrap (x6 + 1)),rfl,A18,c18,V15,(vt hV13 hV15),(Fr.s hf),(hh.u)⟩
      | succ k9 =>
       rw [iF] at hY2
       refine T.cb true (fun _=>?_) (fun h=>Bool.noConfusion h)
       refine T.ie (T.ia (T.k (.bool false) (T.gO ?_)))
       cases hY2
       cases (hr3 _ rfl)
       try dsimp only at hS1
       have hres:=Option.some.inj hS1
       subst hres
       refine T.ik rfl ?_
       repeat first | refine T.iz ?_ | refine T.iw ?_
       exact T.ir rfl (rT rfl) fun w' hh=>⟨_,rfl,⟨z8,(k9 + 1),rfl,A18,c18,V15,(vt (vt hV8 hV13) hV15),rfl,(hh.u)⟩⟩
     rw [hc8,cond_false] at hY2
     refine T.iO ?_
     cases hY2
     cases (hr3 _ rfl)
     exact fun a w' hf hh=>⟨x5,rfl,A16,c16,V13,hV13,(Fr.nil hf),(hh.u)⟩
    rintro a w' ⟨z7,rfl,A17,c17,V14,hV14,hf,hh⟩
    try dsimp only at hS1
    refine(?_:T 42 w V14 ((row 76 eSpot A17 c17 z7)::(iC l1 lr1 (.exit 0) [] 0)::(iu d1)::i18_::i19_::(box b5 55 [.slice A17 z7.length c17])::t21_) [] _) a w' hf hh
    clear hf hh
    refine T.ie (T.ia (T.k (.bool true) (T.gO ?_)))
    have hres:=Option.some.inj hS1
    subst hres
    refine T.ik rfl ?_
    repeat first | refine T.iz ?_ | refine T.iw ?_
    exact T.ir rfl (rT rfl) fun w' hh=>⟨_,rfl,⟨z7,0,rfl,A17,c17,V14,(vt hV8 hV14),rfl,(hh.u)⟩⟩
   refine T.gZ (W1.cj (fun w' hh=>hq1 [] p0.root rfl none 0 V2 t12_ w' vr (hh.ix 9 [0,1,2,3,4,5,7,8,6])) ?_)
   rintro v w' ⟨z11,z12,rfl,A20,c20,V17,hV17,rfl,hh⟩
   try dsimp only at hX2
   refine⟨V17,((row 76 eSpot A20 c20 z11)::(iC l1 lr1 (.exit 0) [] z12)::(iu d1)::i18_::i19_::(box b5 55 [.slice A20 z11.length c20])::t16_),hh.ix 9 [0,1,2,3,4,5,8,6,7],?_⟩
   clear hh
   cases z12 with
   | zero =>
    rw [iD] at hX2
    refine T.gO ?_
    cases hX2
    repeat first | refine T.iH ?_ | refine T.iS ?_
    exact T.jT rfl (fun w' hh=>⟨_,rfl,⟨z11,0,rfl,A20,c20,V17,hV17,(hh.ix 9 [1,0,2,5,6])⟩⟩)
   | succ k10 =>
    rw [iF] at hX2
    refine T.gO ?_
    cases hX2
    repeat first | refine T.iH ?_ | refine T.iS ?_
    exact T.jT rfl (fun w' hh=>⟨_,rfl,⟨z11,(k10 + 1),rfl,A20,c20,V17,hV17,(hh.ix 9 [1,0,2,5,6])⟩⟩)
  rintro l1 d1 lr1 w' ⟨z2,k1,rfl,A4,c4,V4,hV4,hh⟩
  try dsimp only at hX1
  refine⟨V4,((row 76 eSpot A4 c4 z2)::(iu d1)::(box b5 55 [.slice A4 z2.length c4])::t12_),k1,hh,?_⟩
  clear hh
  cases k1 with
  | zero =>
   rw [iD] at hX1
   rw [iD]
   cases hX1
   exact fun a w' hf hh=>⟨A4,c4,d1,V4,hV4,(Fr.s hf),(hh.u)⟩
  | succ k11 =>
   rw [iF] at hX1
   rw [iF]
   rw [ov]
   refine T.iO ?_
   cases hX1
   exact fun a w' hf hh=>⟨A4,c4,d1,V4,hV4,(Fr.s hf),(hh.u)⟩
 rintro a w' ⟨A3,c3,d1,V3,hV3,hf,hh⟩
 let i45_:HObj:=box b5 55 [.slice A3 z1.length c3]
 let t46_:List HObj:=i45_::t12_
 let t47_:List HObj:=(iu d1)::t46_
 let t48_:List HObj:=(row 76 eSpot A3 c3 z1)::t47_
 refine(?_:T ⟨62,[d1]⟩ w V3 t48_ [(3,pB b1 0),(6,pB b4 0),(11,pB b5 0)] _) a w' hf hh
 clear hf hh
 refine T.ie (T.ia (T.l a83_ (ldN 4) ?_))
 obtain⟨r6,hb9,hF⟩:=ob hF
 refine T.gZ (W1.mw 23 #[a83_] (fun p:Option Addr × Nat × List DHdr=>.agg #[vi r6.root,.slice p.1 p.2.2.length p.2.1]) (fun p=>((row 57 eHdr p.1 p.2.1 p.2.2)::(iB (TreeTy.mk 47 3 76) p.2.2 (r6.nodes.map Sum.inr))::[])) (fun p=>p.2.2.length=r6.nodes.length) (by kernel_rfl) (fun _=>by kernel_rfl) (fun w' hh=>lW F p0 r6 hb9 w' A1 c1 (ib.mono (ib.mono hs1 (vt (vt hV1 hV2) hV3)) hh.view)) ?_)
 rintro⟨A21,c21,hs7⟩ hl5
 let i49_:HObj:=iB (TreeTy.mk 47 3 76) hs7 (r6.nodes.map Sum.inr)
 refine T.jb (H':=((row 57 eHdr A21 c21 hs7)::i49_::t48_)) (by rfl) ?_
 refine T.gZ (W1.np 27 v66_ (fun b12=>?_))
 let v78_:List Value:=[vi r6.root,.slice A21 hs7.length c21]
 refine T.gZ (W1.st 0 v78_ ((box b12 27 v78_)::(row 57 eHdr A21 c21 hs7)::i49_::t48_) v78_ ?_)
 refine T.gO (T.ie (T.ie ?_))
 refine T.jh 2 (by rfl) (fun ht1=>?_)
 refine T.ia (T.l (.slice A3 z1.length c3) (ld1 5) ?_)
 refine T.k2 (vi (z1.length:Int)) (vi 0) (T.gO ?_)
 obtain⟨q9,hz5,hF⟩:=ob hF
 let t50_:List HObj:=i45_::i10_::[]
 let t51_:List HObj:=(iu d1)::t50_
 let t52_:List HObj:=(row 76 eSpot A3 c3 z1)::t51_
 refine T.jw (fun a w'=>∃(z13:Int) (z14:List (Int ⊕ DNode)),q9=(z13,z14)∧∃(hs9:List DHdr) (V19:View),View.le V3 V19∧Fr ⟨62,[d1]⟩ [(6,pB b4 0),(11,pB b5 0),(13,pB b12 0)] a∧Hp w V19 ((box b12 27 [vi z13,.slice A21 hs9.length c21])::(row 57 eHdr A21 c21 hs9)::(iB (TreeTy.mk 47 3 76) hs9 z14)::t52_) w') ?_ ?_
 ·
  refine T.im ?_
  refine T.jl (fun s3 a w'=>∃(x7:Int) (x8:List (Int ⊕ DNode)) (x9:Int),s3=(x7,x8,x9)∧∃(hs8:List DHdr) (V18:View),View.le V3 V18∧Fr ⟨62,[d1]⟩ [(6,pB b4 0),(11,pB b5 0),(13,pB b12 0),(49,.slice A3 z1.length c3),(50,vi (z1.length:Int)),(51,vi x9)] a∧Hp w V18 ((box b12 27 [vi x7,.slice A21 hs8.length c21])::(row 57 eHdr A21 c21 hs8)::(iB (TreeTy.mk 47 3 76) hs8 x8)::t52_) w') hz5 ?_ ?_
  ·
   exact fun a w' hf hh=>⟨r6.root,(r6.nodes.map Sum.inr),0,rfl,hs7,V3,vr,(Fr.s hf),(hh.u)⟩
  rintro s3 y4 hY3 hr4 a w' ⟨x7,x8,x9,rfl,hs8,V18,hV18,hf,hh⟩
  let v79_:List Value:=[vi x7,.slice A21 hs8.length c21]
  let i53_:HObj:=box b12 27 v79_
  let i54_:HObj:=iB (TreeTy.mk 47 3 76) hs8 x8
  refine(?_:T ⟨62,[d1]⟩ w V18 (i53_::(row 57 eHdr A21 c21 hs8)::i54_::t52_) [(6,pB b4 0),(11,pB b5 0),(13,pB b12 0),(49,.slice A3 z1.length c3),(50,vi (z1.length:Int)),(51,vi x9)] _) a w' hf hh
  clear hf hh
  try dsimp only at hY3
  refine T.ie (T.ia (T.k (.bool (decide (x9 < (z1.length:Int)))) (T.gO (T.ie ?_))))
  refine T.cb (decide (x9 < (z1.length:Int))) (fun hc9=>?_) (fun hc9=>?_)
  ·
   rw [hc9,cond_true] at hY3
   refine T.hJ ?_
   refine T.ie (T.im (T.ie ?_))
   refine T.jh 2 (by rfl) (fun ht2=>?_)
   refine T.ia ?_
   obtain⟨e4,hb10,hY3⟩:=ob hY3
   obtain⟨hi10,hi11,hi12⟩:=ij hb10
   refine T.l (.pointer (some ((iI A3).add (x9.toNat * 4)))) (iR 3 (e:=76) (s:=4) hi10 hi11 hi12) ?_
   let v80_:List Value:=[vi e4.key.pfs,vi e4.key.obj,vi e4.key.off,vi e4.made]
   let a85_:Value:=.agg #[vi e4.key.pfs,vi e4.key.obj,vi e4.key.off,vi e4.made]
   refine T.l a85_ (fun w' hh=>lN (fun j u hj=>(ib.wcellF (E:=eSpot) (hh.row_slOk (i:=3) (by rfl)) hi12 j (fun _ _ _ h=>h) hj))) ?_
   refine T.gZ (W1.np 76 [vi 0,vi 0,vi 0,vi 0] (fun b13=>?_))
   let i55_:HObj:=box b13 76 v80_
   refine T.gZ (W1.st 0 v80_ (i55_::i53_::(row 57 eHdr A21 c21 hs8)::i54_::t52_) v80_ ?_)
   refine T.gO (T.ia (T.l (.agg #[vi x7,.slice A21 hs8.length c21]) (ldN 1) ?_))
   refine T.l a85_ (ldN 0) ?_
   obtain⟨r8,hb11,hY3⟩:=ob hY3
   refine T.gZ (W1.cj (fun w' hh=>mr F x7 x8 e4 r8 hb11 w A21 c21 hs8 V18 (i55_::i53_::t52_) w' (hh.ix 4 [2,3,0,1])) ?_)
   rintro v w' ⟨hs10,V20,hV20,rfl,hh⟩
   let i56_:HObj:=iB (TreeTy.mk 47 3 76) hs10 r8.1
   refine⟨V20,(i55_::i53_::(row 57 eHdr A21 c21 hs10)::i56_::t52_),hh.ix 4 [2,3,0,1],?_⟩
   clear hh
   let v81_:List Value:=[vi r8.2,.slice A21 hs10.length c21]
   refine T.gZ (W1.st 1 v81_ (i55_::(box b12 27 v81_)::(row 57 eHdr A21 c21 hs10)::i56_::t52_) v81_ ?_)
   refine T.gO (T.ia (T.k2 (vi (IntKind.i64.wrap (x9 + 1))) (vi (IntKind.i64.wrap (x9 + 1))) (T.gO ?_)))
   cases hY3
   exact fun a w' hf hh=>⟨(r8.2,r8.1,IntKind.i64.wrap (x9 + 1)),rfl,r8.2,r8.1,(IntKind.i64.wrap (x9 + 1)),rfl,hs10,V20,(vt hV18 hV20),(Fr.s hf),(hh.u)⟩
  rw [hc9,cond_false] at hY3
  refine T.iO ?_
  cases hY3
  cases (hr4 _ rfl)
  exact fun a w' hf hh=>⟨x7,x8,rfl,hs8,V18,hV18,(Fr.s hf),(hh.u)⟩
 rintro a w' ⟨z13,z14,rfl,hs9,V19,hV19,hf,hh⟩
 try dsimp only at hF
 let v82_:List Value:=[vi z13,.slice A21 hs9.length c21]
 let i57_:HObj:=box b12 27 v82_
 let i58_:HObj:=iB (TreeTy.mk 47 3 76) hs9 z14
 refine(?_:T ⟨62,[d1]⟩ w V19 (i57_::(row 57 eHdr A21 c21 hs9)::i58_::t52_) [(6,pB b4 0),(11,pB b5 0),(13,pB b12 0)] _) a w' hf hh
 clear hf hh
 refine T.ie ?_
 refine T.jh 2 (by rfl) (fun ht3=>?_)
 refine T.qO (i57_::(row 57 eHdr A21 c21 hs9)::(row 76 eSpot A3 c3 z1)::i45_::[]) (by kernel_rfl) ?_
 have w86_:=vt (vt (vt hV1 hV2) hV3) hV19
 refine TA.iX (Hp.q vr w86_) fun o87_=>?_
 refine TA.tk 0 (.agg #[vi z13,.slice A21 hs9.length c21]) rfl o87_ (ldN 0) ?_
 refine TA.tk 1 (.slice A3 z1.length c3) rfl o87_ (ld1 3) ?_
 refine TA.tp 2 (vi (z1.length:Int)) rfl o87_ ?_
 refine TA.a [3] ⟨?_,trivial⟩
 let i59_:HObj:=box b4 27 v82_
 let t60_:List HObj:=i45_::i59_::[]
 let t61_:List HObj:=(iu d1)::t60_
 let t62_:List HObj:=(row 76 eSpot A3 c3 z1)::t61_
 refine TA.br rfl (W1.st 6 v82_ (i57_::(row 57 eHdr A21 c21 hs9)::i58_::t62_) v82_ ?_)
 refine TA.iJ (Hp.q vr w86_) fun o88_=>?_
 refine TA.tp 4 (vi (z1.length:Int)) rfl o88_ ?_
 refine TA.tp 5 (vi 0) rfl o88_ ?_
 refine TA.d ?_
 obtain⟨l2,hb12,hF⟩:=ob hF
 refine T.jb (H':=(i57_::(row 57 eHdr A21 c21 hs9)::(iB (TreeTy.mk 47 3 76) hs9 (l2.map Sum.inr))::t62_)) (by simp +zetaDelta only [kL hb12]) ?_
 refine T.kP (ty:=(TreeTy.mk 47 3 76)) (tn:=57) (l:=l2) (H':=(i57_::t62_)) (pt sw0 (pc1 (pt sw0 pz))) (fun V21 hV21 hs11 hl6=>?_)
 refine T.ii 59 (.agg #[vi z13,.slice A21 l2.length c21]) rfl (by first | rfl | rw [hl6]) ?_
 let i63_:HObj:=box b12 27 [vi z13,.slice A21 l2.length c21]
 let i64_:HObj:=box b4 27 [vi z13,.slice A21 l2.length c21]
 refine T.jb (H':=(i63_::(row 76 eSpot A3 c3 z1)::(iu d1)::i45_::i64_::[])) (by first | rfl | simp +zetaDelta only [hl6]) ?_
 cases hF
 refine T.ik rfl ?_
 refine T.kf (i63_::(row 76 eSpot A3 c3 z1)::i45_::i64_::[]) [d1] (fun w' hh=>hh.ix 3 [2,0,1]) ?_
 exact T.mt rfl (rN 3) (rT rfl) (rT rfl) fun w' hh=>⟨_,rfl,hh.below,(vT3.mk (vAg.mk ⟨_,_,rfl,(ib.mono hs11 (vt (iK vr) (kB hh)))⟩) (show _ from rfl) (show _ from rfl))⟩
end Go.Proofs.Ytljbmnknmhogaaa
