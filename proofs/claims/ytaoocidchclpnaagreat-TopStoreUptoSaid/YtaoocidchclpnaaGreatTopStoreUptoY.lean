/- The statement TopStoreUptoSaid: where what it reads is of bulk at most 1048576, the Go law TopStore returns true and leaves its arguments as they were.
 Its conditions: none beyond that one of the statement. -/
import Derived.Test.YtaoocidchclpnaaGreatPRunY
import Derived.Test.YtaoocidchclpnaaGreatWTopStoreLY
import Derived.Test.YtaoocidchclpnaaGreatOpenY
namespace Go.Proofs.YtaoocidchclpnaaGreat
open Go.ChangeShapes Go.WideShapes Go.ChangeAt Go.RowKit
set_option linter.unusedVariables false
set_option linter.unusedSimpArgs false
set_option maxRecDepth 100000 in
theorem Db:EG Tryz.prog 3 Tryz.f3:=by
 intro H enc W base args ds p hval hA hw hbk
 rw [Tryz.params3] at hA hval hw
 obtain⟨l,rfl⟩ : ∃ l:List Value,args=l.toArray:=⟨args.toList,by simp⟩
 simp only [List.toList_toArray] at hA
 obtain⟨v0,vs0,d0,ds0,q0,qs0,rfl,rfl,rfl,h0,r0⟩:=trodAll_cons hA
 obtain⟨v1,vs1,d1,ds1,q1,qs1,rfl,rfl,rfl,h1,r1⟩:=trodAll_cons r0
 obtain⟨v2,vs2,d2,ds2,q2,qs2,rfl,rfl,rfl,h2,r2⟩:=trodAll_cons r1
 obtain⟨v3,vs3,d3,ds3,q3,qs3,rfl,rfl,rfl,h3,r3⟩:=trodAll_cons r2
 obtain⟨rfl,rfl,rfl⟩:=trodAll_nil r3
 obtain⟨A0,n0,c0,rfl⟩:=okWide_slice Tryz.underlying22 (hval 0 22 v0 rfl rfl)
 obtain⟨fu0,hf0⟩:=h0
 obtain⟨p0,⟨A0_,c0_,e0,s0⟩,k0⟩:=Kx _ _ _ _ _ _ _ _ _ hf0 (yV hw (j:=0) rfl rfl)
 obtain⟨rfl,rfl,rfl⟩ : A0=A0_∧n0=p0.length∧c0=c0_:=by simpa [Value.cells] using e0
 obtain⟨A1,n1,c1,rfl⟩:=okWide_slice Tryz.underlying23 (hval 1 23 v1 rfl rfl)
 obtain⟨fu1,hf1⟩:=h1
 obtain⟨p1,⟨A1_,c1_,e1,s1⟩,k1⟩:=Ky _ _ _ _ _ _ _ _ _ hf1 (yV hw (j:=1) rfl rfl)
 obtain⟨rfl,rfl,rfl⟩ : A1=A1_∧n1=p1.length∧c1=c1_:=by simpa [Value.cells] using e1
 obtain⟨A2,n2,c2,rfl⟩:=okWide_slice Tryz.underlying24 (hval 2 24 v2 rfl rfl)
 obtain⟨fu2,hf2⟩:=h2
 obtain⟨p2,⟨A2_,c2_,e2,s2⟩,k2⟩:=Kz _ _ _ _ _ _ _ _ _ hf2 (yV hw (j:=2) rfl rfl)
 obtain⟨rfl,rfl,rfl⟩ : A2=A2_∧n2=p2.length∧c2=c2_:=by simpa [Value.cells] using e2
 obtain⟨A3,n3,c3,rfl⟩:=okWide_slice Tryz.underlying25 (hval 3 25 v3 rfl rfl)
 obtain⟨fu3,hf3⟩:=h3
 obtain⟨p3,⟨A3_,c3_,e3,s3⟩,k3⟩:=KA _ _ _ _ _ _ _ _ _ hf3 (yV hw (j:=3) rfl rfl)
 obtain⟨rfl,rfl,rfl⟩ : A3=A3_∧n3=p3.length∧c3=c3_:=by simpa [Value.cells] using e3
 have b0:p0.length≤1048576:=yQ Tryz.underlying22 hf0 rfl hbk (by simp)
 have b1:p1.length≤1048576:=yQ Tryz.underlying23 hf1 rfl hbk (by simp)
 have b2:p2.length≤1048576:=yQ Tryz.underlying24 hf2 rfl hbk (by simp)
 have b3:p3.length≤1048576:=yQ Tryz.underlying25 hf3 rfl hbk (by simp)
 refine(rn FUEL p0 p1 p2 p3 true (yP FUEL p0 p1 p2 p3 k0 k1 k2 k3 b0 b1 b2 b3) W _ _ s0 _ _ s1 _ _ s2 _ _ s3).mono ?_
 rintro e W' ⟨v,rfl,hb,hr⟩
 obtain rfl:=lg _ _ _ hr
 exact⟨rfl,hb⟩
set_option maxRecDepth 100000 in
theorem B6 (os:Os)(started:os.Started)(H:Type)(enc:TypeId × Value→H)(Fi:Stop.Interp) :
 ReturnsInHanded {} Tryz.checked os 3 .any ((Rows.OpenSpec.upto Rows.topStoreSpec).pre6 enc Tryz.prog Tryz.f3 Rows.topStoreUptoRow.domain false) (((Rows.OpenSpec.upto Rows.topStoreSpec).at Fi).post enc Tryz.prog Tryz.f3 false true false false) :=
 B0 (C:=Tryz.checked) (s:=Rows.topStoreSpec) (tb:=4) Db IW started (by kernel_rfl) Tryz.func3
  (OpenSpec.witness (enc:=enc) (C:=Tryz.checked) (s:=Rows.OpenSpec.upto Rows.topStoreSpec) (k:=Rows.uptoSmall) rfl false ⟨#[],#[.slice none 0 0,.slice none 0 0,.slice none 0 0,.slice none 0 0],[]⟩ 8 (by kernel_rfl) (by kernel_rfl) (by kernel_rfl) (x:=([.nil,.nil,.nil,.nil],[],[])) (by kernel_rfl) rfl (by kernel_rfl))
  rfl rfl Tryz.underlying4 HL (by intro t ht;rw [show Tryz.f3.params=_ from Tryz.params3] at ht;simp only [List.mem_cons,List.not_mem_nil,or_false] at ht;rcases ht with rfl | rfl | rfl | rfl <;> exact ⟨by kernel_rfl,of_decide_eq_true (by kernel_rfl)⟩)
  (by
   intro ds hd
   rw [show Tryz.f3.params=_ from Tryz.params3] at hd
   match ds,hd with
   | [x0,x1,x2,x3],_=>exact ⟨rfl,rfl,rfl⟩) Fi
set_option maxRecDepth 100000 in
theorem topStoreUpto_holds:Rows.TopStoreUptoSaid :=
 OpenClaim.holds_of_cond 3 Tryz.f3 rfl rfl rfl rfl rfl rfl rfl ⟨rfl,rfl,rfl,rfl,rfl⟩ rfl rfl rfl rfl rfl (by kernel_rfl) Tryz.func3 (show joinedFacts Tryz.prog 3 Tryz.f3 (Rows.OpenSpec.upto Rows.topStoreSpec).bare Rows.topStoreUptoRow=true by unfold joinedFacts;rw [Gt,Gu,HM];kernel_rfl)
  (of_decide_eq_true (by kernel_rfl)) (by unfold Func.isWrapper;rw [if_neg (of_decide_eq_false (by kernel_rfl))];exact⟨rfl,rfl⟩)
  (fun os started H enc _ Fi=>B6 os started H enc Fi)
end Go.Proofs.YtaoocidchclpnaaGreat
