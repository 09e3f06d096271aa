/- The statement TopTreeSaid: whatever the input, the Go law TopTree returns true and leaves its arguments as they were.
 Its conditions: none. -/
import Derived.Test.YtljbmnknmhogaaaWTopTreeLT
import Derived.Test.YtljbmnknmhogaaaOpenT
namespace Go.Proofs.Ytljbmnknmhogaaa
open Go.ChangeShapes Go.WideShapes Go.ChangeAt Go.RowKit
set_option linter.unusedVariables false
set_option linter.unusedSimpArgs false
set_option maxRecDepth 100000 in
theorem zr:Bp Try.prog 3 Try.f3:=by
 intro H enc W base args ds p hval hA hw
 rw [Try.params3] at hA hval hw
 obtain⟨l,rfl⟩ : ∃ l:List Value,args=l.toArray:=⟨args.toList,by simp⟩
 simp only [List.toList_toArray] at hA
 obtain⟨v0,vs0,d0,ds0,q0,qs0,rfl,rfl,rfl,h0,r0⟩:=trodAll_cons hA
 obtain⟨v1,vs1,d1,ds1,q1,qs1,rfl,rfl,rfl,h1,r1⟩:=trodAll_cons r0
 obtain⟨v2,vs2,d2,ds2,q2,qs2,rfl,rfl,rfl,h2,r2⟩:=trodAll_cons r1
 obtain⟨rfl,rfl,rfl⟩:=trodAll_nil r2
 obtain⟨A0,n0,c0,rfl⟩:=okWide_slice Try.underlying22 (hval 0 22 v0 rfl rfl)
 obtain⟨fu0,hf0⟩:=h0
 obtain⟨p0,⟨A0_,c0_,e0,s0⟩,k0⟩:=DU _ _ _ _ _ _ _ _ _ hf0 (wx hw (j:=0) rfl rfl)
 obtain⟨rfl,rfl,rfl⟩ : A0=A0_∧n0=p0.length∧c0=c0_:=by simpa [Value.cells] using e0
 obtain⟨A1,n1,c1,rfl⟩:=okWide_slice Try.underlying23 (hval 1 23 v1 rfl rfl)
 obtain⟨fu1,hf1⟩:=h1
 obtain⟨p1,⟨A1_,c1_,e1,s1⟩,k1⟩:=DV _ _ _ _ _ _ _ _ _ hf1 (wx hw (j:=1) rfl rfl)
 obtain⟨rfl,rfl,rfl⟩ : A1=A1_∧n1=p1.length∧c1=c1_:=by simpa [Value.cells] using e1
 obtain⟨A2,n2,c2,rfl⟩:=okWide_slice Try.underlying24 (hval 2 24 v2 rfl rfl)
 obtain⟨fu2,hf2⟩:=h2
 obtain⟨p2,⟨A2_,c2_,e2,s2⟩,k2⟩:=DW _ _ _ _ _ _ _ _ _ hf2 (wx hw (j:=2) rfl rfl)
 obtain⟨rfl,rfl,rfl⟩ : A2=A2_∧n2=p2.length∧c2=c2_:=by simpa [Value.cells] using e2
 refine(pF FUEL p0 p1 p2 true (vE FUEL p0 p1 p2 k0 k1 k2) W _ _ s0 _ _ s1 _ _ s2).mono ?_
 rintro e W' ⟨v,rfl,hb,hr⟩
 obtain rfl:=jL _ _ _ hr
 exact⟨rfl,hb⟩
set_option maxRecDepth 100000 in
theorem yj (os:Os)(started:os.Started)(H:Type)(enc:TypeId × Value→H) :
 ReturnsInHanded {} Try.checked os 3 .any (Rows.topTreeSpec.pre6 enc Try.prog Try.f3 Rows.topTreeRow.domain false) (Rows.topTreeSpec.post enc Try.prog Try.f3 false true false false) :=
 AP (C:=Try.checked) (s:=Rows.topTreeSpec) (tb:=4) zr CQ started (by kernel_rfl) Try.func3
  (ChangeSpec.witness6 (enc:=enc) (C:=Try.checked) false ⟨#[],#[.slice none 0 0,.slice none 0 0,.slice none 0 0],[]⟩ 8 (by kernel_rfl) (by kernel_rfl) (by kernel_rfl) (by kernel_rfl))
  rfl rfl Try.underlying4 B4 (by intro t ht;rw [show Try.f3.params=_ from Try.params3] at ht;simp only [List.mem_cons,List.not_mem_nil,or_false] at ht;rcases ht with rfl | rfl | rfl <;> exact ⟨by kernel_rfl,of_decide_eq_true (by kernel_rfl)⟩)
  (by
   intro ds hd
   rw [show Try.f3.params=_ from Try.params3] at hd
   match ds,hd with
   | [x0,x1,x2],_=>exact ⟨rfl,rfl,rfl⟩)
set_option maxRecDepth 100000 in
theorem topTree_holds:Rows.TopTreeSaid :=
 OpenClaim.holds_of_wide 3 Try.f3 rfl rfl rfl rfl rfl rfl rfl ⟨rfl,rfl,rfl,rfl,rfl⟩ rfl rfl rfl rfl rfl (by kernel_rfl) Try.func3 (show joinedFacts Try.prog 3 Try.f3 Rows.topTreeSpec Rows.topTreeRow=true by unfold joinedFacts;rw [Be,Bf,B5];kernel_rfl)
  (of_decide_eq_true (by kernel_rfl)) (by unfold Func.isWrapper;rw [if_neg (of_decide_eq_false (by kernel_rfl))];exact⟨rfl,rfl⟩)
  (fun os started H enc _=>yj os started H enc)
end Go.Proofs.Ytljbmnknmhogaaa
