/- The statement TreeOwnSaid: whatever the input, the Go law TreeOwn returns true and leaves its arguments as they were.
 Its conditions: none. -/
import Derived.Test.YtfbpiogbhkgieaaGreatWTreeOwnLL
import Derived.Test.YtfbpiogbhkgieaaGreatOpenL
namespace Go.Proofs.YtfbpiogbhkgieaaGreat
open Go.ChangeShapes Go.WideShapes Go.ChangeAt Go.RowKit
set_option linter.unusedVariables false
set_option linter.unusedSimpArgs false
set_option maxRecDepth 100000 in
theorem Bf:CM Tryz.prog 3 Tryz.f3:=by
 intro H enc W base args ds p hval hA hw
 rw [Tryz.params3] at hA hval hw
 obtain⟨l,rfl⟩ : ∃ l:List Value,args=l.toArray:=⟨args.toList,by simp⟩
 simp only [List.toList_toArray] at hA
 obtain⟨v0,vs0,d0,ds0,q0,qs0,rfl,rfl,rfl,h0,r0⟩:=trodAll_cons hA
 obtain⟨v1,vs1,d1,ds1,q1,qs1,rfl,rfl,rfl,h1,r1⟩:=trodAll_cons r0
 obtain⟨v2,vs2,d2,ds2,q2,qs2,rfl,rfl,rfl,h2,r2⟩:=trodAll_cons r1
 obtain⟨rfl,rfl,rfl⟩:=trodAll_nil r2
 obtain⟨cs0,rfl,_⟩:=okWide_struct Tryz.underlying24 (hval 0 24 v0 rfl rfl)
 obtain⟨fu0,hf0⟩:=h0
 obtain⟨p0,e0,k0⟩:=FB _ _ _ _ _ _ _ _ _ hf0 (xX hw (j:=0) rfl rfl)
 obtain⟨A0_0,c0_0,e0,s0_0⟩:=e0
 obtain rfl:cs0 = #[.int .i64 p0.root,.slice A0_0 p0.nodes.length c0_0]:=by rw [← Array.toList_inj];exact e0
 obtain⟨cs1,rfl,_⟩:=okWide_struct Tryz.underlying28 (hval 1 28 v1 rfl rfl)
 obtain⟨fu1,hf1⟩:=h1
 obtain⟨p1,e1,k1⟩:=Fy _ _ _ _ _ _ _ _ _ hf1 (xX hw (j:=1) rfl rfl)
 obtain rfl:cs1=(DElem.cells p1).toArray:=by rw [← show cs1.toList=_ from e1]
 obtain⟨A2,n2,c2,rfl⟩:=okWide_slice Tryz.underlying29 (hval 2 29 v2 rfl rfl)
 obtain⟨fu2,hf2⟩:=h2
 obtain⟨p2,⟨A2_,c2_,e2,s2⟩,k2⟩:=Fn _ _ _ _ _ _ _ _ _ hf2 (xX hw (j:=2) rfl rfl)
 obtain⟨rfl,rfl,rfl⟩ : A2=A2_∧n2=p2.length∧c2=c2_:=by simpa [Value.cells] using e2
 refine(qz FUEL p0 p1 p2 true (wQ FUEL p0 p1 p2 k0 k1 k2) W _ _ s0_0 _ _ s2).mono ?_
 rintro e W' ⟨v,rfl,hb,hr⟩
 obtain rfl:=jS _ _ _ hr
 exact⟨rfl,hb⟩
set_option maxRecDepth 100000 in
theorem zV (os:Os)(started:os.Started)(H:Type)(enc:TypeId × Value→H) :
 ReturnsInHanded {} Tryz.checked os 3 .any (Rows.treeOwnSpec.pre6 enc Tryz.prog Tryz.f3 Rows.treeOwnRow.domain false) (Rows.treeOwnSpec.post enc Tryz.prog Tryz.f3 false true false false) :=
 Cn (C:=Tryz.checked) (s:=Rows.treeOwnSpec) (tb:=4) Bf Ek started (by kernel_rfl) Tryz.func3
  (ChangeSpec.witness6 (enc:=enc) (C:=Tryz.checked) false ⟨#[],#[.agg #[.int .i64 0,.slice none 0 0],.agg #[.int .i64 0,.int .i64 0,.int .i64 0,.int .i64 0,.int .i64 0,.string (ByteArray.mk #[])],.slice none 0 0],[]⟩ 8 (by kernel_rfl) (by kernel_rfl) (by kernel_rfl) (by kernel_rfl))
  rfl rfl Tryz.underlying4 Du (by intro t ht;rw [show Tryz.f3.params=_ from Tryz.params3] at ht;simp only [List.mem_cons,List.not_mem_nil,or_false] at ht;rcases ht with rfl | rfl | rfl <;> exact ⟨by kernel_rfl,of_decide_eq_true (by kernel_rfl)⟩)
  (by
   intro ds hd
   rw [show Tryz.f3.params=_ from Tryz.params3] at hd
   match ds,hd with
   | [x0,x1,x2],_=>exact ⟨rfl,rfl,rfl⟩)
set_option maxRecDepth 100000 in
theorem treeOwn_holds:Rows.TreeOwnSaid :=
 OpenClaim.holds_of_wide 3 Tryz.f3 rfl rfl rfl rfl rfl rfl rfl ⟨rfl,rfl,rfl,rfl,rfl⟩ rfl rfl rfl rfl rfl (by kernel_rfl) Tryz.func3 (show joinedFacts Tryz.prog 3 Tryz.f3 Rows.treeOwnSpec Rows.treeOwnRow=true by unfold joinedFacts;rw [CE,CF,Dv];kernel_rfl)
  (of_decide_eq_true (by kernel_rfl)) (by unfold Func.isWrapper;rw [if_neg (of_decide_eq_false (by kernel_rfl))];exact⟨rfl,rfl⟩)
  (fun os started H enc _=>zV os started H enc)
end Go.Proofs.YtfbpiogbhkgieaaGreat
