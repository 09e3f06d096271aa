/- The statement WritePastSaid: whatever the input, the Go law WritePast returns true and leaves its arguments as they were.
 Its conditions: none. -/
import Derived.Test.YtcmkdoahkncakaaWWritePastLH
import Derived.Test.YtcmkdoahkncakaaOpenH
namespace Go.Proofs.Ytcmkdoahkncakaa
open Go.ChangeShapes Go.WideShapes Go.ChangeAt Go.RowKit
set_option linter.unusedVariables false
set_option linter.unusedSimpArgs false
set_option maxRecDepth 100000 in
theorem H5:KE Try.prog 12 Try.f12:=by
 intro H enc W base args ds p hval hA hw
 rw [Try.params12] at hA hval hw
 obtain⟨l,rfl⟩ : ∃ l:List Value,args=l.toArray:=⟨args.toList,by simp⟩
 simp only [List.toList_toArray] at hA
 obtain⟨v0,vs0,d0,ds0,q0,qs0,rfl,rfl,rfl,h0,r0⟩:=trodAll_cons hA
 obtain⟨v1,vs1,d1,ds1,q1,qs1,rfl,rfl,rfl,h1,r1⟩:=trodAll_cons r0
 obtain⟨v2,vs2,d2,ds2,q2,qs2,rfl,rfl,rfl,h2,r2⟩:=trodAll_cons r1
 obtain⟨v3,vs3,d3,ds3,q3,qs3,rfl,rfl,rfl,h3,r3⟩:=trodAll_cons r2
 obtain⟨v4,vs4,d4,ds4,q4,qs4,rfl,rfl,rfl,h4,r4⟩:=trodAll_cons r3
 obtain⟨v5,vs5,d5,ds5,q5,qs5,rfl,rfl,rfl,h5,r5⟩:=trodAll_cons r4
 obtain⟨rfl,rfl,rfl⟩:=trodAll_nil r5
 obtain⟨cs0,rfl,_⟩:=okWide_struct Try.underlying24 (hval 0 24 v0 rfl rfl)
 obtain⟨fu0,hf0⟩:=h0
 obtain⟨p0,e0,k0⟩:=MS _ _ _ _ _ _ _ _ _ hf0 (GO hw (j:=0) rfl rfl)
 obtain⟨A0_0,c0_0,e0,s0_0⟩:=e0
 obtain rfl:cs0 = #[.int .i64 p0.root,.slice A0_0 p0.nodes.length c0_0]:=by rw [← Array.toList_inj];exact e0
 obtain⟨cs1,rfl,_⟩:=okWide_struct Try.underlying26 (hval 1 26 v1 rfl rfl)
 obtain⟨fu1,hf1⟩:=h1
 obtain⟨p1,e1,k1⟩:=Mi _ _ _ _ _ _ _ _ _ hf1 (GO hw (j:=1) rfl rfl)
 obtain rfl:cs1=(DKey.cells p1).toArray:=by rw [← show cs1.toList=_ from e1]
 obtain⟨cs2,rfl,_⟩:=okWide_struct Try.underlying26 (hval 2 26 v2 rfl rfl)
 obtain⟨fu2,hf2⟩:=h2
 obtain⟨p2,e2,k2⟩:=Mi _ _ _ _ _ _ _ _ _ hf2 (GO hw (j:=2) rfl rfl)
 obtain rfl:cs2=(DKey.cells p2).toArray:=by rw [← show cs2.toList=_ from e2]
 obtain⟨p3,rfl,rfl,rfl,k3⟩:=JG Try.underlying9 (hval 3 9 v3 rfl rfl) h3
 have k3_:p3.size≤reachBytes:=by
  have:=sized_string hw (j:=3) (t:=9) rfl rfl
  simpa using this
 obtain⟨p4,rfl,rfl,rfl,k4⟩:=open_int Try.underlying3 (hval 4 3 v4 rfl rfl) h4
 obtain⟨p5,rfl,rfl,rfl,k5⟩:=open_int Try.underlying3 (hval 5 3 v5 rfl rfl) h5
 refine(Bw FUEL p0 p1 p2 p3 p4 p5 true (FD FUEL p0 p1 p2 p3 p4 p5 k0 k1 k2 k3 k3_ k4 k5) W _ _ s0_0).mono ?_
 rintro e W' ⟨v,rfl,hb,hr⟩
 obtain rfl:=xD _ _ _ hr
 exact⟨rfl,hb⟩
set_option maxRecDepth 100000 in
theorem Hr (os:Os)(started:os.Started)(H:Type)(enc:TypeId × Value→H) :
 ReturnsInHanded {} Try.checked os 12 .any (Rows.writePastSpec.pre6 enc Try.prog Try.f12 Rows.writePastRow.domain false) (Rows.writePastSpec.post enc Try.prog Try.f12 false true false false) :=
 Kf (C:=Try.checked) (s:=Rows.writePastSpec) (tb:=4) H5 LR started (by kernel_rfl) Try.func12
  (ChangeSpec.witness6 (enc:=enc) (C:=Try.checked) false ⟨#[],#[.agg #[.int .i64 0,.slice none 0 0],.agg #[.int .i64 0,.int .i64 0,.int .i64 0],.agg #[.int .i64 0,.int .i64 0,.int .i64 0],.string (ByteArray.mk #[]),.int .i64 0,.int .i64 0],[]⟩ 8 (by kernel_rfl) (by kernel_rfl) (by kernel_rfl) (by kernel_rfl))
  rfl rfl Try.underlying4 Le (by intro t ht;rw [show Try.f12.params=_ from Try.params12] at ht;simp only [List.mem_cons,List.not_mem_nil,or_false] at ht;rcases ht with rfl | rfl | rfl | rfl | rfl | rfl <;> exact ⟨by kernel_rfl,of_decide_eq_true (by kernel_rfl)⟩)
  (by
   intro ds hd
   rw [show Try.f12.params=_ from Try.params12] at hd
   match ds,hd with
   | [x0,x1,x2,x3,x4,x5],_=>exact ⟨rfl,rfl,rfl⟩)
set_option maxRecDepth 100000 in
theorem writePast_holds:Rows.WritePastSaid :=
 OpenClaim.holds_of_wide 12 Try.f12 rfl rfl rfl rfl rfl rfl rfl ⟨rfl,rfl,rfl,rfl,rfl⟩ rfl rfl rfl rfl rfl (by kernel_rfl) Try.func12 (show joinedFacts Try.prog 12 Try.f12 Rows.writePastSpec Rows.writePastRow=true by unfold joinedFacts;rw [Ku,Kv,Lg];kernel_rfl)
  (of_decide_eq_true (by kernel_rfl)) (by unfold Func.isWrapper;rw [if_neg (of_decide_eq_false (by kernel_rfl))];exact⟨rfl,rfl⟩)
  (fun os started H enc _=>Hr os started H enc)
end Go.Proofs.Ytcmkdoahkncakaa
