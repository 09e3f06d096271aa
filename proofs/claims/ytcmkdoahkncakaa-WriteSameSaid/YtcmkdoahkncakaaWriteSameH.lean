/- The statement WriteSameSaid: whatever the input, the Go law WriteSame returns true and leaves its arguments as they were.
 Its conditions: none. -/
import Derived.Test.YtcmkdoahkncakaaWWriteSameLH
import Derived.Test.YtcmkdoahkncakaaOpenH
namespace Go.Proofs.Ytcmkdoahkncakaa
open Go.ChangeShapes Go.WideShapes Go.ChangeAt Go.RowKit
set_option linter.unusedVariables false
set_option linter.unusedSimpArgs false
set_option maxRecDepth 100000 in
theorem H6:Kq Try.prog 13 Try.f13:=by
 intro H enc W base args ds p hval hA hw
 rw [Try.params13] at hA hval hw
 obtain⟨l,rfl⟩ : ∃ l:List Value,args=l.toArray:=⟨args.toList,by simp⟩
 simp only [List.toList_toArray] at hA
 obtain⟨v0,vs0,d0,ds0,q0,qs0,rfl,rfl,rfl,h0,r0⟩:=trodAll_cons hA
 obtain⟨v1,vs1,d1,ds1,q1,qs1,rfl,rfl,rfl,h1,r1⟩:=trodAll_cons r0
 obtain⟨v2,vs2,d2,ds2,q2,qs2,rfl,rfl,rfl,h2,r2⟩:=trodAll_cons r1
 obtain⟨v3,vs3,d3,ds3,q3,qs3,rfl,rfl,rfl,h3,r3⟩:=trodAll_cons r2
 obtain⟨rfl,rfl,rfl⟩:=trodAll_nil r3
 obtain⟨cs0,rfl,_⟩:=okWide_struct Try.underlying24 (hval 0 24 v0 rfl rfl)
 obtain⟨fu0,hf0⟩:=h0
 obtain⟨p0,e0,k0⟩:=MJ _ _ _ _ _ _ _ _ _ hf0 (HT hw (j:=0) rfl rfl)
 obtain⟨A0_0,c0_0,e0,s0_0⟩:=e0
 obtain rfl:cs0 = #[.int .i64 p0.root,.slice A0_0 p0.nodes.length c0_0]:=by rw [← Array.toList_inj];exact e0
 obtain⟨cs1,rfl,_⟩:=okWide_struct Try.underlying26 (hval 1 26 v1 rfl rfl)
 obtain⟨fu1,hf1⟩:=h1
 obtain⟨p1,e1,k1⟩:=Mx _ _ _ _ _ _ _ _ _ hf1 (HT hw (j:=1) rfl rfl)
 obtain rfl:cs1=(DKey.cells p1).toArray:=by rw [← show cs1.toList=_ from e1]
 obtain⟨p2,rfl,rfl,rfl,k2⟩:=Jw Try.underlying9 (hval 2 9 v2 rfl rfl) h2
 have k2_:p2.size≤reachBytes:=by
  have:=sized_string hw (j:=2) (t:=9) rfl rfl
  simpa using this
 obtain⟨p3,rfl,rfl,rfl,k3⟩:=open_int Try.underlying3 (hval 3 3 v3 rfl rfl) h3
 refine(Bx FUEL p0 p1 p2 p3 true (FB FUEL p0 p1 p2 p3 k0 k1 k2 k2_ k3) W _ _ s0_0).mono ?_
 rintro e W' ⟨v,rfl,hb,hr⟩
 obtain rfl:=xD _ _ _ hr
 exact⟨rfl,hb⟩
set_option maxRecDepth 100000 in
theorem Hq (os:Os)(started:os.Started)(H:Type)(enc:TypeId × Value→H) :
 ReturnsInHanded {} Try.checked os 13 .any (Rows.writeSameSpec.pre6 enc Try.prog Try.f13 Rows.writeSameRow.domain false) (Rows.writeSameSpec.post enc Try.prog Try.f13 false true false false) :=
 J1 (C:=Try.checked) (s:=Rows.writeSameSpec) (tb:=4) H6 LD started (by kernel_rfl) Try.func13
  (ChangeSpec.witness6 (enc:=enc) (C:=Try.checked) false ⟨#[],#[.agg #[.int .i64 0,.slice none 0 0],.agg #[.int .i64 0,.int .i64 0,.int .i64 0],.string (ByteArray.mk #[]),.int .i64 0],[]⟩ 8 (by kernel_rfl) (by kernel_rfl) (by kernel_rfl) (by kernel_rfl))
  rfl rfl Try.underlying4 K1 (by intro t ht;rw [show Try.f13.params=_ from Try.params13] at ht;simp only [List.mem_cons,List.not_mem_nil,or_false] at ht;rcases ht with rfl | rfl | rfl | rfl <;> exact ⟨by kernel_rfl,of_decide_eq_true (by kernel_rfl)⟩)
  (by
   intro ds hd
   rw [show Try.f13.params=_ from Try.params13] at hd
   match ds,hd with
   | [x0,x1,x2,x3],_=>exact ⟨rfl,rfl,rfl⟩)
set_option maxRecDepth 100000 in
theorem writeSame_holds:Rows.WriteSameSaid :=
 OpenClaim.holds_of_wide 13 Try.f13 rfl rfl rfl rfl rfl rfl rfl ⟨rfl,rfl,rfl,rfl,rfl⟩ rfl rfl rfl rfl rfl (by kernel_rfl) Try.func13 (show joinedFacts Try.prog 13 Try.f13 Rows.writeSameSpec Rows.writeSameRow=true by unfold joinedFacts;rw [Kf,Kg,K2];kernel_rfl)
  (of_decide_eq_true (by kernel_rfl)) (by unfold Func.isWrapper;rw [if_neg (of_decide_eq_false (by kernel_rfl))];exact⟨rfl,rfl⟩)
  (fun os started H enc _=>Hq os started H enc)
end Go.Proofs.Ytcmkdoahkncakaa
