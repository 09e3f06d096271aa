/- The statement StoreStepsSaid: whatever the input, the Go law StoreSteps returns true and leaves its arguments as they were.
 Its conditions: none. -/
import Derived.Test.YtnofgfobljadbaaGreatOpenW
namespace Go.Proofs.YtnofgfobljadbaaGreat
set_option linter.unusedSimpArgs false
set_option linter.unusedVariables false
section
open Go.ChangeShapes Go.WideShapes Go.ChangeAt Go.RowKit
set_option maxRecDepth 100000 in
theorem CZ:Hy Tryz.prog 4 Tryz.f4:=by
 intro H enc W base args ds p hval hA hw;rw[Tryz.params4] at hA hval hw;obtain⟨l,rfl⟩:∃l:List Value,args=l.toArray:=⟨args.toList,by simp⟩;simp only[List.toList_toArray] at hA;obtain⟨v0,vs0,d0,ds0,q0,qs0,rfl,rfl,rfl,h0,r0⟩:=trodAll_cons hA;obtain⟨v1,vs1,d1,ds1,q1,qs1,rfl,rfl,rfl,h1,r1⟩:=trodAll_cons r0;obtain⟨v2,vs2,d2,ds2,q2,qs2,rfl,rfl,rfl,h2,r2⟩:=trodAll_cons r1;obtain⟨v3,vs3,d3,ds3,q3,qs3,rfl,rfl,rfl,h3,r3⟩:=trodAll_cons r2;obtain⟨v4,vs4,d4,ds4,q4,qs4,rfl,rfl,rfl,h4,r4⟩:=trodAll_cons r3;obtain⟨rfl,rfl,rfl⟩:=trodAll_nil r4;obtain⟨A0,n0,c0,rfl⟩:=okWide_slice Tryz.underlying22 (hval 0 22 v0 rfl rfl);obtain⟨fu0,hf0⟩:=h0;obtain⟨p0,⟨A0_,c0_,e0,s0⟩,k0⟩:=Ly _ _ _ _ _ _ _ _ _ hf0 (Bt hw (j:=0) rfl rfl);obtain⟨rfl,rfl,rfl⟩:A0=A0_/\n0=p0.length/\c0=c0_:=by simpa[Value.cells] using e0
 obtain⟨cs1,rfl,_⟩:=okWide_struct Tryz.underlying24 (hval 1 24 v1 rfl rfl);obtain⟨fu1,hf1⟩:=h1;obtain⟨p1,e1,k1⟩:=Lu _ _ _ _ _ _ _ _ _ hf1 (Bt hw (j:=1) rfl rfl);obtain rfl:cs1=(DKey.cells p1).toArray:=by rw[<-show cs1.toList=_ from e1]
 obtain⟨p2,rfl,rfl,rfl,k2⟩:=Gf Tryz.underlying9 (hval 2 9 v2 rfl rfl) h2;have k2_:p2.size<=reachBytes:=by have:=sized_string hw (j:=2) (t:=9) rfl rfl;simpa using this
 obtain⟨p3,rfl,rfl,rfl,k3⟩:=open_int Tryz.underlying3 (hval 3 3 v3 rfl rfl) h3;obtain⟨A4,n4,c4,rfl⟩:=okWide_slice Tryz.underlying55 (hval 4 55 v4 rfl rfl);obtain⟨fu4,hf4⟩:=h4;obtain⟨p4,⟨A4_,c4_,e4,s4⟩,k4⟩:=LA _ _ _ _ _ _ _ _ _ hf4 (Bt hw (j:=4) rfl rfl);obtain⟨rfl,rfl,rfl⟩:A4=A4_/\n4=p4.length/\c4=c4_:=by simpa[Value.cells] using e4
 refine(rq FUEL p0 p1 p2 p3 p4 true (zr FUEL p0 p1 p2 p3 p4 k0 k1 k2 k2_ k3 k4) W _ _ s0 _ _ s4).mono ?_;rintro e W' ⟨v,rfl,hb,hr⟩;obtain rfl:=jH _ _ _ hr;exact⟨rfl,hb⟩
set_option maxRecDepth 100000 in
theorem Cg (os:Os)(started:os.Started)(H:Type)(enc:TypeId×Value->H) :
 ReturnsInHanded {} Tryz.checked os 4 .any (Rows.storeStepsSpec.pre6 enc Tryz.prog Tryz.f4 Rows.storeStepsRow.domain false) (Rows.storeStepsSpec.post enc Tryz.prog Tryz.f4 false true false false) :=
 G6 (C:=Tryz.checked) (s:=Rows.storeStepsSpec) (tb:=4) CZ JS started (by kernel_rfl) Tryz.func4
  (ChangeSpec.witness6 (enc:=enc) (C:=Tryz.checked) false ⟨#[],#[.slice none 0 0,.agg #[.int .i64 0,.int .i64 0,.int .i64 0],.string (ByteArray.mk #[]),.int .i64 0,.slice none 0 0],[]⟩ 8 (by kernel_rfl) (by kernel_rfl) (by kernel_rfl) (by kernel_rfl))
  rfl rfl Tryz.underlying4 IJ (by intro t ht;rw[show Tryz.f4.params=_ from Tryz.params4] at ht;simp only[List.mem_cons,List.not_mem_nil,or_false] at ht;rcases ht with rfl|rfl|rfl|rfl|rfl <;> exact⟨by kernel_rfl,of_decide_eq_true (by kernel_rfl)⟩)
  (by
   intro ds hd;rw[show Tryz.f4.params=_ from Tryz.params4] at hd
   match ds,hd with
   |[x0,x1,x2,x3,x4],_=>exact⟨rfl,rfl,rfl⟩)
set_option maxRecDepth 100000 in
theorem storeSteps_holds:Rows.StoreStepsSaid :=
 OpenClaim.holds_of_wide 4 Tryz.f4 rfl rfl rfl rfl rfl rfl rfl ⟨rfl,rfl,rfl,rfl,rfl⟩ rfl rfl rfl rfl rfl (by kernel_rfl) Tryz.func4 (show joinedFacts Tryz.prog 4 Tryz.f4 Rows.storeStepsSpec Rows.storeStepsRow=true by unfold joinedFacts;rw[Hn,Ho,IK];kernel_rfl)
  (of_decide_eq_true (by kernel_rfl)) (by unfold Func.isWrapper;rw[if_neg (of_decide_eq_false (by kernel_rfl))];exact⟨rfl,rfl⟩)
  (λos started H enc _=>Cg os started H enc)
end
end Go.Proofs.YtnofgfobljadbaaGreat
