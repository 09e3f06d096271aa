/- The statement StoreLazySaid: whatever the input, the Go law StoreLazy returns true and leaves its arguments as they were.
 Its conditions: none. -/
import Derived.Test.YtnofgfobljadbaaGreatOpenW
namespace Go.Proofs.YtnofgfobljadbaaGreat
set_option linter.unusedSimpArgs false
set_option linter.unusedVariables false
section
open Go.ChangeShapes Go.WideShapes Go.ChangeAt Go.RowKit
set_option maxRecDepth 100000 in
theorem DW:HJ Tryz.prog 6 Tryz.f6:=by
 intro H enc W base args ds p hval hA hw;rw[Tryz.params6] at hA hval hw;obtain⟨l,rfl⟩:∃l:List Value,args=l.toArray:=⟨args.toList,by simp⟩;simp only[List.toList_toArray] at hA;obtain⟨v0,vs0,d0,ds0,q0,qs0,rfl,rfl,rfl,h0,r0⟩:=trodAll_cons hA;obtain⟨v1,vs1,d1,ds1,q1,qs1,rfl,rfl,rfl,h1,r1⟩:=trodAll_cons r0;obtain⟨v2,vs2,d2,ds2,q2,qs2,rfl,rfl,rfl,h2,r2⟩:=trodAll_cons r1;obtain⟨rfl,rfl,rfl⟩:=trodAll_nil r2;obtain⟨A0,n0,c0,rfl⟩:=okWide_slice Tryz.underlying22 (hval 0 22 v0 rfl rfl);obtain⟨fu0,hf0⟩:=h0;obtain⟨p0,⟨A0_,c0_,e0,s0⟩,k0⟩:=LU _ _ _ _ _ _ _ _ _ hf0 (DJ hw (j:=0) rfl rfl);obtain⟨rfl,rfl,rfl⟩:A0=A0_/\n0=p0.length/\c0=c0_:=by simpa[Value.cells] using e0
 obtain⟨cs1,rfl,_⟩:=okWide_struct Tryz.underlying24 (hval 1 24 v1 rfl rfl);obtain⟨fu1,hf1⟩:=h1;obtain⟨p1,e1,k1⟩:=LO _ _ _ _ _ _ _ _ _ hf1 (DJ hw (j:=1) rfl rfl);obtain rfl:cs1=(DKey.cells p1).toArray:=by rw[<-show cs1.toList=_ from e1]
 obtain⟨p2,rfl,rfl,rfl,k2⟩:=Gi Tryz.underlying9 (hval 2 9 v2 rfl rfl) h2;have k2_:p2.size<=reachBytes:=by have:=sized_string hw (j:=2) (t:=9) rfl rfl;simpa using this
 refine(rK FUEL p0 p1 p2 true (zA FUEL p0 p1 p2 k0 k1 k2 k2_) W _ _ s0).mono ?_;rintro e W' ⟨v,rfl,hb,hr⟩;obtain rfl:=jH _ _ _ hr;exact⟨rfl,hb⟩
set_option maxRecDepth 100000 in
theorem CJ (os:Os)(started:os.Started)(H:Type)(enc:TypeId×Value->H) :
 ReturnsInHanded {} Tryz.checked os 6 .any (Rows.storeLazySpec.pre6 enc Tryz.prog Tryz.f6 Rows.storeLazyRow.domain false) (Rows.storeLazySpec.post enc Tryz.prog Tryz.f6 false true false false) :=
 Ha (C:=Tryz.checked) (s:=Rows.storeLazySpec) (tb:=4) DW Kc started (by kernel_rfl) Tryz.func6
  (ChangeSpec.witness6 (enc:=enc) (C:=Tryz.checked) false ⟨#[],#[.slice none 0 0,.agg #[.int .i64 0,.int .i64 0,.int .i64 0],.string (ByteArray.mk #[])],[]⟩ 8 (by kernel_rfl) (by kernel_rfl) (by kernel_rfl) (by kernel_rfl))
  rfl rfl Tryz.underlying4 I6 (by intro t ht;rw[show Tryz.f6.params=_ from Tryz.params6] at ht;simp only[List.mem_cons,List.not_mem_nil,or_false] at ht;rcases ht with rfl|rfl|rfl <;> exact⟨by kernel_rfl,of_decide_eq_true (by kernel_rfl)⟩)
  (by
   intro ds hd;rw[show Tryz.f6.params=_ from Tryz.params6] at hd
   match ds,hd with
   |[x0,x1,x2],_=>exact⟨rfl,rfl,rfl⟩)
set_option maxRecDepth 100000 in
theorem storeLazy_holds:Rows.StoreLazySaid :=
 OpenClaim.holds_of_wide 6 Tryz.f6 rfl rfl rfl rfl rfl rfl rfl ⟨rfl,rfl,rfl,rfl,rfl⟩ rfl rfl rfl rfl rfl (by kernel_rfl) Tryz.func6 (show joinedFacts Tryz.prog 6 Tryz.f6 Rows.storeLazySpec Rows.storeLazyRow=true by unfold joinedFacts;rw[Hx,Hy,I7];kernel_rfl)
  (of_decide_eq_true (by kernel_rfl)) (by unfold Func.isWrapper;rw[if_neg (of_decide_eq_false (by kernel_rfl))];exact⟨rfl,rfl⟩)
  (λos started H enc _=>CJ os started H enc)
end
end Go.Proofs.YtnofgfobljadbaaGreat
