/- The statement StoreAgainSaid: whatever the input, the Go law StoreAgain returns true and leaves its arguments as they were.
 Its conditions: none. -/
import Derived.Test.YtnofgfobljadbaaGreatOpenW
namespace Go.Proofs.YtnofgfobljadbaaGreat
set_option linter.unusedSimpArgs false
set_option linter.unusedVariables false
section
open Go.ChangeShapes Go.WideShapes Go.ChangeAt Go.RowKit
set_option maxRecDepth 100000 in
theorem De:HB Tryz.prog 7 Tryz.f7:=by
 intro H enc W base args ds p hval hA hw;rw[Tryz.params7] at hA hval hw;obtain⟨l,rfl⟩:∃l:List Value,args=l.toArray:=⟨args.toList,by simp⟩;simp only[List.toList_toArray] at hA;obtain⟨v0,vs0,d0,ds0,q0,qs0,rfl,rfl,rfl,h0,r0⟩:=trodAll_cons hA;obtain⟨v1,vs1,d1,ds1,q1,qs1,rfl,rfl,rfl,h1,r1⟩:=trodAll_cons r0;obtain⟨rfl,rfl,rfl⟩:=trodAll_nil r1;obtain⟨A0,n0,c0,rfl⟩:=okWide_slice Tryz.underlying22 (hval 0 22 v0 rfl rfl);obtain⟨fu0,hf0⟩:=h0;obtain⟨p0,⟨A0_,c0_,e0,s0⟩,k0⟩:=LL _ _ _ _ _ _ _ _ _ hf0 (DO hw (j:=0) rfl rfl);obtain⟨rfl,rfl,rfl⟩:A0=A0_/\n0=p0.length/\c0=c0_:=by simpa[Value.cells] using e0
 obtain⟨A1,n1,c1,rfl⟩:=okWide_slice Tryz.underlying66 (hval 1 66 v1 rfl rfl);obtain⟨fu1,hf1⟩:=h1;obtain⟨p1,⟨A1_,c1_,e1,s1⟩,k1⟩:=LP _ _ _ _ _ _ _ _ _ hf1 (DO hw (j:=1) rfl rfl);obtain⟨rfl,rfl,rfl⟩:A1=A1_/\n1=p1.length/\c1=c1_:=by simpa[Value.cells] using e1
 refine(ro FUEL p0 p1 true (zr FUEL p0 p1 k0 k1) W _ _ s0 _ _ s1).mono ?_;rintro e W' ⟨v,rfl,hb,hr⟩;obtain rfl:=jH _ _ _ hr;exact⟨rfl,hb⟩
set_option maxRecDepth 100000 in
theorem Cs (os:Os)(started:os.Started)(H:Type)(enc:TypeId×Value->H) :
 ReturnsInHanded {} Tryz.checked os 7 .any (Rows.storeAgainSpec.pre6 enc Tryz.prog Tryz.f7 Rows.storeAgainRow.domain false) (Rows.storeAgainSpec.post enc Tryz.prog Tryz.f7 false true false false) :=
 G3 (C:=Tryz.checked) (s:=Rows.storeAgainSpec) (tb:=4) De J4 started (by kernel_rfl) Tryz.func7
  (ChangeSpec.witness6 (enc:=enc) (C:=Tryz.checked) false ⟨#[],#[.slice none 0 0,.slice none 0 0],[]⟩ 8 (by kernel_rfl) (by kernel_rfl) (by kernel_rfl) (by kernel_rfl))
  rfl rfl Tryz.underlying4 IU (by intro t ht;rw[show Tryz.f7.params=_ from Tryz.params7] at ht;simp only[List.mem_cons,List.not_mem_nil,or_false] at ht;rcases ht with rfl|rfl <;> exact⟨by kernel_rfl,of_decide_eq_true (by kernel_rfl)⟩)
  (by
   intro ds hd;rw[show Tryz.f7.params=_ from Tryz.params7] at hd
   match ds,hd with
   |[x0,x1],_=>exact⟨rfl,rfl,rfl⟩)
set_option maxRecDepth 100000 in
theorem storeAgain_holds:Rows.StoreAgainSaid :=
 OpenClaim.holds_of_wide 7 Tryz.f7 rfl rfl rfl rfl rfl rfl rfl ⟨rfl,rfl,rfl,rfl,rfl⟩ rfl rfl rfl rfl rfl (by kernel_rfl) Tryz.func7 (show joinedFacts Tryz.prog 7 Tryz.f7 Rows.storeAgainSpec Rows.storeAgainRow=true by unfold joinedFacts;rw[Ho,Hq,IV];kernel_rfl)
  (of_decide_eq_true (by kernel_rfl)) (by unfold Func.isWrapper;rw[if_neg (of_decide_eq_false (by kernel_rfl))];exact⟨rfl,rfl⟩)
  (λos started H enc _=>Cs os started H enc)
end
end Go.Proofs.YtnofgfobljadbaaGreat
