/- The statement StoreOwnSaid: whatever the input, the Go law StoreOwn returns true and leaves its arguments as they were.
 Its conditions: none. -/
import Derived.Test.YtnofgfobljadbaaGreatWStoreOwnLO
import Derived.Test.YtnofgfobljadbaaGreatOpenO
namespace Go.Proofs.YtnofgfobljadbaaGreat
set_option linter.unusedSimpArgs false
set_option linter.unusedVariables false
section
open Go.ChangeShapes Go.WideShapes Go.ChangeAt Go.RowKit
set_option maxRecDepth 100000 in
theorem DQ:Hc Tryz.prog 3 Tryz.f3:=by
 intro H enc W base args ds p hval hA hw;rw[Tryz.params3] at hA hval hw;obtain⟨l,rfl⟩:∃l:List Value,args=l.toArray:=⟨args.toList,by simp⟩;simp only[List.toList_toArray] at hA;obtain⟨v0,vs0,d0,ds0,q0,qs0,rfl,rfl,rfl,h0,r0⟩:=trodAll_cons hA;obtain⟨v1,vs1,d1,ds1,q1,qs1,rfl,rfl,rfl,h1,r1⟩:=trodAll_cons r0;obtain⟨rfl,rfl,rfl⟩:=trodAll_nil r1;obtain⟨A0,n0,c0,rfl⟩:=okWide_slice Tryz.underlying22 (hval 0 22 v0 rfl rfl);obtain⟨fu0,hf0⟩:=h0;obtain⟨p0,⟨A0_,c0_,e0,s0⟩,k0⟩:=K8 _ _ _ _ _ _ _ _ _ hf0 (Dr hw (j:=0) rfl rfl);obtain⟨rfl,rfl,rfl⟩:A0=A0_/\n0=p0.length/\c0=c0_:=by simpa[Value.cells] using e0
 obtain⟨cs1,rfl,_⟩:=okWide_struct Tryz.underlying24 (hval 1 24 v1 rfl rfl);obtain⟨fu1,hf1⟩:=h1;obtain⟨p1,e1,k1⟩:=K2 _ _ _ _ _ _ _ _ _ hf1 (Dr hw (j:=1) rfl rfl);obtain rfl:cs1=(DKey.cells p1).toArray:=by rw[<-show cs1.toList=_ from e1]
 refine(rn FUEL p0 p1 true (zD FUEL p0 p1 k0 k1) W _ _ s0).mono ?_;rintro e W' ⟨v,rfl,hb,hr⟩;obtain rfl:=kB _ _ _ hr;exact⟨rfl,hb⟩
set_option maxRecDepth 100000 in
theorem CN (os:Os)(started:os.Started)(H:Type)(enc:TypeId×Value->H) :
 ReturnsInHanded {} Tryz.checked os 3 .any (Rows.storeOwnSpec.pre6 enc Tryz.prog Tryz.f3 Rows.storeOwnRow.domain false) (Rows.storeOwnSpec.post enc Tryz.prog Tryz.f3 false true false false) :=
 GH (C:=Tryz.checked) (s:=Rows.storeOwnSpec) (tb:=4) DQ Jt started (by kernel_rfl) Tryz.func3
  (ChangeSpec.witness6 (enc:=enc) (C:=Tryz.checked) false ⟨#[],#[.slice none 0 0,.agg #[.int .i64 0,.int .i64 0,.int .i64 0]],[]⟩ 8 (by kernel_rfl) (by kernel_rfl) (by kernel_rfl) (by kernel_rfl))
  rfl rfl Tryz.underlying4 Ik (by intro t ht;rw[show Tryz.f3.params=_ from Tryz.params3] at ht;simp only[List.mem_cons,List.not_mem_nil,or_false] at ht;rcases ht with rfl|rfl <;> exact⟨by kernel_rfl,of_decide_eq_true (by kernel_rfl)⟩)
  (by
   intro ds hd;rw[show Tryz.f3.params=_ from Tryz.params3] at hd
   match ds,hd with
   |[x0,x1],_=>exact⟨rfl,rfl,rfl⟩)
set_option maxRecDepth 100000 in
theorem storeOwn_holds:Rows.StoreOwnSaid :=
 OpenClaim.holds_of_wide 3 Tryz.f3 rfl rfl rfl rfl rfl rfl rfl ⟨rfl,rfl,rfl,rfl,rfl⟩ rfl rfl rfl rfl rfl (by kernel_rfl) Tryz.func3 (show joinedFacts Tryz.prog 3 Tryz.f3 Rows.storeOwnSpec Rows.storeOwnRow=true by unfold joinedFacts;rw[GZ,G1,Il];kernel_rfl)
  (of_decide_eq_true (by kernel_rfl)) (by unfold Func.isWrapper;rw[if_neg (of_decide_eq_false (by kernel_rfl))];exact⟨rfl,rfl⟩)
  (λos started H enc _=>CN os started H enc)
end
end Go.Proofs.YtnofgfobljadbaaGreat
