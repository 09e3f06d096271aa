/- What the law TreeOwn asks for. Its conditions: none. -/
import Derived.Test.YtfbpiogbhkgieaaGreatKeyFL
import Derived.Test.YtfbpiogbhkgieaaGreatRecL
import Derived.Test.YtfbpiogbhkgieaaGreatKeyLL
import Derived.Test.YtfbpiogbhkgieaaGreatEqLL
import Derived.Test.YtfbpiogbhkgieaaGreatBuildFL
import Derived.Test.YtfbpiogbhkgieaaGreatTreeOL
import Derived.Test.YtfbpiogbhkgieaaGreatShAL
import Derived.Test.YtfbpiogbhkgieaaGreatBuildLL
import Derived.Test.YtfbpiogbhkgieaaGreatGrowILL
import Derived.Test.YtfbpiogbhkgieaaGreatFindSFL
import Derived.Test.YtfbpiogbhkgieaaGreatRunFL
import Derived.Test.YtfbpiogbhkgieaaGreatWrPFL
import Derived.Test.YtfbpiogbhkgieaaGreatWrCFL
import Derived.Test.YtfbpiogbhkgieaaGreatPruneFL
import Derived.Test.YtfbpiogbhkgieaaGreatStepFL
import Derived.Test.YtfbpiogbhkgieaaGreatTrFL
namespace Go.Proofs.YtfbpiogbhkgieaaGreat
set_option linter.unusedVariables false
def m6 (p0:DElem) : Option (DSpot) :=
 some (DSpot.mk p0.key p0.made)
end Go.Proofs.YtfbpiogbhkgieaaGreat
namespace Go.Proofs.YtfbpiogbhkgieaaGreat
open IntKind (i64)
set_option maxRecDepth 100000
set_option maxHeartbeats 4000000
set_option linter.unusedVariables false
theorem mu (a:DElem) (r:DSpot) (f:m6 a=some r) (w:World)  :
 Calls Tryz.prog 8 #[.agg #[.int .i64 a.key.pfs,.int .i64 a.key.obj,.int .i64 a.key.off,.int .i64 a.made,.int .i64 a.gone,.string a.val]] w (ko (vAg eSpot) r w):=by
 unfold m6 at f;refine T.iV (l:=[.agg #[.int .i64 a.key.pfs,.int .i64 a.key.obj,.int .i64 a.key.off,.int .i64 a.made,.int .i64 a.gone,.string a.val]]) Tryz.func8 rfl rfl rfl ?_;refine T.gR (T.gQ (T.gO (W1.nw 28 [.int .i64 a.key.pfs,.int .i64 a.key.obj,.int .i64 a.key.off,.int .i64 a.made,.int .i64 a.gone,.string a.val] (fun b=>.pointer (some ⟨b,0,none⟩)) (fun d=>(T.gO (W1.nw 36 [.int .i64 0,.int .i64 0,.int .i64 0,.int .i64 0] (fun b=>.pointer (some ⟨b,0,none⟩)) (fun g=>(T.gN (T.gR (T.gQ ?_))))))))))
 refine T.pI (.pointer (some ⟨d,0,none⟩)) (by kernel_rfl) (fun _=>by kernel_rfl) (T.l (.agg #[.int .i64 a.key.pfs,.int .i64 a.key.obj,.int .i64 a.key.off]) (fun e c=>lN (fun j u hj=>(c.box_at (i:=1) (cs:=[.int .i64 a.key.pfs,.int .i64 a.key.obj,.int .i64 a.key.off,.int .i64 a.made,.int .i64 a.gone,.string a.val]) (by rfl) 0 j).trans (qP (n:=3) (by rfl) hj))) ?_)
 refine T.pI (.pointer (some ⟨d,3,none⟩)) (by kernel_rfl) (fun _=>by kernel_rfl) (T.l (.int .i64 a.made) (fun e c=>iB rfl rfl (by kernel_rfl) (c.cellBox (i:=1) (by rfl) 3)) ?_)
 refine T.pI (.agg #[.int .i64 a.key.pfs,.int .i64 a.key.obj,.int .i64 a.key.off,.int .i64 a.made]) (by kernel_rfl) (fun _=>by kernel_rfl) (T.gO (W1.pY 0 [.int .i64 a.key.pfs,.int .i64 a.key.obj,.int .i64 a.key.off,.int .i64 a.made] [box g 36 [.int .i64 a.key.pfs,.int .i64 a.key.obj,.int .i64 a.key.off,.int .i64 a.made],box d 28 [.int .i64 a.key.pfs,.int .i64 a.key.obj,.int .i64 a.key.off,.int .i64 a.made,.int .i64 a.gone,.string a.val]] (by rfl) rfl (by kernel_rfl) (fun e hw=>oT (vs:=[.int .i64 a.key.pfs,.int .i64 a.key.obj,.int .i64 a.key.off,.int .i64 a.made]) rfl rfl rfl rfl (by kernel_rfl) (jJ rfl) (by simp) rfl hw) (T.gN ?_)))
 cases f;refine T.ii rfl ?_;exact T.ik rfl (rN 0) fun e c=>⟨_,rfl,c.below,(vAg.mk rfl)⟩
end Go.Proofs.YtfbpiogbhkgieaaGreat
namespace Go.Proofs.YtfbpiogbhkgieaaGreat
set_option linter.unusedVariables false
def mj (F:Nat) (p0:(List DElem)) : Option (DTree) :=
 (nC F p0).bind fun r1 =>
 (mW (r1.1.nodes.map Sum.inr)).bind fun l1 =>
 some (DTree.mk r1.1.root l1)
end Go.Proofs.YtfbpiogbhkgieaaGreat
namespace Go.Proofs.YtfbpiogbhkgieaaGreat
open IntKind (i64)
set_option maxRecDepth 100000
set_option maxHeartbeats 4000000
set_option linter.unusedVariables false
theorem oM (F:Nat) (e:(List DElem)) (r:DTree) (i:mj F e=some r) (w:World) (f:Option Addr) (g:Nat) (E:ia (vw w) eElem f g e) :
 Calls Tryz.prog 17 #[.slice f e.length g] w (qT (TreeTy.mk 28 3 36) 55 r w):=by
 unfold mj at i;refine T.iV (l:=[sl f e g]) Tryz.func17 rfl rfl rfl ?_;refine T.sr ?_;let q:=[vi 0,sN];refine T.gO (W1.np 24 q (fun s=>(T.gN (T.sr (T.k (sl f e g) ?_)))));obtain⟨b,C,i⟩:=ob i
 refine T.gO (W1.jO 36 #[sl f e g] (fun p:Option Addr × Nat × List DHdr=>.tuple #[.agg #[vi b.1.root,sl p.1 p.2.2 p.2.1],vi b.2]) (fun p=>((row 55 eHdr p.1 p.2.1 p.2.2)::(il (TreeTy.mk 28 3 36) p.2.2 (b.1.nodes.map Sum.inr))::[])) (fun p=>p.2.2.length=b.1.nodes.length) (by kernel_rfl) (fun _=>by kernel_rfl) (fun A m=>oN F e b C A f g (ia.mono E m.view)) ?_);rintro⟨c,d,a⟩ H;let n:=il (TreeTy.mk 28 3 36) a (b.1.nodes.map Sum.inr);let v:=box s 24 q
 refine T.iH (H':=((row 55 eHdr c d a)::n::v::[])) (by rfl) ?_;refine T.k3 (.tuple #[.agg #[vi b.1.root,sl c a d],vi b.2]) (.agg #[vi b.1.root,sl c a d]) (vi b.2) (T.gO (W1.np 24 q (fun B=>?_)));let j:=[vi b.1.root,sl c a d];let o:=box B 24 j;refine T.gO (W1.st 0 j (o::(row 55 eHdr c d a)::n::v::[]) j (T.k (vi b.2) (T.gN (T.sr (T.l (.agg #[vi b.1.root,sl c a d]) (ldN 0) ?_)))));let x:=box s 24 j;refine T.gO (W1.st 3 j (o::(row 55 eHdr c d a)::n::x::[]) j (T.gN ?_))
 obtain⟨z,t,i⟩:=ob i;refine T.iL 2 (by rfl) (fun G=>?_);have D:a.length=z.length:=by have:=G.len;rwa [jd t,List.length_map] at this
 let y:=il (TreeTy.mk 28 3 36) a (z.map Sum.inr);refine T.iH (H':=(o::(row 55 eHdr c d a)::y::x::[])) (by simp +zetaDelta only [sl,jd t]) ?_;cases i;refine T.ii rfl ?_;exact T.ik rfl (rN 3) fun A m=>⟨(c,d,a),rfl,D,iP (X:=((row 55 eHdr c d a)::y::[])) (m.u) ⟨iG (fun _ _ _ _ h=>h),iO _ _ _,trivial⟩⟩
end Go.Proofs.YtfbpiogbhkgieaaGreat
namespace Go.Proofs.YtfbpiogbhkgieaaGreat
set_option linter.unusedVariables false
def rH:DElem:=DElem.mk (DKey.mk 0 0 1) 1 0 (ByteArray.mk #[97])
def lO (F:Nat) (p0:DTree) (p1:DElem) (p2:List Int) : Option Bool :=
 (mE F p0 p1).bind fun r1 =>
 (oU F p0 p1).bind fun r2 =>
 (lY F p0 (DSpot.mk p1.key p1.made)).bind fun r3 =>
 (oa F p0 p1.key p1.val p1.made).bind fun r4 =>
 (nZ F p0 p1.key p1.made).bind fun r5 =>
 (ni F p0).bind fun r6 =>
 (nq F p0 p2 3).bind fun r7 =>
 (mj F [rH]).bind fun r8 =>
 (mL F r8).bind fun r9 =>
 bif qV F p0 && [r1.1,r2.1,r3.1,r4.1,r5.1,r6.1,r7.1].all (qV F) && (r9.2 == 0) && ((r9.1.length:Int) == 1) then some true else none
theorem rI {b:Bool} {r:Bool} (h:(bif b then some true else none)=some r) : b=true∧r=true:=by
 cases b with
 | true=>exact ⟨rfl,(Option.some.inj h).symm⟩
 | false=>cases h
end Go.Proofs.YtfbpiogbhkgieaaGreat
