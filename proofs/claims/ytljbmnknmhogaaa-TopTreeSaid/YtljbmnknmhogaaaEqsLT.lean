/- The Go functions of group Eqs compute its pure functions, where these yield a result. -/
import Derived.Test.YtljbmnknmhogaaaShAT
import Derived.Test.YtljbmnknmhogaaaKeyLT
import Derived.Test.YtljbmnknmhogaaaEqsFT
import Derived.Test.YtljbmnknmhogaaaEqLT
namespace Go.Proofs.Ytljbmnknmhogaaa
open IntKind (i64)
set_option maxRecDepth 100000
set_option maxHeartbeats 4000000
set_option linter.unusedVariables false
theorem lj (F:Nat) (g:(List DElem)) (p:(List DElem)) (r:Bool) (n:kz F g p=some r) (w:World) (q:Option Addr) (y:Nat) (D:ib (vw w) eElem q y g) (x:Option Addr) (z:Nat) (G:ib (vw w) eElem x z p) :
 Calls Try.prog 17 #[.slice q g.length y,.slice x p.length z] w (jZ (vSc eBool) r w):=by
 unfold kz at n;refine T.i9 (l:=[sl q g y,sl x p z]) Try.func17 rfl rfl rfl ?_;refine T.sr (T.k (.bool false) (T.gO (T.ie (T.sr (T.k5 (sl q g y) (vi (g.length:Int)) (sl x p z) (vi (p.length:Int)) (.bool ((g.length:Int) != (p.length:Int))) (T.gO ?_))))));revert n;refine T.c (fun J n=>?_) (fun J n=>?_);refine T.sr (T.k (.bool false) (T.gO ?_));cases n;refine T.ik rfl ?_;exact T.ir rfl (rT rfl) fun d b=>⟨_,rfl,b.below,(show _ from rfl)⟩
 refine T.hJ (T.ie (T.sr (T.k3 (sl q g y) (vi (g.length:Int)) (vi 0) (T.gO ?_))));obtain⟨R,Q,n⟩:=ob n;refine T.jw (fun a d=>R=Sum.inl ()∧Fr 26 [] a∧Hp w (vw w) [] d) ?_ ?_;refine T.im ?_;refine T.jl (fun m a d=>Fr 26 [(0,sl q g y),(1,sl x p z),(12,vi (g.length:Int)),(13,vi m)] a∧Hp w (vw w) [] d) Q ?_ ?_;exact fun a d o b=>⟨(Fr.s o),(b.sub List.Sublist.slnil)⟩;rintro m S f C a d ⟨o,b⟩;revert o b;refine T.i ?_;(try dsimp only at f)
 refine T.sr (T.k (.bool (decide (m < (g.length:Int)))) (T.gO (T.ie ?_)));revert f;refine T.c (fun K f=>?_) (fun K f=>?_);refine T.hJ (T.ie (T.im (T.sr (T.k2 (vi m) (vi m) (T.gO (T.ie ?_))))));refine T.j6 (by kernel_rfl) (by kernel_rfl) ?_;refine TQ.k (sl q g y) (TQ.k (vi m) ?_);obtain⟨t,H,f⟩:=ob f;obtain⟨M,N,A⟩:=ij H
 refine TQ.l (.pointer (some ((iI q).add (m.toNat * 6)))) (fun d b=>ig (e:=47) (s:=6) rfl rfl rfl (by kernel_rfl) (by kernel_rfl) M N (D.some_ A (by decide))) (TQ.l (.agg #[vi t.key.pfs,vi t.key.obj,vi t.key.off,vi t.made,vi t.gone,.string t.val]) (fun d b=>lN (fun j u hj=>(b.cell_view (ib.cellF (E:=eElem) D A j (fun _ _ _ h=>h) hj)))) (TQ.k (sl x p z) (TQ.k (vi m) ?_)));obtain⟨v,I,f⟩:=ob f;obtain⟨O,P,B⟩:=ij I
 refine TQ.l (.pointer (some ((iI x).add (m.toNat * 6)))) (fun d b=>ig (e:=47) (s:=6) rfl rfl rfl (by kernel_rfl) (by kernel_rfl) O P (G.some_ B (by decide))) (TQ.l (.agg #[vi v.key.pfs,vi v.key.obj,vi v.key.off,vi v.made,vi v.gone,.string v.val]) (fun d b=>lN (fun j u hj=>(b.cell_view (ib.cellF (E:=eElem) G B j (fun _ _ _ h=>h) hj)))) (TQ.l (.bool (!(t == v))) (fun d b=>mA t v d rfl rfl rfl) ?_));refine TQ.jN ?_;revert f;refine T.c (fun L f=>?_) (fun L f=>?_)
 refine T.sr (T.k (.bool false) (T.gO ?_));cases f;cases (C _ rfl);(try dsimp only at n);cases n;refine T.ik rfl ?_;exact T.ir rfl (rT rfl) fun d b=>⟨_,rfl,b.below,(show _ from rfl)⟩;refine T.hJ (T.ia (T.k2 (vi (i64.wrap (m + 1))) (vi (i64.wrap (m + 1))) (T.gO ?_)));cases f;exact fun a d o b=>⟨(i64.wrap (m + 1)),rfl,(Fr.s o),(b.sub List.Sublist.slnil)⟩;refine T.iO ?_;cases f;cases (C _ rfl);exact fun a d o b=>⟨rfl,(Fr.nil o),(b.sub List.Sublist.slnil)⟩;rintro a d ⟨rfl,o,b⟩;(try dsimp only at n);revert o b;refine T.i ?_
 refine T.sr (T.k (.bool true) (T.gO ?_));cases n;refine T.ik rfl ?_;exact T.ir rfl (rT rfl) fun d b=>⟨_,rfl,b.below,(show _ from rfl)⟩
end Go.Proofs.Ytljbmnknmhogaaa
