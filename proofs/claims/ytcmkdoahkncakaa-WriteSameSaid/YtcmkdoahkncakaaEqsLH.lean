/- The Go functions of group Eqs compute its pure functions, where these yield a result. -/
import Derived.Test.YtcmkdoahkncakaaShAH
import Derived.Test.YtcmkdoahkncakaaKeyLH
import Derived.Test.YtcmkdoahkncakaaEqsFH
import Derived.Test.YtcmkdoahkncakaaEqLH
namespace Go.Proofs.Ytcmkdoahkncakaa
open IntKind (i64)
set_option maxRecDepth 100000
set_option maxHeartbeats 4000000
set_option linter.unusedVariables false
theorem yp (F:Nat) (n:(List DElem)) (t:(List DElem)) (r:Bool) (p:xJ F n t=some r) (w:World) (v:Option Addr) (y:Nat) (D:vc (vw w) eElem v y n) (x:Option Addr) (z:Nat) (G:vc (vw w) eElem x z t) :
 Calls Try.prog 18 #[.slice v n.length y,.slice x t.length z] w (xF (vSc eBool) r w):=by
 unfold xJ at p;refine T.wC (l:=[sl v n y,sl x t z]) Try.func18 rfl rfl rfl ?_;refine T.sr (T.k (.bool false) (T.uX (T.vd (T.sr (T.k5 (sl v n y) (vi (n.length:Int)) (sl x t z) (vi (t.length:Int)) (.bool ((n.length:Int) != (t.length:Int))) (T.uX ?_))))));revert p;refine T.c (fun J p=>?_) (fun J p=>?_);refine T.sr (T.k (.bool false) (T.uX ?_));cases p;refine T.vD rfl ?_;exact T.vH rfl (rT rfl) fun d b=>⟨_,rfl,b.below,(show _ from rfl)⟩
 refine T.uZ (T.vd (T.sr (T.k3 (sl v n y) (vi (n.length:Int)) (vi 0) (T.uX ?_))));obtain⟨R,Q,p⟩:=ob p;refine T.wP (fun a d=>R=Sum.inl ()∧Fr 26 [] a∧Hp w (vw w) [] d) ?_ ?_;refine T.vI ?_;refine T.wK (fun o a d=>Fr 26 [(0,sl v n y),(1,sl x t z),(12,vi (n.length:Int)),(13,vi o)] a∧Hp w (vw w) [] d) Q ?_ ?_;exact fun a d q b=>⟨(Fr.s q),(b.sub List.Sublist.slnil)⟩;rintro o S m C a d ⟨q,b⟩;revert q b;refine T.i ?_;(try dsimp only at m)
 refine T.sr (T.k (.bool (decide (o < (n.length:Int)))) (T.uX (T.vd ?_)));revert m;refine T.c (fun K m=>?_) (fun K m=>?_);refine T.uZ (T.vd (T.vI (T.sr (T.k2 (vi o) (vi o) (T.uX (T.vd ?_))))));refine T.xg (by kernel_rfl) (by kernel_rfl) ?_;refine TQ.k (sl v n y) (TQ.k (vi o) ?_);obtain⟨f,H,m⟩:=ob m;obtain⟨M,N,A⟩:=vn H
 refine TQ.l (.pointer (some ((vT v).add (o.toNat * 6)))) (fun d b=>vf (e:=28) (s:=6) rfl rfl rfl (by kernel_rfl) (by kernel_rfl) M N (D.some_ A (by decide))) (TQ.l (.agg #[vi f.key.pfs,vi f.key.obj,vi f.key.off,vi f.made,vi f.gone,.string f.val]) (fun d b=>vC (cs:=[vi f.key.pfs,vi f.key.obj,vi f.key.off,vi f.made,vi f.gone,.string f.val]) rfl rfl (by kernel_rfl) (by kernel_rfl) (fun j u hj=>(b.cell_view (vc.cellF (E:=eElem) D A j (fun _ _ _ h=>h) hj)))) (TQ.k (sl x t z) (TQ.k (vi o) ?_)))
 obtain⟨g,I,m⟩:=ob m;obtain⟨O,P,B⟩:=vn I
 refine TQ.l (.pointer (some ((vT x).add (o.toNat * 6)))) (fun d b=>vf (e:=28) (s:=6) rfl rfl rfl (by kernel_rfl) (by kernel_rfl) O P (G.some_ B (by decide))) (TQ.l (.agg #[vi g.key.pfs,vi g.key.obj,vi g.key.off,vi g.made,vi g.gone,.string g.val]) (fun d b=>vC (cs:=[vi g.key.pfs,vi g.key.obj,vi g.key.off,vi g.made,vi g.gone,.string g.val]) rfl rfl (by kernel_rfl) (by kernel_rfl) (fun j u hj=>(b.cell_view (vc.cellF (E:=eElem) G B j (fun _ _ _ h=>h) hj)))) (TQ.l (.bool (!(f == g))) (fun d b=>AP f g d rfl rfl rfl) ?_))
 refine TQ.w6 ?_;revert m;refine T.c (fun L m=>?_) (fun L m=>?_);refine T.sr (T.k (.bool false) (T.uX ?_));cases m;cases (C _ rfl);(try dsimp only at p);cases p;refine T.vD rfl ?_;exact T.vH rfl (rT rfl) fun d b=>⟨_,rfl,b.below,(show _ from rfl)⟩;refine T.uZ (T.vb (T.k2 (vi (i64.wrap (o + 1))) (vi (i64.wrap (o + 1))) (T.uX ?_)));cases m;exact fun a d q b=>⟨(i64.wrap (o + 1)),rfl,(Fr.s q),(b.sub List.Sublist.slnil)⟩;refine T.wl ?_;cases m;cases (C _ rfl);exact fun a d q b=>⟨rfl,(Fr.nil q),(b.sub List.Sublist.slnil)⟩
 rintro a d ⟨rfl,q,b⟩;(try dsimp only at p);revert q b;refine T.i ?_;refine T.sr (T.k (.bool true) (T.uX ?_));cases p;refine T.vD rfl ?_;exact T.vH rfl (rT rfl) fun d b=>⟨_,rfl,b.below,(show _ from rfl)⟩
end Go.Proofs.Ytcmkdoahkncakaa
