/- The Go functions of group Eqs compute the pure functions of that group: written by walkgen.py. Condition of each: the pure function yields a result. -/
import Derived.Test.YtcmkdoahkncakaaShAG
import Derived.Test.YtcmkdoahkncakaaKeyLG
import Derived.Test.YtcmkdoahkncakaaEqsFG
import Derived.Test.YtcmkdoahkncakaaEqLG
namespace Go.Proofs.Ytcmkdoahkncakaa
open IntKind (i64)
set_option maxRecDepth 100000
set_option maxHeartbeats 4000000
set_option linter.unusedVariables false
theorem uR (F:Nat) (n:(List DElem)) (t:(List DElem)) (r:Bool) (p:ui F n t=some r) (w:World) (v:Option Addr) (y:Nat) (D:pT (vw w) eElem v y n) (x:Option Addr) (z:Nat) (G:pT (vw w) eElem x z t) :
 Calls Try.prog 18 #[.slice v n.length y,.slice x t.length z] w (uF (vSc eBool) r w):=by
 unfold ui at p;refine T.tz (l:=[sl v n y,sl x t z]) Try.func18 rfl rfl rfl ?_;refine T.sr (T.k (.bool false) (T.pN (T.pV (T.sr (T.k5 (sl v n y) (vi (n.length:Int)) (sl x t z) (vi (t.length:Int)) (.bool ((n.length:Int) != (t.length:Int))) (T.pN ?_))))));revert p;refine T.c (fun J p=>?_) (fun J p=>?_);refine T.sr (T.k (.bool false) (T.pN ?_));cases p;refine T.rW rfl ?_;exact T.rH rfl (rT rfl) fun d b=>⟨_,rfl,b.below,(show _ from rfl)⟩
 refine T.pQ (T.pV (T.sr (T.k3 (sl v n y) (vi (n.length:Int)) (vi 0) (T.pN ?_))));obtain⟨R,Q,p⟩:=ob p;refine T.tB (fun a d=>R=Sum.inl ()∧Fr 26 [] a∧Hp w (vw w) [] d) ?_ ?_;refine T.rY ?_;refine T.tD (fun o a d=>Fr 26 [(0,sl v n y),(1,sl x t z),(12,vi (n.length:Int)),(13,vi o)] a∧Hp w (vw w) [] d) Q ?_ ?_;exact fun a d q b=>⟨(Fr.s q),(b.sub List.Sublist.slnil)⟩;rintro o S m C a d ⟨q,b⟩;revert q b;refine T.i ?_;(try dsimp only at m)
 refine T.sr (T.k (.bool (decide (o < (n.length:Int)))) (T.pN (T.pV ?_)));revert m;refine T.c (fun K m=>?_) (fun K m=>?_);refine T.pQ (T.pV (T.rY (T.sr (T.k2 (vi o) (vi o) (T.pN (T.pV ?_))))));refine T.uu (by kernel_rfl) (by kernel_rfl) ?_;refine TQ.k (sl v n y) (TQ.k (vi o) ?_);obtain⟨f,H,m⟩:=ob m;obtain⟨M,N,A⟩:=rV H
 refine TQ.l (.pointer (some ((sD v).add (o.toNat * 6)))) (fun d b=>rt (e:=28) (s:=6) rfl rfl rfl (by kernel_rfl) (by kernel_rfl) M N (D.some_ A (by decide))) (TQ.l (.agg #[vi f.key.pfs,vi f.key.obj,vi f.key.off,vi f.made,vi f.gone,.string f.val]) (fun d b=>rz (cs:=[vi f.key.pfs,vi f.key.obj,vi f.key.off,vi f.made,vi f.gone,.string f.val]) rfl rfl (by kernel_rfl) (by kernel_rfl) (fun j u hj=>(b.cell_view (pT.cellF (E:=eElem) D A j (fun _ _ _ h=>h) hj)))) (TQ.k (sl x t z) (TQ.k (vi o) ?_)))
 obtain⟨g,I,m⟩:=ob m;obtain⟨O,P,B⟩:=rV I
 refine TQ.l (.pointer (some ((sD x).add (o.toNat * 6)))) (fun d b=>rt (e:=28) (s:=6) rfl rfl rfl (by kernel_rfl) (by kernel_rfl) O P (G.some_ B (by decide))) (TQ.l (.agg #[vi g.key.pfs,vi g.key.obj,vi g.key.off,vi g.made,vi g.gone,.string g.val]) (fun d b=>rz (cs:=[vi g.key.pfs,vi g.key.obj,vi g.key.off,vi g.made,vi g.gone,.string g.val]) rfl rfl (by kernel_rfl) (by kernel_rfl) (fun j u hj=>(b.cell_view (pT.cellF (E:=eElem) G B j (fun _ _ _ h=>h) hj)))) (TQ.l (.bool (!(f == g))) (fun d b=>xf f g d rfl rfl rfl) ?_))
 refine TQ.um ?_;revert m;refine T.c (fun L m=>?_) (fun L m=>?_);refine T.sr (T.k (.bool false) (T.pN ?_));cases m;cases (C _ rfl);(try dsimp only at p);cases p;refine T.rW rfl ?_;exact T.rH rfl (rT rfl) fun d b=>⟨_,rfl,b.below,(show _ from rfl)⟩;refine T.pQ (T.pU (T.k2 (vi (i64.wrap (o + 1))) (vi (i64.wrap (o + 1))) (T.pN ?_)));cases m;exact fun a d q b=>⟨(i64.wrap (o + 1)),rfl,(Fr.s q),(b.sub List.Sublist.slnil)⟩;refine T.tf ?_;cases m;cases (C _ rfl);exact fun a d q b=>⟨rfl,(Fr.nil q),(b.sub List.Sublist.slnil)⟩
 rintro a d ⟨rfl,q,b⟩;(try dsimp only at p);revert q b;refine T.i ?_;refine T.sr (T.k (.bool true) (T.pN ?_));cases p;refine T.rW rfl ?_;exact T.rH rfl (rT rfl) fun d b=>⟨_,rfl,b.below,(show _ from rfl)⟩
end Go.Proofs.Ytcmkdoahkncakaa
