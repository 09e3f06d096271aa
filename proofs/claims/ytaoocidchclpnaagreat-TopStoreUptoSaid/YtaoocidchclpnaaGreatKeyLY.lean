/- The Go functions of group Key compute its pure functions, where these yield a result. -/
import Derived.Test.YtaoocidchclpnaaGreatZY
import Derived.Test.YtaoocidchclpnaaGreatShAY
import Derived.Test.YtaoocidchclpnaaGreatEqLY
open Bool renaming noConfusion→a_
namespace Go.Proofs.YtaoocidchclpnaaGreat
open IntKind (i64)
set_option maxRecDepth 100000
set_option maxHeartbeats 4000000
set_option linter.unusedVariables false
theorem mq (b:Int) (d:Int) (r:Int) (a:lQ b d=some r) (w:World)  :
 Calls Tryz.prog 93 #[.int .i64 b,.int .i64 d] w (jB (vSc hO) r w):=by
 unfold lQ at a;refine T.iA (l:=[vi b,vi d]) Tryz.func93 rfl rfl rfl ?_;refine au4 ?_;revert a;refine T.c (fun e a=>?_) (fun e a=>?_);refine au1 ?_;cases a;exact il;refine au1 ?_;revert a;refine T.c (fun f a=>?_) (fun f a=>?_);refine au1 ?_;cases a;exact il;refine au1 ?_;cases a;exact il
theorem pc (b:DKey) (r:Int) (d:nF b=some r) (w:World)  :
 Calls Tryz.prog 53 #[.agg #[.int .i64 b.pfs,.int .i64 b.obj,.int .i64 b.off]] w (jB (vSc hO) r w):=by
 unfold nF at d;refine T.iA (l:=[.agg #[vi b.pfs,vi b.obj,vi b.off]]) Tryz.func53 rfl rfl rfl ?_;refine au1 ?_;refine T.N1 fun j=>?_;refine au0 ?_;refine T.ik ?_;refine T.iF (fun a e=>Fr 31 [(30,.bool ((decide (b.pfs < 0)) || ((decide ((15:Int) < b.pfs)) || ((decide (b.obj < 0)) || ((decide ((1048576:Int) < b.obj)) || ((decide (b.off < 0)) || (decide ((1073741824:Int) < b.off))))))))] a∧Hp w (vw w) [] e) ?_ ?_;refine au1 ?_;cases k:decide (b.pfs < 0);refine au0 ?_;cases m:decide ((15:Int) < b.pfs);refine au0 ?_
 cases n:decide (b.obj < 0);refine au0 ?_;cases o:decide ((1048576:Int) < b.obj);refine au0 ?_;cases p:decide (b.off < 0);refine au0 ?_;exact ie;refine au0 ?_;exact ie;refine au0 ?_;exact ie;refine au0 ?_;exact ie;refine au0 ?_;exact ie;refine au0 ?_;exact ie;rintro a e ⟨g,h⟩;revert g h;refine T.i ?_;revert d;refine T.c (fun f d=>?_) (fun f d=>?_);refine au1 ?_;cases d;exact il;refine au1 ?_;cases d;exact il
theorem sA (b:DKey) (d:DKey) (r:Int) (a:qy b d=some r) (w:World)  :
 Calls Tryz.prog 92 #[.agg #[.int .i64 b.pfs,.int .i64 b.obj,.int .i64 b.off],.agg #[.int .i64 d.pfs,.int .i64 d.obj,.int .i64 d.off]] w (jB (vSc hO) r w):=by
 unfold qy at a;refine T.iA (l:=[.agg #[vi b.pfs,vi b.obj,vi b.off],.agg #[vi d.pfs,vi d.obj,vi d.off]]) Tryz.func92 rfl rfl rfl ?_;refine au1 ?_;refine T.N1 fun y=>?_;refine T.N1 fun z=>?_;refine au3 ?_;refine T.qL 4 ?_;refine T.lE ?_;refine au1 ?_;refine T.ik (T.cb true (fun _=>?_) (fun h=>a_ h));refine au3 ?_;refine T.N1 fun A=>?_;refine au1 ?_;refine oc a fun i m a=>(T.ia (W1.w1 (vSc hO) i 93 #[vi b.pfs,vi d.pfs] (fun f g=>mq b.pfs d.pfs i m f) ?_));intro u t D e;obtain rfl:=ic _ _ _ e
 refine au1 ?_;revert a;refine T.c (fun p a=>?_) (fun p a=>?_);refine au1 ?_;cases a;exact il;refine au1 ?_;refine T.lE ?_;refine au1 ?_;refine T.ik (T.cb true (fun _=>?_) (fun h=>a_ h));refine au3 ?_;refine T.N1 fun B=>?_;refine au1 ?_;refine oc a fun j n a=>(T.ia (W1.w1 (vSc hO) j 93 #[vi b.obj,vi d.obj] (fun f g=>mq b.obj d.obj j n f) ?_));intro u v E e;obtain rfl:=ic _ _ _ e;refine au1 ?_;revert a;refine T.c (fun q a=>?_) (fun q a=>?_);refine au1 ?_;cases a;exact il;refine au1 ?_
 refine T.lE ?_;refine au1 ?_;refine T.ik (T.cb true (fun _=>?_) (fun h=>a_ h));refine au3 ?_;refine T.N1 fun C=>?_;refine au1 ?_;refine oc a fun k o a=>(T.ia (W1.w1 (vSc hO) k 93 #[vi b.off,vi d.off] (fun f g=>mq b.off d.off k o f) ?_));intro u x F e;obtain rfl:=ic _ _ _ e;refine au1 ?_;revert a;refine T.c (fun s a=>?_) (fun s a=>?_);refine au1 ?_;cases a;exact il;refine au1 ?_;refine T.lE ?_;refine au1 ?_;refine T.ik (T.cb false (fun h=>a_ h) (fun _=>?_));refine au1 ?_;cases a
 exact il
theorem jk (a:DSpot) (b:DSpot) (r:Int) (d:jp a b=some r) (w:World)  :
 Calls Tryz.prog 72 #[.agg #[.int .i64 a.key.pfs,.int .i64 a.key.obj,.int .i64 a.key.off,.int .i64 a.made],.agg #[.int .i64 b.key.pfs,.int .i64 b.key.obj,.int .i64 b.key.off,.int .i64 b.made]] w (jB (vSc hO) r w):=by
 unfold jp at d;refine T.iA (l:=[.agg #[vi a.key.pfs,vi a.key.obj,vi a.key.off,vi a.made],.agg #[vi b.key.pfs,vi b.key.obj,vi b.key.off,vi b.made]]) Tryz.func72 rfl rfl rfl ?_;refine au1 ?_;refine T.N1 fun p=>?_;refine T.N1 fun q=>?_;refine au2 ?_;refine oc d fun g i d=>(T.ia (W1.w1 (vSc hO) g 92 #[.agg #[vi a.key.pfs,vi a.key.obj,vi a.key.off],.agg #[vi b.key.pfs,vi b.key.obj,vi b.key.off]] (fun f m=>sA a.key b.key g i f) ?_));intro u n s e;obtain rfl:=ic _ _ _ e;refine au1 ?_;revert d
 refine T.c (fun k d=>?_) (fun k d=>?_);refine au1 ?_;cases d;exact il;refine au1 ?_;refine oc d fun h j d=>(T.ia (W1.w1 (vSc hO) h 93 #[vi a.made,vi b.made] (fun f m=>mq a.made b.made h j f) ?_));intro u o t e;obtain rfl:=ic _ _ _ e;refine au0 ?_;cases d;exact il
theorem jZ (b:DElem) (r:Int) (d:j7 b=some r) (w:World)  :
 Calls Tryz.prog 42 #[.agg #[.int .i64 b.key.pfs,.int .i64 b.key.obj,.int .i64 b.key.off,.int .i64 b.made,.int .i64 b.gone,.string b.val]] w (jB (vSc hO) r w):=by
 unfold j7 at d;refine T.iA (l:=[.agg #[vi b.key.pfs,vi b.key.obj,vi b.key.off,vi b.made,vi b.gone,.string b.val]]) Tryz.func42 rfl rfl rfl ?_;refine au1 ?_;refine T.N1 fun f=>?_;refine au2 ?_;refine oc d fun h k d=>(T.ia (W1.w1 (vSc hO) h 53 #[.agg #[vi b.key.pfs,vi b.key.obj,vi b.key.off]] (fun e g=>pc b.key h k e) ?_));intro u j t q;obtain rfl:=ic _ _ _ q;refine au1 ?_;revert d;refine T.c (fun m d=>?_) (fun m d=>?_);refine au1 ?_;cases d;exact il;refine au0 ?_;refine T.ik ?_
 let s:=box f 52 [vi b.key.pfs,vi b.key.obj,vi b.key.off,vi b.made,vi b.gone,.string b.val];refine T.iF (fun a e=>Fr 39 [(1,pB f 0),(34,.bool ((decide (b.made < 1)) || ((decide ((2147483647:Int) < b.made)) || ((b.gone != 0) && ((decide (b.gone≤b.made)) || (decide ((2147483647:Int) < b.gone)))))))] a∧Hp w j (s::[]) e) ?_ ?_;refine au1 ?_;cases v:decide (b.made < 1);refine au0 ?_;cases x:decide ((2147483647:Int) < b.made);refine au0 ?_;cases y:(b.gone != 0);refine au0 ?_;exact ie;refine au0 ?_;cases z:decide (b.gone≤b.made)
 refine au0 ?_;exact ie;refine au0 ?_;exact ie;refine au0 ?_;exact ie;refine au0 ?_;exact ie;rintro a e ⟨p,g⟩;revert p g;refine T.i ?_;revert d;refine T.c (fun n d=>?_) (fun n d=>?_);refine au1 ?_;cases d;exact il;refine au2 ?_;revert d;refine T.c (fun o d=>?_) (fun o d=>?_);refine au1 ?_;cases d;exact il;refine au1 ?_;cases d;exact il
theorem iM (a:DElem) (r:DSpot) (b:jf a=some r) (w:World)  :
 Calls Tryz.prog 55 #[.agg #[.int .i64 a.key.pfs,.int .i64 a.key.obj,.int .i64 a.key.off,.int .i64 a.made,.int .i64 a.gone,.string a.val]] w (jB (vAg eSpot) r w):=by
 unfold jf at b;refine T.iA (l:=[.agg #[vi a.key.pfs,vi a.key.obj,vi a.key.off,vi a.made,vi a.gone,.string a.val]]) Tryz.func55 rfl rfl rfl ?_;refine au1 ?_;refine T.N1 fun c=>?_;refine T.N1 fun d=>?_;refine au1 ?_;cases b;exact il
theorem oY (a:DElem) (r:Int) (b:nC a=some r) (w:World)  :
 Calls Tryz.prog 73 #[.agg #[.int .i64 a.key.pfs,.int .i64 a.key.obj,.int .i64 a.key.off,.int .i64 a.made,.int .i64 a.gone,.string a.val]] w (jB (vSc hO) r w):=by
 unfold nC at b;refine T.iA (l:=[.agg #[vi a.key.pfs,vi a.key.obj,vi a.key.off,vi a.made,vi a.gone,.string a.val]]) Tryz.func73 rfl rfl rfl ?_;refine au1 ?_;refine T.N1 fun c=>?_;refine au1 ?_;cases b;exact il
theorem kQ (b:Int) (c:Int) (r:Int) (a:ke b c=some r) (w:World)  :
 Calls Tryz.prog 6 #[.int .i64 b,.int .i64 c] w (jB (vSc hO) r w):=by
 unfold ke at a;refine T.iA (l:=[vi b,vi c]) Tryz.func6 rfl rfl rfl ?_;refine au2 ?_;refine oc a fun d e a=>(T.l (.int .u64 ((IntKind.u64.wrap b).tmod d)) (fun g f=>s9 rfl rfl rfl e) ?_);refine au0 ?_;cases a;exact il
end Go.Proofs.YtaoocidchclpnaaGreat
