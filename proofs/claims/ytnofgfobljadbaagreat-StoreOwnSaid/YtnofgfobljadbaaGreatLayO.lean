/- Go functions that change what they are handed: each walked once, whatever lies beside. Condition of each: the pure function yields a result. -/
import Derived.Test.YtnofgfobljadbaaGreatDiskPO
import Derived.Shelf.Sort.Plain
import Derived.Ground.Names2Prog
import Derived.Shelf.Slices.CompactI
import Derived.Shelf.Slices.In.SortNone
import Derived.Test.YtnofgfobljadbaaGreatProg
open ByteArray renaming mk→a_
open List renaming replicate→d_, length_set→f_
open Option renaming some→g_
namespace Go.Proofs.YtnofgfobljadbaaGreat
open IntKind (i64)
set_option linter.unusedSimpArgs false
set_option linter.unusedVariables false
set_option maxHeartbeats 4000000
set_option maxRecDepth 100000
theorem qw (F:Nat)  (r:(List ByteArray)×Int×(List DNode)) (b:oL F=some r) (w:World)   (V:View) (B:List HObj) (w1:World)  (c:Hp w V B w1) :
 Calls Tryz.prog 29 #[] w1 (λe w2=>∃v,e=.returned v/\∃J N X O Y H,View.le V H/\fI (made w H) iy O Y r.2.2/\v=.pointer (some ⟨J,0,none⟩)/\Hp w H ((box J 79 [.slice N r.1.length X,.slice none 0 0,.int .i64 r.2.1,.slice O r.2.2.length Y])::(row 9 eStr N X r.1)::B) w2):=by
 have b:oM F=some r:=b;unfold oM at b;have y:=c.base;refine T.iD (l:=[]) Tryz.func29 rfl rfl rfl ?_ c;clear c;refine au2 ?_;refine oc b λu1 al b=>?_;obtain⟨ti,aI,aJ,aK,aL⟩:=z9_;obtain⟨hb1_n,hb1_r,hb1_m⟩:=oa al;refine T.gj (W1.qM (E:=eStr) ((201:Int).toNat) ((a_ #[]):ByteArray) _ _ .i64 .i64 16 ti _ k_ rfl k_ aI aJ aK aL (congrArg (Value.int _) hb1_n.symm) (congrArg (Value.int _) hb1_n.symm) (λ_=>rfl) rfl hb1_r hb1_m (λg=>?_));refine au0 ?_;refine T.N1 λI=>?_;refine au1 ?_;refine oc b λo am b=>(T.gj (W1.w1 (vAg nU) o 60 #[] (λk c=>sL o am k) ?_));intro u V2 x n;obtain⟨aS,rfl,aC⟩:=lu n;obtain⟨A,K,rfl,M⟩:=aC;refine T.N1 λb2=>?_;refine au0 ?_;refine T.gD ?_;let C:=box b2 77 [vi o.root,sl A o.nodes K];refine T.iS (C::(box I 40 [sl g (d_ ((201:Int).toNat) ((a_ #[]):ByteArray)) ((201:Int).toNat),sN])::[]) k_ ?_;refine ta [0,1,2] ?_;refine TA.a [3] ⟨?_,trivial⟩;refine oc b λD an b=>(TA.br rfl (W1.w1 (vSc eStr) D 38 #[.agg #[vi o.root,sl A o.nodes K]] (λk c=>lR F o D an k A K (fI.mono (fI.mono M (iq _ _)) c.view)) ?_));intro u V3 m n;obtain rfl:=iO _ _ _ n;refine TA.on (Hp.q m (vt y x)) (TA.a [4] ⟨?_,trivial⟩);refine oc b λf ao b=>(TA.br rfl (W1.w1 (vT2 (vSc eStr) (vSc gi)) f 61 #[vi 0,.string D] (λk c=>pu F 0 D f ao k) ?_));intro u V4 t n;obtain rfl:=(jS.t2 iO gA) _ _ _ n;refine TA.on (Hp.q (vt m t) (vt y x)) ?_;refine ta [5,6,7] ?_;refine TA.a [8] ⟨?_,trivial⟩;refine oc b λe1 ap b=>?_;obtain⟨aw,ax,ad⟩:=gB ap
 refine TA.br rfl (W1.l (.pointer (some ((ij g).add (((0:Int).toNat) * 1)))) (iR 2 (e:=9) (s:=1) aw ax ad) (TA.on (Hp.q (vt m t) (vt y x)) (TA.j 9 rfl (W1.iu (E:=eStr) 2 ((0:Int).toNat) 0 e1 f.1 _ (vs:=[.string f.1]) b_ k_ rfl rfl (iI _).symm rfl rfl (λ_=>k_) (jf rfl) ad m_ (λ_ _ h=>by cases h;rfl) (TA.on (Hp.q (vt m t) (vt y x)) ?_)))));refine T.gC 3 (sl g ((d_ ((201:Int).toNat) ((a_ #[]):ByteArray)).set ((0:Int).toNat) f.1) ((201:Int).toNat)) rfl (by simp +zetaDelta only[sl,f_]) ?_;refine T.gC 4 (.agg #[sl g ((d_ ((201:Int).toNat) ((a_ #[]):ByteArray)).set ((0:Int).toNat) f.1) ((201:Int).toNat),sN]) rfl (by simp +zetaDelta only[sl,f_]) ?_;refine T.gC 8 (sl g ((d_ ((201:Int).toNat) ((a_ #[]):ByteArray)).set ((0:Int).toNat) f.1) ((201:Int).toNat)) rfl (by simp +zetaDelta only[sl,f_]) ?_;let ag:=box I 40 [sl g ((d_ ((201:Int).toNat) ((a_ #[]):ByteArray)).set ((0:Int).toNat) f.1) ((201:Int).toNat),sN]
 refine T.iA (H':=(C::ag::(row 9 eStr g ((201:Int).toNat) ((d_ ((201:Int).toNat) ((a_ #[]):ByteArray)).set ((0:Int).toNat) f.1))::B)) (by first|(simp +zetaDelta only[sl,f_];done)|(simp +zetaDelta only[sl,f_];rfl)) ?_;refine TA.d ?_;refine T.gD ?_;refine T.iS (C::ag::[]) k_ ?_;refine ta [0,1,2,3] ?_;refine oc b λp aq b=>?_;obtain⟨ay,az,ae⟩:=gB aq;obtain⟨aT,aD,av⟩:=fI.elem (fI.mono M (vt (iq _ _) (vt m t))) ae;obtain⟨Q,Z,R,c5,S,c6,U,c7,rfl,aE,aF,aG,aH⟩:=aD;have G:=vt (vt (vt y x) m) t;refine TA.mM (Hp.q vr G) λah=>?_;refine TA.tk 4 (.pointer (some ((ij A).add (((0:Int).toNat) * 5)))) rfl ah (λk c=>gk (e:=97) (s:=5) rfl rfl rfl k_ k_ ay az ((fI.mono M (vt (iq _ _) (vt m t))).some_ ae c_)) ?_;let W:Value:=.agg #[vi p.kind,sl Q p.elems Z,sl R p.kids c5,sl S p.seps c6,sl U p.tids c7];refine TA.tk 5 W rfl ah (λk c=>lN (λj u hj=>c.cell_view (View.cell_mono vr (av j u hj).2))) (TA.a [6] ⟨?_,trivial⟩);refine oc b λi ar b=>(TA.br rfl (W1.w1 (vT2 (vSc eStr) (vSc gi)) i 62 #[W] (λk c=>oF F p i ar k Q Z (fI.mono aE c.view) R c5 (fI.mono aF c.view) S c6 (fI.mono aG c.view) U c7 (fI.mono aH c.view)) ?_));intro u V5 L n;obtain rfl:=(jS.t2 iO gA) _ _ _ n;refine TA.on (Hp.q L G) ?_;refine ta [7,8,9] ?_;refine TA.a [10] ⟨?_,trivial⟩;refine oc b λe3 au b=>?_
 obtain⟨aA,aB,af⟩:=gB au;refine TA.br rfl (W1.l (.pointer (some ((ij g).add (((1:Int).toNat) * 1)))) (iR 2 (e:=9) (s:=1) aA aB af) (TA.on (Hp.q L G) (TA.j 11 rfl (W1.iu (E:=eStr) 2 ((1:Int).toNat) 0 e3 i.1 _ (vs:=[.string i.1]) b_ k_ rfl rfl (iI _).symm rfl rfl (λ_=>k_) (jf rfl) af m_ (λ_ _ h=>by cases h;rfl) (TA.on (Hp.q L G) ?_)))));refine T.gC 3 (sl g (((d_ ((201:Int).toNat) ((a_ #[]):ByteArray)).set ((0:Int).toNat) f.1).set ((1:Int).toNat) i.1) ((201:Int).toNat)) rfl (by simp +zetaDelta only[sl,f_]) ?_;refine T.gC 4 (.agg #[sl g (((d_ ((201:Int).toNat) ((a_ #[]):ByteArray)).set ((0:Int).toNat) f.1).set ((1:Int).toNat) i.1) ((201:Int).toNat),sN]) rfl (by simp +zetaDelta only[sl,f_]) ?_;refine T.gC 8 (sl g (((d_ ((201:Int).toNat) ((a_ #[]):ByteArray)).set ((0:Int).toNat) f.1).set ((1:Int).toNat) i.1) ((201:Int).toNat)) rfl (by simp +zetaDelta only[sl,f_]) ?_;refine T.gC 17 (sl g (((d_ ((201:Int).toNat) ((a_ #[]):ByteArray)).set ((0:Int).toNat) f.1).set ((1:Int).toNat) i.1) ((201:Int).toNat)) rfl (by simp +zetaDelta only[sl,f_]) ?_
 refine T.iA (H':=(C::(box I 40 [sl g (((d_ ((201:Int).toNat) ((a_ #[]):ByteArray)).set ((0:Int).toNat) f.1).set ((1:Int).toNat) i.1) ((201:Int).toNat),sN])::(row 9 eStr g ((201:Int).toNat) (((d_ ((201:Int).toNat) ((a_ #[]):ByteArray)).set ((0:Int).toNat) f.1).set ((1:Int).toNat) i.1))::B)) (by first|(simp +zetaDelta only[sl,f_];done)|(simp +zetaDelta only[sl,f_];rfl)) ?_;refine TA.d ?_;refine au1 ?_;refine T.N1 λJ=>?_;refine au0 ?_;have hres:=g_.inj b;subst hres;exact ia
theorem kW (F:Nat) (n:List ByteArray) (o:List DWrite) (M:Int) (B:List DNode) (p:Int) (j:List DNode) (N:Int) (r:Int×(List DNode)×Int) (b:jP F n o M B p j N=some r) (w:World) (h:Nat) (t:Option Addr) (z:Nat) (x:Option Addr) (A:Nat) (G:Option Addr) (K:Nat) (k:Option Addr) (m:Nat) (g:View) (H:List HObj) (w1:World) (ao:fI g eStr t z n) (ap:fI g eWrite x A o) (aq:fI g iy G K B) (ad:fI g iy k m j) (f:Hp w g ((box h 79 [.slice t n.length z,.slice x o.length A,.int .i64 M,.slice G B.length K])::H) w1) :
 Calls Tryz.prog 49 #[.pointer (some ⟨h,0,none⟩),.agg #[.int .i64 p,.slice k j.length m],.int .i64 N] w1 (λe w2=>∃v,e=.returned v/\∃P R I,View.le g I/\fI I iy P R r.2.1/\v=.int .i64 r.2.2/\Hp w I ((box h 79 [.slice t n.length z,.slice x o.length A,.int .i64 r.1,.slice P r.2.1.length R])::H) w2):=by
 unfold jP at b;have am:=f.base;refine T.iD (l:=[pB h 0,.agg #[vi p,sl k j m],vi N]) Tryz.func49 rfl rfl rfl ?_ f;clear f;refine au1 ?_;refine T.N1 λQ=>?_;refine au2 ?_;revert b;refine T.c (λY b=>?_) (λY b=>?_);refine au1 ?_;have hres:=g_.inj b;subst hres;exact ia;refine au0 ?_;refine oc b λq1 d b=>?_;let ah:=box h 79 [sl t n z,sl x o A,vi M,sl G B K];refine T.iE (λa q=>∃(O:Int) (D:List DNode),q1=Sum.inl (O,D)/\∃E J y,View.le g y/\fI y iy E J D/\Fr 27 [(0,pB h 0),(4,pB Q 0)] a/\Hp w y ((box Q 77 [vi O,sl E D J])::ah::H) q) ?_ ?_;refine au1 ?_;revert d;refine T.c (λZ d=>?_) (λZ d=>?_);refine au1 ?_;refine oc d λC X d=>(T.gj (W1.w1 (vT2 (vAg nU) (vSc gi)) C 84 #[.agg #[vi p,sl k j m]] (λq f=>qQ F (DTree.mk p j) C X q k m (fI.mono ad f.view)) ?_));intro u U W hu;obtain⟨u1,u2,rfl,af,ag⟩:=ml hu;obtain⟨ak,rfl,ab⟩:=lu af;obtain⟨S,V,rfl,ac⟩:=ab;obtain rfl:=gA _ _ _ ag;refine au1 ?_;revert d;refine T.c (λaa d=>?_) (λaa d=>?_);refine au1 ?_;cases d;(try dsimp only at b);have hres:=g_.inj b;subst hres;exact ia;refine au0 ?_;cases d;exact λa q L f=>⟨C.1.root,C.1.nodes,rfl,S,V,U,W,(fI.mono ac (iq _ _)),(Fr.s L),(f.u)⟩;refine au0 ?_;cases d;exact gt;rintro a q ⟨O,D,rfl,E,J,y,al,an,L,f⟩
 (try dsimp only at b);revert L f;refine T.i ?_;refine au2 ?_;have hres:=g_.inj b;subst hres;exact ia
theorem nA (F:Nat) (h:List ByteArray) (i:List DWrite) (D:Int) (s:List DNode) (b:DKey) (E:Int) (r:Int×(List DNode)×Int) (p:kT F h i D s b E=some r) (w:World) (f:Nat) (k:Option Addr) (n:Nat) (m:Option Addr) (o:Nat) (x:Option Addr) (B:Nat) (A:View) (y:List HObj) (w1:World) (Y:fI A eStr k n h) (Z:fI A eWrite m o i) (Q:fI A iy x B s) (c:Hp w A ((box f 79 [.slice k h.length n,.slice m i.length o,.int .i64 D,.slice x s.length B])::y) w1) :
 Calls Tryz.prog 32 #[.pointer (some ⟨f,0,none⟩),.agg #[.int .i64 b.pfs,.int .i64 b.obj,.int .i64 b.off],.int .i64 E] w1 (λe w2=>∃v,e=.returned v/\∃K N J,View.le A J/\fI J iy K N r.2.1/\v=.int .i64 r.2.2/\Hp w J ((box f 79 [.slice k h.length n,.slice m i.length o,.int .i64 r.1,.slice K r.2.1.length N])::y) w2):=by
 unfold kT at p;have P:=c.base;refine T.iD (l:=[pB f 0,.agg #[vi b.pfs,vi b.obj,vi b.off],vi E]) Tryz.func32 rfl rfl rfl ?_ c;clear c;refine au1 ?_;refine T.N1 λR=>?_;refine au0 ?_;refine T.gD ?_;let I:=box R 24 [vi b.pfs,vi b.obj,vi b.off];refine T.iS (I::[]) k_ ?_;refine ta [0,1,2,3,5,6] ?_;refine tj [4] ?_;refine TA.a [7] ⟨?_,trivial⟩;refine oc p λg U p=>(TA.br rfl (W1.w1 (vT2 (vAg nU) (vSc gi)) g 65 #[.agg #[vi D,sl x s B],.agg #[vi b.pfs,vi b.obj,vi b.off],vi E] (λt c=>rL F (DTree.mk D s) b E g U t x B (fI.mono Q c.view)) ?_));intro u M C hu;obtain⟨u1,u2,rfl,ab,ac⟩:=ml hu;obtain⟨ae,rfl,W⟩:=lu ab;obtain⟨L,O,rfl,X⟩:=W;obtain rfl:=gA _ _ _ ac;refine TA.on (Hp.q C P) ?_;refine ta [8,9] ?_;refine TA.a [10] ⟨?_,trivial⟩;refine oc p λj V p=>(TA.br rfl (W1.ci 49 [pB f 0,.agg #[vi g.1.root,sl L g.1.nodes O],vi g.2] (λv t=>∃G H z,View.le M z/\fI z iy G H j.2.1/\v=vi j.2.2/\Hp w z ((box f 79 [sl k h n,sl m i o,vi j.1,sl G j.2.1 H])::I::y) t) (λt c=>kW F h i D s g.1.root g.1.nodes g.2 j V w f k n m o x B L O M (I::y) t (fI.mono Y C) (fI.mono Z C) (fI.mono Q C) (fI.mono X (iq _ _)) (c.ix 2 [1,0])) ?_));rintro v t ⟨G,H,z,S,af,rfl,c⟩;refine⟨z,(I::(box f 79 [sl k h n,sl m i o,vi j.1,sl G j.2.1 H])::y),c.ix 2 [1,0],?_⟩;clear c;refine TA.on (Hp.q (vt C S) P) ?_;refine ta [11] ?_;refine TA.d ?_;have hres:=g_.inj p;subst hres;exact ia
theorem lE (F:Nat) (h:List ByteArray) (i:List DWrite) (D:Int) (s:List DNode) (b:DKey) (E:ByteArray) (G:Int) (r:Int×(List DNode)×Int) (p:kg F h i D s b E G=some r) (w:World) (f:Nat) (k:Option Addr) (n:Nat) (m:Option Addr) (o:Nat) (x:Option Addr) (B:Nat) (A:View) (y:List HObj) (w1:World) (Z:fI A eStr k n h) (aa:fI A eWrite m o i) (R:fI A iy x B s) (c:Hp w A ((box f 79 [.slice k h.length n,.slice m i.length o,.int .i64 D,.slice x s.length B])::y) w1) :
 Calls Tryz.prog 22 #[.pointer (some ⟨f,0,none⟩),.agg #[.int .i64 b.pfs,.int .i64 b.obj,.int .i64 b.off],.string E,.int .i64 G] w1 (λe w2=>∃v,e=.returned v/\∃L O K,View.le A K/\fI K iy L O r.2.1/\v=.int .i64 r.2.2/\Hp w K ((box f 79 [.slice k h.length n,.slice m i.length o,.int .i64 r.1,.slice L r.2.1.length O])::y) w2):=by
 unfold kg at p;have Q:=c.base;refine T.iD (l:=[pB f 0,.agg #[vi b.pfs,vi b.obj,vi b.off],.string E,vi G]) Tryz.func22 rfl rfl rfl ?_ c;clear c;refine au1 ?_;refine T.N1 λS=>?_;refine au0 ?_;refine T.gD ?_;let J:=box S 24 [vi b.pfs,vi b.obj,vi b.off];refine T.iS (J::[]) k_ ?_;refine ta [0,1,2,3,5,6,7] ?_;refine tj [4] ?_;refine TA.a [8] ⟨?_,trivial⟩;refine oc p λg V p=>(TA.br rfl (W1.w1 (vT2 (vAg nU) (vSc gi)) g 50 #[.agg #[vi D,sl x s B],.agg #[vi b.pfs,vi b.obj,vi b.off],.string E,vi G] (λt c=>rO F (DTree.mk D s) b E G g V t x B (fI.mono R c.view)) ?_));intro u N C hu;obtain⟨u1,u2,rfl,ac,ad⟩:=ml hu;obtain⟨af,rfl,X⟩:=lu ac;obtain⟨M,P,rfl,Y⟩:=X;obtain rfl:=gA _ _ _ ad;refine TA.on (Hp.q C Q) ?_;refine ta [9,10] ?_;refine TA.a [11] ⟨?_,trivial⟩;refine oc p λj W p=>(TA.br rfl (W1.ci 49 [pB f 0,.agg #[vi g.1.root,sl M g.1.nodes P],vi g.2] (λv t=>∃H I z,View.le N z/\fI z iy H I j.2.1/\v=vi j.2.2/\Hp w z ((box f 79 [sl k h n,sl m i o,vi j.1,sl H j.2.1 I])::J::y) t) (λt c=>kW F h i D s g.1.root g.1.nodes g.2 j W w f k n m o x B M P N (J::y) t (fI.mono Z C) (fI.mono aa C) (fI.mono R C) (fI.mono Y (iq _ _)) (c.ix 2 [1,0])) ?_));rintro v t ⟨H,I,z,U,ag,rfl,c⟩;refine⟨z,(J::(box f 79 [sl k h n,sl m i o,vi j.1,sl H j.2.1 I])::y),c.ix 2 [1,0],?_⟩;clear c;refine TA.on (Hp.q (vt C U) Q) ?_;refine ta [12] ?_;refine TA.d ?_;have hres:=g_.inj p;subst hres;exact ia
theorem jD (F:Nat) (D:List ByteArray) (G:List DWrite) (O:Int) (k:List DNode) (r:(List DWrite)) (M:kh F D G O k=some r) (w:World) (t:Nat) (A:Option Addr) (K:Nat) (I:Option Addr) (L:Nat) (p:Option Addr) (x:Nat) (q:View) (B:List HObj) (w1:World) (aq:fI q eStr A K D) (a1:fI q eWrite I L G) (ar:fI q iy p x k) (b:Hp w q ((box t 79 [.slice A D.length K,.slice I G.length L,.int .i64 O,.slice p k.length x])::B) w1) :
 Calls Tryz.prog 39 #[.pointer (some ⟨t,0,none⟩)] w1 (λe w2=>∃v,e=.returned v/\∃A1 c1 V1,View.le q V1/\v=.slice A1 r.length c1/\Hp w V1 ((row 46 eWrite A1 c1 r)::(box t 79 [.slice A D.length K,.slice I G.length L,.int .i64 O,.slice p k.length x])::B) w2):=by
 unfold kh at M;have a0:=b.base;refine T.iD (l:=[pB t 0]) Tryz.func39 rfl rfl rfl ?_ b;clear b;refine au4 ?_;refine T.il 46 eWrite ?_;refine oc M λz2 aQ M=>?_;let aa:=box t 79 [sl A D K,sl I G L,vi O,sl p k x];refine T.iK (λa d=>∃S Y V,View.le q V/\Fr 44 [(3,sl S z2 Y)] a/\Hp w V ((row 46 eWrite S Y z2)::aa::B) d) ?_ ?_;refine au1 ?_;refine T.iC (λs1 a d=>∃(H:List DWrite) (o:Int),s1=(H,o)/\∃R X J,View.le q J/\Fr 44 [(0,pB t 0),(3,sl R H X),(12,sl p k x),(13,vi (k.length:Int)),(14,vi o)] a/\Hp w J ((row 46 eWrite R X H)::aa::B) d) aQ ?_ ?_;exact gt;rintro s1 y1 n aJ a d ⟨H,o,rfl,R,X,J,N,C,b⟩;revert C b;refine T.i ?_;(try dsimp only at n);refine au1 ?_;refine T.gD ?_;revert n;refine T.c (λaC n=>?_) (λaC n=>?_);refine au0 ?_;refine oc n λz3 g n=>?_;refine T.iE (λa d=>∃U Z W,View.le J W/\Fr 44 [(0,pB t 0),(3,sl U z3 Z),(12,sl p k x),(13,vi (k.length:Int)),(14,vi o)] a/\Hp w W ((row 46 eWrite U Z z3)::aa::B) d) ?_ ?_;refine au2 ?_;refine oc g λy ay g=>?_;obtain⟨aF,aG,ao⟩:=gB ay;obtain⟨aX,aK,aD⟩:=fI.elem (fI.mono ar N) ao;obtain⟨A5,c5,A6,c6,A7,c7,A8,c8,rfl,aL,aM,aN,aO⟩:=aK;refine T.l (.pointer (some ((ij p).add (o.toNat * 5)))) (λd b=>gk (e:=97) (s:=5) rfl rfl rfl k_ k_ aF aG ((fI.mono ar N).some_ ao c_)) ?_;let ah:Value:=.agg #[vi y.kind,sl A5 y.elems c5,sl A6 y.kids c6,sl A7 y.seps c7,sl A8 y.tids c8];refine T.l ah (λd b=>lN (λj u hj=>b.cell_view (View.cell_mono vr (aD j u hj).2))) ?_;refine T.N1 λb1=>?_;refine au1 ?_
 refine oc g λQ az g=>(T.gj (W1.w1 (vT2 (vSc eStr) (vSc gi)) Q 62 #[ah] (λd b=>oF F y Q az d A5 c5 (fI.mono aL b.view) A6 c6 (fI.mono aM b.view) A7 c7 (fI.mono aN b.view) A8 c8 (fI.mono aO b.view)) ?_));intro u V5 an hu;obtain rfl:=(jS.t2 iO gA) _ _ _ hu;refine au1 ?_;refine oc g λe2 aA g=>?_;obtain⟨aH,aI,ap⟩:=gB aA;refine T.l (.pointer (some ((ij A).add (((i64.wrap (1 + o)).toNat) * 1)))) (λd b=>gk (e:=9) (s:=1) rfl rfl rfl k_ k_ aH aI ((fI.mono aq (vt N an)).some_ ap c_)) (T.l (.string e2) (λd b=>ie rfl rfl k_ (b.cell_view (fI.cellF0 (E:=eStr) (fI.mono aq (vt N an)) ap (λ_ _ _ h=>h) rfl))) ?_);refine au0 ?_;revert g;refine T.c (λaE g=>?_) (λaE g=>?_);refine au1 ?_;refine T.NS λb2=>?_;refine oc g λy2 aB g=>?_;obtain⟨hb4_r,hb4_m,rfl⟩:=hO aB;refine T.gj (W1.a (E:=eWrite) (l:=H) (m:=[(DWrite.mk (i64.wrap (1 + o)) Q.1)]) 2 24 tO (λd b=>(fI.sF (iw (E:=eWrite) (f:=DWrite.cells) [(DWrite.mk (i64.wrap (1 + o)) Q.1)] (λ_ _=>rfl) n_ (λj=>b.cellBox (i:=0) b_ j)))) hb4_r hb4_m (λA9 c9=>?_));refine au0 ?_;cases g;exact gt;refine au0 ?_;cases g;exact gt;rintro a d ⟨U,Z,W,aZ,C,b⟩;revert C b;refine T.i ?_;refine au1 ?_;cases n;exact gt;refine au0 ?_;cases n;cases(aJ _ rfl);exact gt;rintro a d ⟨S,Y,V,aY,C,b⟩;revert C b;refine T.i ?_;refine au1 ?_;have hres:=g_.inj M;subst hres;exact ia
theorem ld (F:Nat) (B:List ByteArray) (C:List DWrite) (L:Int) (D:List DNode) (r:(List ByteArray)×(List DWrite)×(List DDisk)×Int) (A:kA F B C L D=some r) (w:World) (U:Nat) (G:Option Addr) (I:Nat) (H:Option Addr) (J:Nat) (M:Option Addr) (O:Nat) (ag:View) (S:List HObj) (w1:World) (X:fI ag eStr G I B) (Y:fI ag eWrite H J C) (ab:fI ag iy M O D) (b:Hp w ag ((box U 79 [.slice G B.length I,.slice H C.length J,.int .i64 L,.slice M D.length O])::S) w1) :
 Calls Tryz.prog 13 #[.pointer (some ⟨U,0,none⟩)] w1 (λe w2=>∃v,e=.returned v/\∃(A1 c1 A2 c2 A3 c3 V1:_) (hd:List DDH),View.le ag V1/\fI V1 eStr A1 c1 r.1/\fI V1 eWrite A2 c2 r.2.1/\hd.length=r.2.2.1.length/\v=.tuple #[.slice A3 r.2.2.1.length c3,.int .i64 r.2.2.2]/\Hp w V1 ((box U 79 [.slice A1 r.1.length c1,.slice A2 r.2.1.length c2,.int .i64 L,.slice M D.length O])::(row 40 eDDH A3 c3 hd)::(iz hd r.2.2.1)::S) w2):=by
 have A:lD F B C L D=some r:=A;unfold lD at A;have R:=b.base;let ap:=[pB U 0];refine T.iD (l:=ap) Tryz.func13 rfl rfl rfl ?_ b;clear b;refine au1 ?_;refine T.gD (oc A λQ aA A=>(oc A λy ar A=>(oc A λn au A=>?_)));let ac:=box U 79 [sl G B I,sl H C J,vi L,sl M D O];refine T.iK (λa f=>∃(A6 c6 V5:_) (hd:List DDH),View.le ag V5/\hd.length=n.1.length/\Fr 35 [(0,pB U 0),(4,sl A6 n.1 c6),(5,vi n.2)] a/\Hp w V5 (ac::(row 40 eDDH A6 c6 hd)::(iz hd n.1)::S) f) ?_ ?_;refine T.iS [] k_ ?_;refine ta [0,1,2,4,5,6,9] ?_;refine TA.a [3,7] ⟨?_,?_,trivial⟩;refine tb ?_;refine tj [7] ?_;refine TA.j 8 rfl (W1.w1 (vSc eStr) Q 38 #[.agg #[vi L,sl M D O]] (λf b=>lR F (DTree.mk L D) Q aA f M O (fI.mono ab b.view)) ?_);intro u V g hu;obtain rfl:=iO _ _ _ hu;refine TA.on (Hp.q g R) (TA.j 10 rfl (W1.ci 39 ap (λv f=>∃o t N,View.le V N/\v=.slice o y.length t/\Hp w N ((row 46 eWrite o t y)::ac::S) f) (λf b=>jD F B C L D y ar w U G I H J M O V S f (fI.mono X g) (fI.mono Y g) (fI.mono ab g) (b.u)) ?_));rintro v f ⟨o,t,N,x,rfl,b⟩;refine⟨_,_,b,?_⟩;clear b;refine TA.on (Hp.q (vt g x) R) (TA.j 11 rfl (W1.jF 37 #[.agg #[sl G B I,sl H C J],.string Q,sl o y t] (λp:Option Addr×Nat×List DDH=>.tuple #[sl p.1 n.1 p.2.1,vi n.2]) (λp=>((row 40 eDDH p.1 p.2.1 p.2.2)::(iz p.2.2 n.1)::[])) (λp=>p.2.2.length=n.1.length) k_ (λ_=>k_) (λf b=>oK F (DDisk.mk B C) Q y n au f G I (fI.mono (fI.mono X (vt g x)) b.view) H J (fI.mono (fI.mono Y (vt g x)) b.view) o t (b.row_slOk (i:=0) b_)) ?_))
 rintro⟨Z,c5,hd⟩ hl;dsimp only at hl;refine TA.on (Hp.q (vt g x) R) ?_;refine ta [12,13,14,15,16] ?_;refine TA.d ?_;exact λa f W b=>⟨Z,c5,_,hd,(vt g x),hl,Fr.s W,b.ix 4 [3,0,1]⟩;refine tb ?_;refine TA.a [3,8] ⟨?_,?_,trivial⟩;refine tb ?_;refine TA.j 8 rfl (W1.w1 (vSc eStr) Q 38 #[.agg #[vi L,sl M D O]] (λf b=>lR F (DTree.mk L D) Q aA f M O (fI.mono ab b.view)) ?_);intro u V g hu;obtain rfl:=iO _ _ _ hu;refine TA.on (Hp.q g R) (TA.j 10 rfl (W1.ci 39 ap (λv f=>∃o t N,View.le V N/\v=.slice o y.length t/\Hp w N ((row 46 eWrite o t y)::ac::S) f) (λf b=>jD F B C L D y ar w U G I H J M O V S f (fI.mono X g) (fI.mono Y g) (fI.mono ab g) (b.u)) ?_));rintro v f ⟨o,t,N,x,rfl,b⟩;refine⟨_,_,b,?_⟩;clear b;refine TA.on (Hp.q (vt g x) R) (TA.j 11 rfl (W1.jF 37 #[.agg #[sl G B I,sl H C J],.string Q,sl o y t] (λp:Option Addr×Nat×List DDH=>.tuple #[sl p.1 n.1 p.2.1,vi n.2]) (λp=>((row 40 eDDH p.1 p.2.1 p.2.2)::(iz p.2.2 n.1)::[])) (λp=>p.2.2.length=n.1.length) k_ (λ_=>k_) (λf b=>oK F (DDisk.mk B C) Q y n au f G I (fI.mono (fI.mono X (vt g x)) b.view) H J (fI.mono (fI.mono Y (vt g x)) b.view) o t (b.row_slOk (i:=0) b_)) ?_))
 rintro⟨Z,c5,hd⟩ hl;dsimp only at hl;refine TA.on (Hp.q (vt g x) R) ?_;refine ta [12,13,14,15,16] ?_;refine TA.d ?_;exact λa f W b=>⟨Z,c5,_,hd,(vt g x),hl,Fr.s W,b.ix 4 [3,0,1]⟩;refine TA.br rfl (W1.w1 (vSc eStr) Q 38 #[.agg #[vi L,sl M D O]] (λf b=>lR F (DTree.mk L D) Q aA f M O (fI.mono ab b.view)) ?_);intro u V g hu;obtain rfl:=iO _ _ _ hu;refine TA.on (Hp.q g R) (TA.a [3,10] ⟨?_,?_,trivial⟩);refine tb ?_;refine TA.j 10 rfl (W1.ci 39 ap (λv f=>∃o t N,View.le V N/\v=.slice o y.length t/\Hp w N ((row 46 eWrite o t y)::ac::S) f) (λf b=>jD F B C L D y ar w U G I H J M O V S f (fI.mono X g) (fI.mono Y g) (fI.mono ab g) (b.u)) ?_);rintro v f ⟨o,t,N,x,rfl,b⟩;refine⟨_,_,b,?_⟩;clear b;refine TA.on (Hp.q (vt g x) R) (TA.j 11 rfl (W1.jF 37 #[.agg #[sl G B I,sl H C J],.string Q,sl o y t] (λp:Option Addr×Nat×List DDH=>.tuple #[sl p.1 n.1 p.2.1,vi n.2]) (λp=>((row 40 eDDH p.1 p.2.1 p.2.2)::(iz p.2.2 n.1)::[])) (λp=>p.2.2.length=n.1.length) k_ (λ_=>k_) (λf b=>oK F (DDisk.mk B C) Q y n au f G I (fI.mono (fI.mono X (vt g x)) b.view) H J (fI.mono (fI.mono Y (vt g x)) b.view) o t (b.row_slOk (i:=0) b_)) ?_))
 rintro⟨Z,c5,hd⟩ hl;dsimp only at hl;refine TA.on (Hp.q (vt g x) R) ?_;refine ta [12,13,14,15,16] ?_;refine TA.d ?_;exact λa f W b=>⟨Z,c5,_,hd,(vt g x),hl,Fr.s W,b.ix 4 [3,0,1]⟩;refine TA.br rfl (W1.ci 39 ap (λv f=>∃o t N,View.le V N/\v=.slice o y.length t/\Hp w N ((row 46 eWrite o t y)::ac::S) f) (λf b=>jD F B C L D y ar w U G I H J M O V S f (fI.mono X g) (fI.mono Y g) (fI.mono ab g) (b.u)) ?_);rintro v f ⟨o,t,N,x,rfl,b⟩;refine⟨_,_,b,?_⟩;clear b;refine TA.on (Hp.q (vt g x) R) ?_;refine tj [3] ?_;refine TA.j 11 rfl (W1.jF 37 #[.agg #[sl G B I,sl H C J],.string Q,sl o y t] (λp:Option Addr×Nat×List DDH=>.tuple #[sl p.1 n.1 p.2.1,vi n.2]) (λp=>((row 40 eDDH p.1 p.2.1 p.2.2)::(iz p.2.2 n.1)::[])) (λp=>p.2.2.length=n.1.length) k_ (λ_=>k_) (λf b=>oK F (DDisk.mk B C) Q y n au f G I (fI.mono (fI.mono X (vt g x)) b.view) H J (fI.mono (fI.mono Y (vt g x)) b.view) o t (b.row_slOk (i:=0) b_)) ?_);rintro⟨Z,c5,hd⟩ hl;dsimp only at hl;refine TA.on (Hp.q (vt g x) R) ?_;refine ta [12,13,14,15,16] ?_;refine TA.d ?_;exact λa f W b=>⟨Z,c5,_,hd,(vt g x),hl,Fr.s W,b.ix 4 [3,0,1]⟩;rintro a f ⟨A6,c6,V5,hd,aj,hl,W,b⟩;let aB:=(row 40 eDDH A6 c6 hd)::(iz hd n.1)::S;let aN:=ac::aB;revert W b;refine T.i ?_;refine au2 ?_;revert A;refine T.c (λaT A=>?_) (λaT A=>?_);refine au1 ?_;have hres:=g_.inj A;subst hres;refine T.iV rfl ?_;(repeat first|refine T.ir ?_|refine T.ik ?_)
 exact T.jJ rfl (rT rfl) (rT rfl) λf b=>⟨_,rfl,G,I,H,J,none,0,_,[],aj,(fI.mono X aj),(fI.mono Y aj),rfl,rfl,(Hp.nilRow (Hp.nilD (b.ix 3 [0]))).ix 3 [2,0,1]⟩;refine au1 ?_;refine oc A λK aQ A=>?_;obtain⟨aU,aV,av⟩:=gB aQ;obtain⟨h,an⟩:∃h,hd[((i64.wrap ((n.1.length:Int) - 1)).toNat)]? = some h:=⟨_,List.getElem?_eq_getElem (by rw[hl];exact(List.getElem?_eq_some_iff.1 av).1)⟩;refine T.uY (k:=((i64.wrap ((n.1.length:Int) - 1)).toNat)) 2 b_ an av (λhft=>?_);obtain⟨A7,n7,c7,A8,n8,c8⟩:=h;obtain⟨f1,f2⟩:=hft;dsimp only at f1 f2;subst f1 f2;refine T.l (.pointer (some ((ij A6).add (((i64.wrap ((n.1.length:Int) - 1)).toNat) * 2)))) (iR 1 (e:=40) (s:=2) aU aV an) (T.l (.agg #[sl A7 K.pages c7,sl A8 K.writes c8]) (λf b=>lN (λj u hj=>fI.wcellF (E:=eDDH) (b.row_slOk (i:=1) b_) an j (λ_ _ _ h=>h) hj)) (oc A λq1 am A=>(T.gj (W1.ii 40 [.agg #[sl A7 K.pages c7,sl A8 K.writes c8]] (λv f=>q1=()/\∃A9 c9 ad ah,v=.agg #[sl ad (([]:List ByteArray)++K.pages) ah,sl A9 (([]:List DWrite)++K.writes) c9]/\Hp w V5 ((row 46 eWrite A9 c9 (([]:List DWrite)++K.writes))::(row 9 eStr ad ah (([]:List ByteArray)++K.pages))::aN) f) Tryz.func40 rfl rfl k_ (λ_=>k_) rfl ?_ ?_))));refine au1 ?_;refine T.N1 λb1=>?_;refine T.N1 λb2=>?_;refine au0 ?_;refine T.gD ?_;refine T.iS ((box b1 40 [sl A7 K.pages c7,sl A8 K.writes c8])::ac::[]) k_ ?_;refine ta [0,1,3,4] ?_;refine TA.j 2 rfl (W1.jH 9 eStr (oc am λy1 aR am=>?_));obtain⟨hb5_r,hb5_m,rfl⟩:=hO aR
 refine(W1.a (E:=eStr) (l:=([]:List ByteArray)) (m:=K.pages) 0 16 z9_ (λf b=>(fI.sF (b.lookAtD (i:=5) b_ an av).2.1)) hb5_r hb5_m (λa0 a5=>?_));refine TA.on (Hp.q vr (vt R aj)) (TA.j 5 rfl (W1.jH 46 eWrite (oc am λy2 aS am=>?_)));obtain⟨hb6_r,hb6_m,rfl⟩:=hO aS;refine(W1.a (E:=eWrite) (l:=([]:List DWrite)) (m:=K.writes) 0 24 tO (λf b=>(fI.sF (b.lookAtD (i:=6) b_ an av).2.2)) hb6_r hb6_m (λa1 a6=>?_));refine TA.on (Hp.q vr (vt R aj)) ?_;refine ta [6] ?_;refine tj [7] ?_;refine TA.d ?_;cases am;exact ia;rintro v f ⟨rfl,A9,c9,ad,ah,rfl,b⟩;(try dsimp only at A);let aL:=row 46 eWrite A9 c9 (([]:List DWrite)++K.writes);refine⟨V5,(aL::(row 9 eStr ad ah (([]:List ByteArray)++K.pages))::aN),b,?_⟩;clear b;refine au1 ?_;let aM:=box U 79 [sl ad (([]:List ByteArray)++K.pages) ah,sl A9 (([]:List DWrite)++K.writes) c9,vi L,sl M D O];refine T.jw (E:=eStr) (H':=(aL::aM::aB)) 1 b_ rfl (λ_ _ _ _ h=>h) (λV6 aP aW=>?_);refine T.jw (E:=eWrite) (H':=(aM::aB)) 0 b_ rfl (λ_ _ _ _ h=>h) (λV7 aK aX=>?_);have hres:=g_.inj A;subst hres;refine T.iV rfl ?_
 (repeat first|refine T.ir ?_|refine T.ik ?_);exact T.jJ rfl (rT rfl) (rT rfl) λf b=>⟨_,rfl,ad,ah,A9,c9,A6,c6,_,hd,(vt (vt aj aP) aK),(fI.mono aW (vt (iq _ _) aK)),(fI.mono aX (iq _ _)),hl,rfl,b.ix 3 [0,1,2]⟩
theorem pI (F:Nat) (k:List ByteArray) (t:List DWrite) (r:(List ByteArray)×(List DWrite)×Int×(List DNode)) (b:mB F k t=some r) (w:World)  (n:Option Addr) (o:Nat) (y:Option Addr) (A:Nat) (U:View) (K:List HObj) (w1:World) (aZ:fI U eWrite y A t) (d:Hp w U ((row 9 eStr n o k)::K) w1) :
 Calls Tryz.prog 19 #[.agg #[.slice n k.length o,.slice y t.length A]] w1 (λe w2=>∃v,e=.returned v/\∃V A1 c1 A2 c2 A3 c3 V1,View.le U V1/\v=.tuple #[.pointer (some ⟨V,0,none⟩),.int .i64 0]/\Hp w V1 ((box V 79 [.slice A1 r.1.length c1,.slice A2 r.2.1.length c2,.int .i64 r.2.2.1,.slice A3 r.2.2.2.length c3])::(row 97 (eAt w iy) A3 c3 r.2.2.2)::(row 9 eStr A1 c1 r.1)::(row 46 eWrite A2 c2 r.2.1)::(row 9 eStr n o k)::K) w2):=by
 unfold mB at b;have bo:=d.base;refine T.iD (l:=[.agg #[sl n k o,sl y t A]]) Tryz.func19 rfl rfl rfl ?_ d;clear d;refine au1 ?_;refine T.N1 λL=>?_;refine au1 ?_;refine oc b λj aB b=>(T.gj (W1.jF 43 #[.agg #[sl n k o,sl y t A]] (λp:Option Addr×Nat×Option Addr×Nat=>.tuple #[.agg #[sl p.1 j.1.pages p.2.1,sl p.2.2.1 j.1.writes p.2.2.2],vi j.2]) (λp=>((row 9 eStr p.1 p.2.1 j.1.pages)::(row 46 eWrite p.2.2.1 p.2.2.2 j.1.writes)::[])) (λ_=>True) k_ (λ_=>k_) (λf d=>qy F (DDisk.mk k t) j aB f n o (d.row_slOk (i:=1) b_) y A (fI.mono aZ d.view)) ?_));rintro⟨x,G,J,N⟩ _;let am:=row 46 eWrite J N j.1.writes;refine T.iA (H':=((row 9 eStr x G j.1.pages)::am::(box L 40 [sl n k o,sl y t A])::(row 9 eStr n o k)::K)) b_ ?_;refine au2 ?_;revert b;refine T.c (λaL b=>?_) (λaL b=>?_);refine au1 ?_;cases b;refine au1 ?_;refine oc b λr4 aD b=>(T.gj (W1.w1 (vT3 (vSc gi) (vSc eStr) (vSc gi)) r4 44 #[.agg #[sl x j.1.pages G,sl J j.1.writes N]] (λf d=>ol F j.1 r4 aD f x G (d.row_slOk (i:=0) b_) J N (d.row_slOk (i:=1) b_)) ?_))
 intro u V2 bh q;obtain rfl:=(jS.t3 gA iO gA) _ _ _ q;refine au2 ?_;revert b;refine T.c (λaM b=>?_) (λaM b=>?_);refine au1 ?_;cases b;refine au1 ?_;refine oc b λs1 aE b=>(T.l (.string s1) (λf d=>jg rfl rfl rfl k_ aE) (oc b λZ aF b=>(T.gj (W1.w1 (vSc gi) Z 45 #[.string s1] (λf d=>jc F s1 Z aF f) ?_))));intro u V3 bi q;obtain rfl:=gA _ _ _ q;refine au2 ?_;revert b;refine T.c (λaN b=>?_) (λaN b=>?_);refine au1 ?_;cases b;refine au1 ?_;refine oc b λs2 aG b=>(T.l (.string s2) (λf d=>kv rfl rfl rfl k_ aG) (oc b λB aH b=>(T.gj (W1.w1 (vSc gi) B 45 #[.string s2] (λf d=>jc F s2 B aH f) ?_))));intro u V4 bj q;obtain rfl:=gA _ _ _ q;refine au0 ?_;refine T.N1 λM=>?_;refine au2 ?_;refine T.il 97 (eAt w iy) ?_;refine oc b λq1 a2 b=>?_;let a3:=box L 40 [sl x j.1.pages G,sl J j.1.writes N];let a5:=a3::(row 9 eStr n o k)::K;let a6:=am::a5;let aq:=(row 9 eStr x G j.1.pages)::a6;refine T.iK (λa f=>∃(C:List DNode),q1=Sum.inl C/\∃D H S,View.le V4 S/\Fr 69 [(1,pB L 0),(9,pB M 0)] a/\Hp w S ((row 97 (eAt w iy) D H C)::(box M 77 [vi B,sl D C H])::aq) f) ?_ ?_;refine au1 ?_;refine T.iC (λs3 a f=>∃(I:List DNode) (O:Int),s3=(I,O)/\∃Q W R,View.le V4 R/\Fr 69 [(1,pB L 0),(9,pB M 0),(39,vi Z),(40,vi O)] a/\Hp w R ((row 97 (eAt w iy) Q W I)::(box M 77 [vi B,sl Q I W])::aq) f) a2 ?_ ?_;exact gt
 rintro s3 y1 g aT a f ⟨I,O,rfl,Q,W,R,bk,Y,d⟩;revert Y d;refine T.i ?_;(try dsimp only at g);refine au1 ?_;refine T.gD ?_;revert g;refine T.c (λaO g=>?_) (λaO g=>?_);refine au4 ?_;refine oc g λX aI g=>?_;obtain⟨aR,aS,al⟩:=gB aI;refine T.l (.pointer (some ((ij x).add (((i64.wrap (1 + O)).toNat) * 1)))) (iR 2 (e:=9) (s:=1) aR aS al) (T.l (.string X) (λf d=>ie rfl rfl k_ (fI.wcellF0 (E:=eStr) (d.row_slOk (i:=2) b_) al (λ_ _ _ h=>h) rfl)) (oc g λr8 aJ g=>(T.gj (W1.w1 (vT2 (vAg iy) (vSc gi)) r8 46 #[.string X] (λf d=>rB F X r8 aJ f) ?_))));intro u V7 bm q;obtain⟨u1,u2,rfl,a0,a1⟩:=ml q;obtain⟨bg,rfl,aU⟩:=lu a0;obtain⟨A8,c8,A9,c9,ar,ax,au,ay,rfl,aV,aW,aX,aY⟩:=aU;obtain rfl:=gA _ _ _ a1;refine au0 ?_;refine T.N1 λb3=>?_;refine au2 ?_;revert g;refine T.c (λaP g=>?_) (λaP g=>?_);refine au1 ?_;cases g;refine au1 ?_;refine T.NS λb4=>?_;refine oc g λy2 aK g=>?_;obtain⟨hb9_r,hb9_m,rfl⟩:=hO aK;refine T.gj (W1.a (E:=(eAt w iy)) (l:=I) (m:=[r8.1]) 2 104 sP (λf d=>(lc (E:=(eAt w iy)) d (i:=0) b_ ⟨A8,c8,A9,c9,ar,ax,au,ay,rfl,aV,aW,aX,aY⟩)) hb9_r hb9_m (λa8 bf=>?_));refine au1 ?_;cases g;exact gt;refine au0 ?_;cases g;cases(aT _ rfl);exact gt;rintro a f ⟨C,rfl,D,H,S,bl,Y,d⟩
 (try dsimp only at b);revert Y d;refine T.i ?_;refine au2 ?_;refine oc b λr9 aC b=>(T.gj (W1.w1 (vSc gi) r9 47 #[.agg #[vi B,sl D C H]] (λf d=>mR F (DTree.mk B C) r9 aC f D H (d.row_slOk (i:=0) b_).ofAt) ?_));intro u V8 bn q;obtain rfl:=gA _ _ _ q;refine au0 ?_;revert b;refine T.c (λaQ b=>?_) (λaQ b=>?_);refine au1 ?_;cases b;refine au1 ?_;refine T.N1 λV=>?_;refine au0 ?_;have hres:=g_.inj b;subst hres;exact ia
section
open Go.Shelf
def Tryz.lays189_ren:Go.Shelf.Ren:=⟨λ| 189=>30|125=>64|257=>63|128=>104|129=>105|294=>95|295=>96|296=>97|297=>98|298=>99|299=>100|216=>101|300=>102|301=>103|328=>127|329=>128|330=>129|331=>130|332=>131|215=>132|343=>143|n=>n,λ| 28=>66|3=>3|46=>121|0=>0|51=>169|53=>108|4=>4|183=>161|182=>160|131=>166|5=>5|9=>9|218=>199|222=>203|228=>219|229=>220|n=>n,λ| n=>n⟩
theorem Tryz.lays189:Go.Proofs.Lays.n189 Tryz.prog Tryz.lays189_ren:={
 mixed:=by kernel_rfl
 f125:=Tryz.func64.trans (congrArg some (by kernel_rfl))
 f128:=Tryz.func104.trans (congrArg some (by kernel_rfl))
 f129:=Tryz.func105.trans (congrArg some (by kernel_rfl))
 f189:=Tryz.func30.trans (congrArg some (by kernel_rfl))
 f215:=Tryz.func132.trans (congrArg some (by kernel_rfl))
 f216:=Tryz.func101.trans (congrArg some (by kernel_rfl))
 f257:=Tryz.func63.trans (congrArg some (by kernel_rfl))
 f294:=Tryz.func95.trans (congrArg some (by kernel_rfl))
 f295:=Tryz.func96.trans (congrArg some (by kernel_rfl))
 f296:=Tryz.func97.trans (congrArg some (by kernel_rfl))
 f297:=Tryz.func98.trans (congrArg some (by kernel_rfl))
 f298:=Tryz.func99.trans (congrArg some (by kernel_rfl))
 f299:=Tryz.func100.trans (congrArg some (by kernel_rfl))
 f300:=Tryz.func102.trans (congrArg some (by kernel_rfl))
 f301:=Tryz.func103.trans (congrArg some (by kernel_rfl))
 f328:=Tryz.func127.trans (congrArg some (by kernel_rfl))
 f329:=Tryz.func128.trans (congrArg some (by kernel_rfl))
 f330:=Tryz.func129.trans (congrArg some (by kernel_rfl))
 f331:=Tryz.func130.trans (congrArg some (by kernel_rfl))
 f332:=Tryz.func131.trans (congrArg some (by kernel_rfl))
 f343:=Tryz.func143.trans (congrArg some (by kernel_rfl))
 t0:=Tryz.underlying0
 a0:=Tryz.isAgg0
 z0:=Tryz.sizeOf0
 v0:=Tryz.zeroValue0
 t3:=Tryz.underlying3
 a3:=Tryz.isAgg3
 z3:=Tryz.sizeOf3
 v3:=Tryz.zeroValue3
 t4:=Tryz.underlying4
 a4:=Tryz.isAgg4
 z4:=Tryz.sizeOf4
 v4:=Tryz.zeroValue4
 t5:=Tryz.underlying5
 a5:=Tryz.isAgg5
 z5:=Tryz.sizeOf5
 v5:=Tryz.zeroValue5
 t9:=Tryz.underlying9
 a9:=Tryz.isAgg9
 z9:=Tryz.sizeOf9
 v9:=Tryz.zeroValue9
 t28:=Tryz.underlying66
 a28:=Tryz.isAgg66
 z28:=Tryz.sizeOf66
 v28:=Tryz.zeroValue66
 t46:=Tryz.underlying121
 a46:=Tryz.isAgg121
 z46:=Tryz.sizeOf121
 v46:=Tryz.zeroValue121
 t51:=Tryz.underlying169
 a51:=Tryz.isAgg169
 z51:=Tryz.sizeOf169
 v51:=Tryz.zeroValue169
 t53:=Tryz.underlying108
 a53:=Tryz.isAgg108
 z53:=Tryz.sizeOf108
 v53:=Tryz.zeroValue108
 t131:=Tryz.underlying166
 a131:=Tryz.isAgg166
 z131:=Tryz.sizeOf166
 v131:=Tryz.zeroValue166
 t182:=Tryz.underlying160
 a182:=Tryz.isAgg160
 z182:=Tryz.sizeOf160
 v182:=Tryz.zeroValue160
 t183:=Tryz.underlying161
 a183:=Tryz.isAgg161
 z183:=Tryz.sizeOf161
 v183:=Tryz.zeroValue161
 t218:=Tryz.underlying199
 a218:=Tryz.isAgg199
 z218:=Tryz.sizeOf199
 v218:=Tryz.zeroValue199
 t222:=Tryz.underlying203
 a222:=Tryz.isAgg203
 z222:=Tryz.sizeOf203
 v222:=Tryz.zeroValue203
 t228:=Tryz.underlying219
 a228:=Tryz.isAgg219
 z228:=Tryz.sizeOf219
 v228:=Tryz.zeroValue219
 t229:=Tryz.underlying220
 a229:=Tryz.isAgg220
 z229:=Tryz.sizeOf220
 v229:=Tryz.zeroValue220 }
open Go.Sort Go.RowKit in
theorem Tryz.slices_Sort_int (blk off cap:Nat) (zs:List Int) (w:World) (hH:Holds (Value.int .i64) w blk off zs.toArray) (hblk:blk<w.heap.size) (hsz:zs.length<4611686018427387904) :
 Calls Tryz.prog 30 #[.slice (some ⟨blk,off,none⟩) zs.length cap] w λe w' =>
  e=.returned (.tuple #[])/\∃n os,w'=Go.Sort.grow (putRow (Value.int .i64) (Sort.ahead w n) blk off (zs.mergeSort λx y=>decide (x<=y)).toArray) os:=Any.slices_Sort_int Tryz.lays189 blk off cap zs w hH hblk hsz
def Tryz.laysNm220_ren:Go.Shelf.Ren:=⟨λ| 20=>31|n=>n,λ| 22=>66|3=>3|4=>4|0=>0|n=>n,λ| n=>n⟩
theorem Tryz.laysNm220:Go.Proofs.Lays2.n20 Tryz.prog Tryz.laysNm220_ren:={
 mixed:=by kernel_rfl
 f20:=Tryz.func31.trans (congrArg some (by kernel_rfl))
 t0:=Tryz.underlying0
 a0:=Tryz.isAgg0
 z0:=Tryz.sizeOf0
 v0:=Tryz.zeroValue0
 t3:=Tryz.underlying3
 a3:=Tryz.isAgg3
 z3:=Tryz.sizeOf3
 v3:=Tryz.zeroValue3
 t4:=Tryz.underlying4
 a4:=Tryz.isAgg4
 z4:=Tryz.sizeOf4
 v4:=Tryz.zeroValue4
 t22:=Tryz.underlying66
 a22:=Tryz.isAgg66
 z22:=Tryz.sizeOf66
 v22:=Tryz.zeroValue66
 i3:=by kernel_rfl }
open Go.RowKit Go.Lib Go.Sort in
open Go.RowKit Go.Lib Go.Sort in
theorem Tryz.slices_Compact_int (blk off cap:Nat) (zs:List Int) (w:World) (hH:Holds (Value.int .i64) w blk off zs.toArray) (hsz:zs.length<=9223372036854775807) (hcap:zs.length<=cap) :
 Calls Tryz.prog 31 #[.slice (some ⟨blk,off,none⟩) zs.length cap] w λe w'=>e=.returned (.slice (some ⟨blk,off,none⟩) (Lib.compact zs).length cap)/\∃q,w'=putRow (Value.int .i64) (Sort.ahead w q) blk off (Lib.compact zs++d_ (zs.length - (Lib.compact zs).length) 0).toArray:=Any.slices_Compact_int Tryz.laysNm220 blk off cap zs w hH hsz hcap
open Go.RowKit Go.Lib Go.Sort in
theorem Tryz.slices_Compact_int_empty (a:Option Addr) (cap:Nat) (w:World) :
 Calls Tryz.prog 31 #[.slice a 0 cap] w λe w'=>e=.returned (.slice a 0 cap)/\w'=w:=Any.slices_Compact_int_empty Tryz.laysNm220 a cap w
open Go.RowKit Go.Sort in
theorem Tryz.slices_Sort_int_none (p:Option Addr) (cap:Nat) (w:World) :
 Calls Tryz.prog 30 #[.slice p 0 cap] w λe w'=>e=.returned (.tuple #[])/\w'=w:=Any.slices_Sort_int_none Tryz.lays189 p cap w
end
end Go.Proofs.YtnofgfobljadbaaGreat
