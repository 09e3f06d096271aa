/- What slices.Insert and slices.Delete do to rows of the call's own, written by ownlib.py. Conditions of each: the row is the call's own, the place lies within it, there is room for one more. -/
import Derived.Test.YtaoocidchclpnaaGreatZY
import Derived.Test.YtaoocidchclpnaaGreatShAY
import Derived.Test.YtaoocidchclpnaaGreatEqLY
import Derived.Test.YtaoocidchclpnaaGreatInsY
import Derived.Test.YtaoocidchclpnaaGreatRecY
open List renaming replicate→a_, length_take→g_, length_drop→i_, length_append→l_, length_replicate→p_
open ByteArray renaming mk→d_
open Bool renaming noConfusion→f_
open Nat renaming le_refl→j_, le_trans→o_
namespace Go.Proofs.YtaoocidchclpnaaGreat
open IntKind (i64)
set_option maxRecDepth 100000
set_option maxHeartbeats 4000000
open Go.RowKit
set_option linter.unusedVariables false
theorem pW (w:World) (V:View) (H:List HObj) (w1:World) (A:Option Addr) (c:Nat) (l:List DElem) (hs : ∀ w',Hp w V H w'→hJ (vw w') eElem A c l) (hr:od l.length 56=true) (hm:l.length≤maxLen)
 (hh:Hp w V H w1) : Calls Tryz.prog 112 #[.slice A l.length c] w1 (fun r w2=>∃ A' c',r = .returned (.slice A' l.length c')∧Hp w V (row 52 eElem A' c' l::H) w2):=by
 have hs1:=hs _ hh
 refine T.iZ (l:=[.slice A l.length c]) Tryz.func112 rfl rfl rfl ?_ hh
 clear hh
 refine au3 ?_
 cases A with
 | none =>
  refine au0 ?_
  refine T.cb true (fun _=>?_) (fun h=>f_ h)
  refine au1 ?_
  obtain rfl:l=[]:=by
   cases l with
   | nil=>rfl
   | cons x l=>exact absurd (hs1.some_ (k:=0) rfl (by decide)) (by decide)
  refine T.iG 52 eElem ?_
  refine T.ji rfl ?_
  repeat first | refine T.iX ?_ | refine T.iJ ?_
  exact T.jK rfl (rT rfl) fun w' hh=>⟨none,0,rfl,hh⟩
 | some a =>
  refine au0 ?_
  refine T.cb false (fun h=>f_ h) (fun _=>?_)
  refine au1 ?_
  refine T.NS fun b1=>?_
  refine au0 ?_
  refine(fun (h:T _ _ _ ((row 52 eElem (some ⟨b1,0,none⟩) 0 ([] : List DElem))::_) _ _)=>(fun a w' hf hh=>h a w' hf (hh.fresh_obj _ ⟨rfl,rfl,rfl,j_ _,fun _ _ _=>rfl⟩ ⟨j_ _,by decide,.inl rfl⟩ (fun b hb=>by cases hb)) : T _ _ _ _ _ _)) ?_
  obtain⟨ti,hti,hz1,hz2,hz3⟩:=qS
  refine T.ia (W1.nA (E:=eElem) (l:=([] : List DElem)) (m:=l) 0 _ _ 56 ti _ b_ k_ rfl k_ hti hz1 hz2 hz3 rfl (by decide) rfl rfl (fun w' hh=>(hJ.sF (hs w' (hh.u)))) (by simpa +zetaDelta using hr) (by simpa +zetaDelta using hm) (fun A' c'=>?_))
  refine au0 ?_
  refine T.ji rfl ?_
  repeat first | refine T.iX ?_ | refine T.iJ ?_
  exact T.jK rfl (rT rfl) fun w' hh=>⟨A',c',rfl,hh.u⟩
theorem ma (w:World) (V:View) (H:List HObj) (w1:World) (A:Option Addr) (c:Nat) (l:List DSpot) (hs : ∀ w',Hp w V H w'→hJ (vw w') eSpot A c l) (hr:od l.length 32=true) (hm:l.length≤maxLen)
 (hh:Hp w V H w1) : Calls Tryz.prog 114 #[.slice A l.length c] w1 (fun r w2=>∃ A' c',r = .returned (.slice A' l.length c')∧Hp w V (row 96 eSpot A' c' l::H) w2):=by
 have hs1:=hs _ hh
 refine T.iZ (l:=[.slice A l.length c]) Tryz.func114 rfl rfl rfl ?_ hh
 clear hh
 refine au3 ?_
 cases A with
 | none =>
  refine au0 ?_
  refine T.cb true (fun _=>?_) (fun h=>f_ h)
  refine au1 ?_
  obtain rfl:l=[]:=by
   cases l with
   | nil=>rfl
   | cons x l=>exact absurd (hs1.some_ (k:=0) rfl (by decide)) (by decide)
  refine T.iG 96 eSpot ?_
  refine T.ji rfl ?_
  repeat first | refine T.iX ?_ | refine T.iJ ?_
  exact T.jK rfl (rT rfl) fun w' hh=>⟨none,0,rfl,hh⟩
 | some a =>
  refine au0 ?_
  refine T.cb false (fun h=>f_ h) (fun _=>?_)
  refine au1 ?_
  refine T.NS fun b1=>?_
  refine au0 ?_
  refine(fun (h:T _ _ _ ((row 96 eSpot (some ⟨b1,0,none⟩) 0 ([] : List DSpot))::_) _ _)=>(fun a w' hf hh=>h a w' hf (hh.fresh_obj _ ⟨rfl,rfl,rfl,j_ _,fun _ _ _=>rfl⟩ ⟨j_ _,by decide,.inl rfl⟩ (fun b hb=>by cases hb)) : T _ _ _ _ _ _)) ?_
  obtain⟨ti,hti,hz1,hz2,hz3⟩:=oM
  refine T.ia (W1.nA (E:=eSpot) (l:=([] : List DSpot)) (m:=l) 0 _ _ 32 ti _ b_ k_ rfl k_ hti hz1 hz2 hz3 rfl (by decide) rfl rfl (fun w' hh=>(hJ.sF (hs w' (hh.u)))) (by simpa +zetaDelta using hr) (by simpa +zetaDelta using hm) (fun A' c'=>?_))
  refine au0 ?_
  refine T.ji rfl ?_
  repeat first | refine T.iX ?_ | refine T.iJ ?_
  exact T.jK rfl (rT rfl) fun w' hh=>⟨A',c',rfl,hh.u⟩
theorem ku (w:World) (V:View) (H:List HObj) (w1:World) (A:Option Addr) (c:Nat) (l:List Int) (hs : ∀ w',Hp w V H w'→hJ (vw w') hO A c l) (hr:od l.length 8=true) (hm:l.length≤maxLen)
 (hh:Hp w V H w1) : Calls Tryz.prog 113 #[.slice A l.length c] w1 (fun r w2=>∃ A' c',r = .returned (.slice A' l.length c')∧Hp w V (row 3 hO A' c' l::H) w2):=by
 have hs1:=hs _ hh
 refine T.iZ (l:=[.slice A l.length c]) Tryz.func113 rfl rfl rfl ?_ hh
 clear hh
 refine au3 ?_
 cases A with
 | none =>
  refine au0 ?_
  refine T.cb true (fun _=>?_) (fun h=>f_ h)
  refine au1 ?_
  obtain rfl:l=[]:=by
   cases l with
   | nil=>rfl
   | cons x l=>exact absurd (hs1.some_ (k:=0) rfl (by decide)) (by decide)
  refine T.iG 3 hO ?_
  refine T.ji rfl ?_
  repeat first | refine T.iX ?_ | refine T.iJ ?_
  exact T.jK rfl (rT rfl) fun w' hh=>⟨none,0,rfl,hh⟩
 | some a =>
  refine au0 ?_
  refine T.cb false (fun h=>f_ h) (fun _=>?_)
  refine au1 ?_
  refine T.NS fun b1=>?_
  refine au0 ?_
  refine(fun (h:T _ _ _ ((row 3 hO (some ⟨b1,0,none⟩) 0 ([] : List Int))::_) _ _)=>(fun a w' hf hh=>h a w' hf (hh.fresh_obj _ ⟨rfl,rfl,rfl,j_ _,fun _ _ _=>rfl⟩ ⟨j_ _,by decide,.inl rfl⟩ (fun b hb=>by cases hb)) : T _ _ _ _ _ _)) ?_
  obtain⟨ti,hti,hz1,hz2,hz3⟩:=i3_
  refine T.ia (W1.nA (E:=hO) (l:=([] : List Int)) (m:=l) 0 _ _ 8 ti _ b_ k_ rfl k_ hti hz1 hz2 hz3 rfl (by decide) rfl rfl (fun w' hh=>(hJ.sF (hs w' (hh.u)))) (by simpa +zetaDelta using hr) (by simpa +zetaDelta using hm) (fun A' c'=>?_))
  refine au0 ?_
  refine T.ji rfl ?_
  repeat first | refine T.iX ?_ | refine T.iJ ?_
  exact T.jK rfl (rT rfl) fun w' hh=>⟨A',c',rfl,hh.u⟩
theorem po (w:World) (V:View) (G:List HObj) (w1:World) (A:Option Addr) (c:Nat) (l:List DElem) (k b tb:Nat) (x:DElem) (hk:k≤l.length) (hr:od (l.length + 1) 56=true) (hm:l.length + 1≤maxLen)
 (n:Hp w V (row 52 eElem A c l::box b tb (DElem.cells x)::G) w1) : Calls Tryz.prog 97 #[.slice A l.length c,.int .i64 (k:Int),.slice (some ⟨b,0,none⟩) 1 1] w1 (fun r L=>∃ A' c',r = .returned (.slice A' (js l k x).length c')∧Hp w V (row 52 eElem A' c' (js l k x)::box b tb (DElem.cells x)::G) L):=by
 have hVb:=n.base;have hM:l.length + 1≤9223372036854775807:=o_ hm (by decide);have p:i64.wrap ((l.length:Int) + 1)=((l.length + 1:Nat) : Int):=by rw [IntKind.wrap_i64];omega
 have v:i64.wrap ((k:Int) + 1)=((k + 1:Nat) : Int):=by rw [IntKind.wrap_i64];omega
 have F:i64.wrap (((l.length + 1:Nat) : Int) - (k:Int))=((l.length + 1 - k:Nat) : Int):=by rw [IntKind.wrap_i64];omega
 refine T.iZ (l:=[.slice A l.length c,vi (k:Int),.slice (some ⟨b,0,none⟩) 1 1]) Tryz.func97 rfl rfl rfl ?_ n;clear n;refine T.lz 0 rfl (fun hlc hcm=>?_);refine au2 ?_;refine T.l (.slice (iW A c k 6) (l.length - k) (c - k)) (fun o n=>im (e:=52) (s:=6) (lx:=(some _)) (hx:=none) (lo:=(k:Int)) (hi:=(l.length:Int)) (k:=.i64) (k':=.i64) rfl rfl k_ k_ rfl rfl (by omega) (by omega) (by omega)) ?_;refine au3 ?_;refine T.cb false (fun h=>f_ h) (fun _=>?_);refine au3 ?_
 refine T.cb ((k:Int) == (l.length:Int)) (fun hc=>?_) (fun hc=>?_);have hke:k=l.length:=by have:=eq_of_beq hc;omega
 subst hke;refine au1 ?_;refine T.ia (W1.a (E:=eElem) (l:=l) (m:=[x]) 0 56 qS (fun o n=>(hJ.sF (iD (E:=eElem) (f:=DElem.cells) [x] (fun _ _=>rfl) n_ (fun j=>n.cellBox (i:=1) b_ j)))) hr hm (fun A' c'=>?_));refine au0 ?_;refine T.ji rfl ?_;(repeat first | refine T.iX ?_ | refine T.iJ ?_)
 exact T.jK rfl (rT rfl) fun o n=>⟨A',c',by rw [lP],by rw [lP];exact n⟩;have hkn:k < l.length:=by have : ¬ ((k:Int)=(l.length:Int)):=ne_of_beq_false hc;omega
 refine as2 ?_;refine ac3 ?_;refine T.ii 28 (vi ((l.length + 1:Nat) : Int)) rfl (congrArg (Value.int .i64) p) ?_;refine au0 ?_;refine T.cb (decide ((c:Int) < ((l.length + 1:Nat) : Int))) (fun hc=>?_) (fun hc=>?_);have hg:c < k + (l.length + 1 - k):=by have:=of_decide_eq_true hc;omega
 have B:(l.take k ++ a_ (l.length + 1 - k) ((DElem.mk (DKey.mk 0 0 0) 0 0 (d_ #[])))).length=l.length + 1:=by simp only [l_,g_,p_];omega
 refine au1 ?_;refine T.l (.slice (iW A c 0 6) k c) (fun o n=>im (e:=52) (s:=6) (lx:=none) (hx:=(some _)) (lo:=0) (hi:=(k:Int)) (k:=.i64) (k':=.i64) rfl rfl k_ k_ rfl rfl (by omega) (by omega) (by omega)) ?_;refine T.ii 34 (.slice A k c) rfl (by rw [kr]) ?_;refine ac3 ?_;refine T.ii 37 (vi ((l.length + 1:Nat) : Int)) rfl (congrArg (Value.int .i64) p) ?_;refine au0 ?_;refine T.ii 39 (vi ((l.length + 1 - k:Nat) : Int)) rfl (congrArg (Value.int .i64) F) ?_
 let y:Value:=.agg #[vi 0,vi 0,vi 0,vi 0,vi 0,.string (d_ #[])];obtain⟨K,D,H,I,J⟩:=info_parts (P:=Tryz.prog) (e:=52) (z:=y) (size:=6) (bytes:=56) k_
 refine T.ia (W1.nR (E:=eElem) (x:=(DElem.mk (DKey.mk 0 0 0) 0 0 (d_ #[]))) (z:=y) (kn:=.i64) 0 k (l.length + 1 - k) _ _ 56 K b_ hk (by omega) (by omega) hg k_ rfl k_ k_ D H I J (fun _=>rfl) rfl (by decide) rfl rfl (by rw [show k + (l.length + 1 - k)=l.length + 1 by omega];exact hr) (by omega) (fun A' c'=>?_));refine au0 ?_;refine T.lz 0 rfl (fun hlc' hcm'=>?_);refine au1 ?_
 refine T.l (.slice (iW A' c' k 6) ((l.take k ++ a_ (l.length + 1 - k) ((DElem.mk (DKey.mk 0 0 0) 0 0 (d_ #[])))).length - k) (c' - k)) (fun o n=>im (e:=52) (s:=6) (lx:=(some _)) (hx:=none) (lo:=(k:Int)) (hi:=(((l.take k ++ a_ (l.length + 1 - k) ((DElem.mk (DKey.mk 0 0 0) 0 0 (d_ #[])))).length:Nat) : Int)) (k:=.i64) (k':=.i64) rfl rfl k_ k_ rfl rfl (by omega) (by omega) (by omega)) ?_;refine au0 ?_
 refine T.ia (W1.kZ (E:=eElem) (l:=(l.take k ++ a_ (l.length + 1 - k) ((DElem.mk (DKey.mk 0 0 0) 0 0 (d_ #[]))))) (m:=[x]) 0 k ((l.take k ++ a_ (l.length + 1 - k) ((DElem.mk (DKey.mk 0 0 0) 0 0 (d_ #[])))).length - k) _ _ b_ k_ rfl k_ (fun _=>k_) (by decide) rfl rfl (by omega) (fun o n=>(hJ.sF (iD (E:=eElem) (f:=DElem.cells) [x] (fun _ _=>rfl) n_ (fun j=>n.cellBox (i:=2) b_ j)))) ?_);refine au0 ?_
 have C:(over (l.take k ++ a_ (l.length + 1 - k) ((DElem.mk (DKey.mk 0 0 0) 0 0 (d_ #[])))) k ([x].take ((l.take k ++ a_ (l.length + 1 - k) ((DElem.mk (DKey.mk 0 0 0) 0 0 (d_ #[])))).length - k))).length=(l.take k ++ a_ (l.length + 1 - k) ((DElem.mk (DKey.mk 0 0 0) 0 0 (d_ #[])))).length:=jR _ _ _ (by rw [g_];have : [x].length=1:=rfl;omega);have hld:(l.drop k).length=l.length - k:=i_
 have hcut:ja l (k:Int) (l.length:Int)=some (l.drop k):=by unfold ja;rw [if_pos ⟨by omega,by omega,by omega⟩];simp
 refine T.ik ?_;refine T.iU [] k_ ?_;refine ta [0,1,2,3] ?_;refine T.ii 49 (vi ((k + 1:Nat) : Int)) rfl (congrArg (Value.int .i64) v) ?_
 refine TA.tk 4 (.slice (iW A' c' (k + 1) 6) ((l.take k ++ a_ (l.length + 1 - k) ((DElem.mk (DKey.mk 0 0 0) 0 0 (d_ #[])))).length - (k + 1)) (c' - (k + 1))) rfl (Hp.q vr hVb) (fun o n=>im (e:=52) (s:=6) (lx:=(some _)) (hx:=none) (lo:=((k + 1:Nat) : Int)) (hi:=(((l.take k ++ a_ (l.length + 1 - k) ((DElem.mk (DKey.mk 0 0 0) 0 0 (d_ #[])))).length:Nat) : Int)) (k:=.i64) (k':=.i64) rfl rfl k_ k_ rfl rfl (by omega) (by omega) (by omega)) ?_;refine ta [5,6] ?_
 refine TA.tk 7 (.slice (iW A c k 6) (l.length - k) (c - k)) rfl (Hp.q vr hVb) (fun o n=>im (e:=52) (s:=6) (lx:=(some _)) (hx:=none) (lo:=(k:Int)) (hi:=(l.length:Int)) (k:=.i64) (k':=.i64) rfl rfl k_ k_ rfl rfl (by omega) (by omega) (by omega)) ?_;refine T.ii 53 (.slice (iW A c k 6) (l.drop k).length (c - k)) rfl (by rw [hld]) ?_
 refine TA.j 8 rfl (W1.kZ (E:=eElem) (l:=over (l.take k ++ a_ (l.length + 1 - k) ((DElem.mk (DKey.mk 0 0 0) 0 0 (d_ #[])))) k ([x].take ((l.take k ++ a_ (l.length + 1 - k) ((DElem.mk (DKey.mk 0 0 0) 0 0 (d_ #[])))).length - k))) (m:=l.drop k) 0 (k + 1) ((l.take k ++ a_ (l.length + 1 - k) ((DElem.mk (DKey.mk 0 0 0) 0 0 (d_ #[])))).length - (k + 1)) _ _ b_ k_ rfl k_ (fun _=>k_) (by decide) rfl rfl (by rw [C];omega) (fun o n=>(hJ.sF (hJ.cut (n.row_slOk (i:=1) b_) hcut))) (TA.on (Hp.q vr hVb) (TA.d ?_)))
 refine T.iV (H':=(row 52 eElem A' c' (js l k x)::row 52 eElem A c l::box b tb (DElem.cells x)::G)) (congrArg (fun q=>row 52 eElem A' c' q::row 52 eElem A c l::box b tb (DElem.cells x)::G) (oQ x _ hkn (by omega) (by omega))) ?_;refine au1 ?_;refine T.ji rfl ?_;(repeat first | refine T.iX ?_ | refine T.iJ ?_);exact T.jK rfl (rT rfl) fun o n=>⟨A',c',by rw [kE x hk,B],n.u⟩;have hroom:l.length + 1≤c:=by have:=of_decide_eq_false hc;omega
 have hld:(l.drop k).length=l.length - k:=i_;have hcut:ja l (k:Int) (l.length:Int)=some (l.drop k):=by unfold ja;rw [if_pos ⟨by omega,by omega,by omega⟩];simp
 have hlt:(l.take (k + 1)).length=k + 1:=by rw [g_];omega
 have M:(l.take (k + 1) ++ l.drop k).length=l.length + 1:=by rw [l_,hlt,hld];omega
 refine au1 ?_;refine T.ii 59 (vi ((l.length + 1:Nat) : Int)) rfl (congrArg (Value.int .i64) p) ?_;refine T.l (.slice (iW A c 0 6) (l.length + 1) c) (fun o n=>im (e:=52) (s:=6) (lx:=none) (hx:=(some _)) (lo:=0) (hi:=((l.length + 1:Nat) : Int)) (k:=.i64) (k':=.i64) rfl rfl k_ k_ rfl rfl (by omega) (by omega) (by omega)) ?_;refine T.ii 60 (.slice A (l.length + 1) c) rfl (by rw [kr]) ?_;refine au2 ?_;refine T.ii 65 (vi ((k + 1:Nat) : Int)) rfl (congrArg (Value.int .i64) v) ?_
 refine T.l (.slice (iW A c (k + 1) 6) (l.length + 1 - (k + 1)) (c - (k + 1))) (fun o n=>im (e:=52) (s:=6) (lx:=(some _)) (hx:=none) (lo:=((k + 1:Nat) : Int)) (hi:=((l.length + 1:Nat) : Int)) (k:=.i64) (k':=.i64) rfl rfl k_ k_ rfl rfl (by omega) (by omega) (by omega)) (T.l (.bool false) (fun o n=>mt (E:=eElem) (e:=52) (t:=43) (tR:=4) (s:=6) (i:=1) (j:=0) (off:=(k + 1) * 6) rfl rfl rfl Tryz.func106 k_ k_ k_ k_ k_ (fun _=>k_) n b_ b_ (by decide) (fun g hg=>oK hg (by omega)) (by omega) (by decide)) ?_)
 refine au0 ?_;refine T.cb true (fun _=>?_) (fun h=>f_ h);refine T.ik ?_;refine T.iU [] k_ ?_;refine ta [0,1,2,3] ?_;refine T.ii 72 (vi ((k + 1:Nat) : Int)) rfl (congrArg (Value.int .i64) v) ?_;refine TA.tk 4 (.slice (iW A c (k + 1) 6) (l.length + 1 - (k + 1)) (c - (k + 1))) rfl (Hp.q vr hVb) (fun o n=>im (e:=52) (s:=6) (lx:=(some _)) (hx:=none) (lo:=((k + 1:Nat) : Int)) (hi:=((l.length + 1:Nat) : Int)) (k:=.i64) (k':=.i64) rfl rfl k_ k_ rfl rfl (by omega) (by omega) (by omega)) ?_
 refine ta [5,6] ?_
 refine TA.tk 7 (.slice (iW A c k 6) (l.length + 1 - k) (c - k)) rfl (Hp.q vr hVb) (fun o n=>im (e:=52) (s:=6) (lx:=(some _)) (hx:=none) (lo:=(k:Int)) (hi:=((l.length + 1:Nat) : Int)) (k:=.i64) (k':=.i64) rfl rfl k_ k_ rfl rfl (by omega) (by omega) (by omega)) (TA.j 8 rfl (W1.oH (E:=eElem) (l:=l) (m:=l.drop k) 0 (k + 1) (l.length + 1 - (k + 1)) (l.length + 1 - k) _ _ b_ k_ rfl k_ (fun _=>k_) (by decide) rfl rfl (by rw [hld];omega) (by omega) (by omega) (by omega) (by omega) (fun o n=>(hJ.sF (hJ.cut (n.row_slOk (i:=0) b_) hcut))) (TA.on (Hp.q vr hVb) (TA.d ?_))))
 refine au1 ?_;refine T.l (.slice (iW A c k 6) (l.length + 1 - k) (c - k)) (fun o n=>im (e:=52) (s:=6) (lx:=(some _)) (hx:=none) (lo:=(k:Int)) (hi:=((l.length + 1:Nat) : Int)) (k:=.i64) (k':=.i64) rfl rfl k_ k_ rfl rfl (by omega) (by omega) (by omega)) ?_;refine au0 ?_
 refine T.ia (W1.kZ (E:=eElem) (l:=l.take (k + 1) ++ l.drop k) (m:=[x]) 0 k (l.length + 1 - k) _ _ b_ k_ rfl k_ (fun _=>k_) (by decide) rfl rfl (by omega) (fun o n=>(hJ.sF (iD (E:=eElem) (f:=DElem.cells) [x] (fun _ _=>rfl) n_ (fun j=>n.cellBox (i:=1) b_ j)))) ?_);refine au0 ?_;refine T.iV (H':=(row 52 eElem A c (js l k x)::box b tb (DElem.cells x)::G)) (congrArg (fun q=>row 52 eElem A c q::box b tb (DElem.cells x)::G) (oP x hkn (by omega))) ?_;refine au1 ?_
 refine T.ji rfl ?_;(repeat first | refine T.iX ?_ | refine T.iJ ?_);exact T.jK rfl (rT rfl) fun o n=>⟨A,c,by rw [kE x hk],n⟩
theorem pp (w:World) (V:View) (G:List HObj) (w1:World) (A:Option Addr) (c:Nat) (l:List DSpot) (k b tb:Nat) (x:DSpot) (hk:k≤l.length) (hr:od (l.length + 1) 32=true) (hm:l.length + 1≤maxLen)
 (n:Hp w V (row 96 eSpot A c l::box b tb (DSpot.cells x)::G) w1) : Calls Tryz.prog 99 #[.slice A l.length c,.int .i64 (k:Int),.slice (some ⟨b,0,none⟩) 1 1] w1 (fun r K=>∃ A' c',r = .returned (.slice A' (js l k x).length c')∧Hp w V (row 96 eSpot A' c' (js l k x)::box b tb (DSpot.cells x)::G) K):=by
 have hVb:=n.base;have hM:l.length + 1≤9223372036854775807:=o_ hm (by decide);have p:i64.wrap ((l.length:Int) + 1)=((l.length + 1:Nat) : Int):=by rw [IntKind.wrap_i64];omega
 have v:i64.wrap ((k:Int) + 1)=((k + 1:Nat) : Int):=by rw [IntKind.wrap_i64];omega
 have D:i64.wrap (((l.length + 1:Nat) : Int) - (k:Int))=((l.length + 1 - k:Nat) : Int):=by rw [IntKind.wrap_i64];omega
 refine T.iZ (l:=[.slice A l.length c,vi (k:Int),.slice (some ⟨b,0,none⟩) 1 1]) Tryz.func99 rfl rfl rfl ?_ n;clear n;refine T.lz 0 rfl (fun hlc hcm=>?_);refine au2 ?_;refine T.l (.slice (iW A c k 4) (l.length - k) (c - k)) (fun o n=>im (e:=96) (s:=4) (lx:=(some _)) (hx:=none) (lo:=(k:Int)) (hi:=(l.length:Int)) (k:=.i64) (k':=.i64) rfl rfl k_ k_ rfl rfl (by omega) (by omega) (by omega)) ?_;refine au3 ?_;refine T.cb false (fun h=>f_ h) (fun _=>?_);refine au3 ?_
 refine T.cb ((k:Int) == (l.length:Int)) (fun hc=>?_) (fun hc=>?_);have hke:k=l.length:=by have:=eq_of_beq hc;omega
 subst hke;refine au1 ?_;refine T.ia (W1.a (E:=eSpot) (l:=l) (m:=[x]) 0 32 oM (fun o n=>(hJ.sF (iD (E:=eSpot) (f:=DSpot.cells) [x] (fun _ _=>rfl) n_ (fun j=>n.cellBox (i:=1) b_ j)))) hr hm (fun A' c'=>?_));refine au0 ?_;refine T.ji rfl ?_;(repeat first | refine T.iX ?_ | refine T.iJ ?_);exact T.jK rfl (rT rfl) fun o n=>⟨A',c',by rw [lP],by rw [lP];exact n⟩
 have hkn:k < l.length:=by have : ¬ ((k:Int)=(l.length:Int)):=ne_of_beq_false hc;omega
 refine as2 ?_;refine ac3 ?_;refine T.ii 28 (vi ((l.length + 1:Nat) : Int)) rfl (congrArg (Value.int .i64) p) ?_;refine au0 ?_;refine T.cb (decide ((c:Int) < ((l.length + 1:Nat) : Int))) (fun hc=>?_) (fun hc=>?_);have hg:c < k + (l.length + 1 - k):=by have:=of_decide_eq_true hc;omega
 have y:(l.take k ++ a_ (l.length + 1 - k) ((DSpot.mk (DKey.mk 0 0 0) 0))).length=l.length + 1:=by simp only [l_,g_,p_];omega
 refine au1 ?_;refine T.l (.slice (iW A c 0 4) k c) (fun o n=>im (e:=96) (s:=4) (lx:=none) (hx:=(some _)) (lo:=0) (hi:=(k:Int)) (k:=.i64) (k':=.i64) rfl rfl k_ k_ rfl rfl (by omega) (by omega) (by omega)) ?_;refine T.ii 34 (.slice A k c) rfl (by rw [kr]) ?_;refine ac3 ?_;refine T.ii 37 (vi ((l.length + 1:Nat) : Int)) rfl (congrArg (Value.int .i64) p) ?_;refine au0 ?_;refine T.ii 39 (vi ((l.length + 1 - k:Nat) : Int)) rfl (congrArg (Value.int .i64) D) ?_
 obtain⟨J,C,F,H,I⟩:=oM;refine T.ia (W1.nR (E:=eSpot) (x:=(DSpot.mk (DKey.mk 0 0 0) 0)) (z:=.agg #[vi 0,vi 0,vi 0,vi 0]) (kn:=.i64) 0 k (l.length + 1 - k) _ _ 32 J b_ hk (by omega) (by omega) hg k_ rfl k_ k_ C F H I (fun _=>rfl) rfl (by decide) rfl rfl (by rw [show k + (l.length + 1 - k)=l.length + 1 by omega];exact hr) (by omega) (fun A' c'=>?_));refine au0 ?_
 refine T.lz 0 rfl (fun hlc' hcm'=>?_);refine au1 ?_;refine T.l (.slice (iW A' c' k 4) ((l.take k ++ a_ (l.length + 1 - k) ((DSpot.mk (DKey.mk 0 0 0) 0))).length - k) (c' - k)) (fun o n=>im (e:=96) (s:=4) (lx:=(some _)) (hx:=none) (lo:=(k:Int)) (hi:=(((l.take k ++ a_ (l.length + 1 - k) ((DSpot.mk (DKey.mk 0 0 0) 0))).length:Nat) : Int)) (k:=.i64) (k':=.i64) rfl rfl k_ k_ rfl rfl (by omega) (by omega) (by omega)) ?_;refine au0 ?_
 refine T.ia (W1.kZ (E:=eSpot) (l:=(l.take k ++ a_ (l.length + 1 - k) ((DSpot.mk (DKey.mk 0 0 0) 0)))) (m:=[x]) 0 k ((l.take k ++ a_ (l.length + 1 - k) ((DSpot.mk (DKey.mk 0 0 0) 0))).length - k) _ _ b_ k_ rfl k_ (fun _=>k_) (by decide) rfl rfl (by omega) (fun o n=>(hJ.sF (iD (E:=eSpot) (f:=DSpot.cells) [x] (fun _ _=>rfl) n_ (fun j=>n.cellBox (i:=2) b_ j)))) ?_);refine au0 ?_
 have B:(over (l.take k ++ a_ (l.length + 1 - k) ((DSpot.mk (DKey.mk 0 0 0) 0))) k ([x].take ((l.take k ++ a_ (l.length + 1 - k) ((DSpot.mk (DKey.mk 0 0 0) 0))).length - k))).length=(l.take k ++ a_ (l.length + 1 - k) ((DSpot.mk (DKey.mk 0 0 0) 0))).length:=jR _ _ _ (by rw [g_];have : [x].length=1:=rfl;omega);have hld:(l.drop k).length=l.length - k:=i_;have hcut:ja l (k:Int) (l.length:Int)=some (l.drop k):=by unfold ja;rw [if_pos ⟨by omega,by omega,by omega⟩];simp
 refine T.ik ?_;refine T.iU [] k_ ?_;refine ta [0,1,2,3] ?_;refine T.ii 49 (vi ((k + 1:Nat) : Int)) rfl (congrArg (Value.int .i64) v) ?_
 refine TA.tk 4 (.slice (iW A' c' (k + 1) 4) ((l.take k ++ a_ (l.length + 1 - k) ((DSpot.mk (DKey.mk 0 0 0) 0))).length - (k + 1)) (c' - (k + 1))) rfl (Hp.q vr hVb) (fun o n=>im (e:=96) (s:=4) (lx:=(some _)) (hx:=none) (lo:=((k + 1:Nat) : Int)) (hi:=(((l.take k ++ a_ (l.length + 1 - k) ((DSpot.mk (DKey.mk 0 0 0) 0))).length:Nat) : Int)) (k:=.i64) (k':=.i64) rfl rfl k_ k_ rfl rfl (by omega) (by omega) (by omega)) ?_;refine ta [5,6] ?_
 refine TA.tk 7 (.slice (iW A c k 4) (l.length - k) (c - k)) rfl (Hp.q vr hVb) (fun o n=>im (e:=96) (s:=4) (lx:=(some _)) (hx:=none) (lo:=(k:Int)) (hi:=(l.length:Int)) (k:=.i64) (k':=.i64) rfl rfl k_ k_ rfl rfl (by omega) (by omega) (by omega)) ?_;refine T.ii 53 (.slice (iW A c k 4) (l.drop k).length (c - k)) rfl (by rw [hld]) ?_
 refine TA.j 8 rfl (W1.kZ (E:=eSpot) (l:=over (l.take k ++ a_ (l.length + 1 - k) ((DSpot.mk (DKey.mk 0 0 0) 0))) k ([x].take ((l.take k ++ a_ (l.length + 1 - k) ((DSpot.mk (DKey.mk 0 0 0) 0))).length - k))) (m:=l.drop k) 0 (k + 1) ((l.take k ++ a_ (l.length + 1 - k) ((DSpot.mk (DKey.mk 0 0 0) 0))).length - (k + 1)) _ _ b_ k_ rfl k_ (fun _=>k_) (by decide) rfl rfl (by rw [B];omega) (fun o n=>(hJ.sF (hJ.cut (n.row_slOk (i:=1) b_) hcut))) (TA.on (Hp.q vr hVb) (TA.d ?_)))
 refine T.iV (H':=(row 96 eSpot A' c' (js l k x)::row 96 eSpot A c l::box b tb (DSpot.cells x)::G)) (congrArg (fun q=>row 96 eSpot A' c' q::row 96 eSpot A c l::box b tb (DSpot.cells x)::G) (oQ x _ hkn (by omega) (by omega))) ?_;refine au1 ?_;refine T.ji rfl ?_;(repeat first | refine T.iX ?_ | refine T.iJ ?_);exact T.jK rfl (rT rfl) fun o n=>⟨A',c',by rw [kE x hk,y],n.u⟩;have hroom:l.length + 1≤c:=by have:=of_decide_eq_false hc;omega
 have hld:(l.drop k).length=l.length - k:=i_;have hcut:ja l (k:Int) (l.length:Int)=some (l.drop k):=by unfold ja;rw [if_pos ⟨by omega,by omega,by omega⟩];simp
 have hlt:(l.take (k + 1)).length=k + 1:=by rw [g_];omega
 have L:(l.take (k + 1) ++ l.drop k).length=l.length + 1:=by rw [l_,hlt,hld];omega
 refine au1 ?_;refine T.ii 59 (vi ((l.length + 1:Nat) : Int)) rfl (congrArg (Value.int .i64) p) ?_;refine T.l (.slice (iW A c 0 4) (l.length + 1) c) (fun o n=>im (e:=96) (s:=4) (lx:=none) (hx:=(some _)) (lo:=0) (hi:=((l.length + 1:Nat) : Int)) (k:=.i64) (k':=.i64) rfl rfl k_ k_ rfl rfl (by omega) (by omega) (by omega)) ?_;refine T.ii 60 (.slice A (l.length + 1) c) rfl (by rw [kr]) ?_;refine au2 ?_;refine T.ii 65 (vi ((k + 1:Nat) : Int)) rfl (congrArg (Value.int .i64) v) ?_
 refine T.l (.slice (iW A c (k + 1) 4) (l.length + 1 - (k + 1)) (c - (k + 1))) (fun o n=>im (e:=96) (s:=4) (lx:=(some _)) (hx:=none) (lo:=((k + 1:Nat) : Int)) (hi:=((l.length + 1:Nat) : Int)) (k:=.i64) (k':=.i64) rfl rfl k_ k_ rfl rfl (by omega) (by omega) (by omega)) (T.l (.bool false) (fun o n=>mt (E:=eSpot) (e:=96) (t:=62) (tR:=4) (s:=4) (i:=1) (j:=0) (off:=(k + 1) * 4) rfl rfl rfl Tryz.func110 k_ k_ k_ k_ k_ (fun _=>k_) n b_ b_ (by decide) (fun g hg=>oK hg (by omega)) (by omega) (by decide)) ?_)
 refine au0 ?_;refine T.cb true (fun _=>?_) (fun h=>f_ h);refine T.ik ?_;refine T.iU [] k_ ?_;refine ta [0,1,2,3] ?_;refine T.ii 72 (vi ((k + 1:Nat) : Int)) rfl (congrArg (Value.int .i64) v) ?_;refine TA.tk 4 (.slice (iW A c (k + 1) 4) (l.length + 1 - (k + 1)) (c - (k + 1))) rfl (Hp.q vr hVb) (fun o n=>im (e:=96) (s:=4) (lx:=(some _)) (hx:=none) (lo:=((k + 1:Nat) : Int)) (hi:=((l.length + 1:Nat) : Int)) (k:=.i64) (k':=.i64) rfl rfl k_ k_ rfl rfl (by omega) (by omega) (by omega)) ?_
 refine ta [5,6] ?_
 refine TA.tk 7 (.slice (iW A c k 4) (l.length + 1 - k) (c - k)) rfl (Hp.q vr hVb) (fun o n=>im (e:=96) (s:=4) (lx:=(some _)) (hx:=none) (lo:=(k:Int)) (hi:=((l.length + 1:Nat) : Int)) (k:=.i64) (k':=.i64) rfl rfl k_ k_ rfl rfl (by omega) (by omega) (by omega)) (TA.j 8 rfl (W1.oH (E:=eSpot) (l:=l) (m:=l.drop k) 0 (k + 1) (l.length + 1 - (k + 1)) (l.length + 1 - k) _ _ b_ k_ rfl k_ (fun _=>k_) (by decide) rfl rfl (by rw [hld];omega) (by omega) (by omega) (by omega) (by omega) (fun o n=>(hJ.sF (hJ.cut (n.row_slOk (i:=0) b_) hcut))) (TA.on (Hp.q vr hVb) (TA.d ?_))))
 refine au1 ?_;refine T.l (.slice (iW A c k 4) (l.length + 1 - k) (c - k)) (fun o n=>im (e:=96) (s:=4) (lx:=(some _)) (hx:=none) (lo:=(k:Int)) (hi:=((l.length + 1:Nat) : Int)) (k:=.i64) (k':=.i64) rfl rfl k_ k_ rfl rfl (by omega) (by omega) (by omega)) ?_;refine au0 ?_
 refine T.ia (W1.kZ (E:=eSpot) (l:=l.take (k + 1) ++ l.drop k) (m:=[x]) 0 k (l.length + 1 - k) _ _ b_ k_ rfl k_ (fun _=>k_) (by decide) rfl rfl (by omega) (fun o n=>(hJ.sF (iD (E:=eSpot) (f:=DSpot.cells) [x] (fun _ _=>rfl) n_ (fun j=>n.cellBox (i:=1) b_ j)))) ?_);refine au0 ?_;refine T.iV (H':=(row 96 eSpot A c (js l k x)::box b tb (DSpot.cells x)::G)) (congrArg (fun q=>row 96 eSpot A c q::box b tb (DSpot.cells x)::G) (oP x hkn (by omega))) ?_;refine au1 ?_
 refine T.ji rfl ?_;(repeat first | refine T.iX ?_ | refine T.iJ ?_);exact T.jK rfl (rT rfl) fun o n=>⟨A,c,by rw [kE x hk],n⟩
theorem nj (w:World) (V:View) (G:List HObj) (w1:World) (A:Option Addr) (c:Nat) (l:List Int) (k b tb:Nat) (x:Int) (hk:k≤l.length) (hr:od (l.length + 1) 8=true) (hm:l.length + 1≤maxLen)
 (n:Hp w V (row 3 hO A c l::box b tb [.int .i64 x]::G) w1) : Calls Tryz.prog 98 #[.slice A l.length c,.int .i64 (k:Int),.slice (some ⟨b,0,none⟩) 1 1] w1 (fun r K=>∃ A' c',r = .returned (.slice A' (js l k x).length c')∧Hp w V (row 3 hO A' c' (js l k x)::box b tb [.int .i64 x]::G) K):=by
 have hVb:=n.base;have hM:l.length + 1≤9223372036854775807:=o_ hm (by decide);have p:i64.wrap ((l.length:Int) + 1)=((l.length + 1:Nat) : Int):=by rw [IntKind.wrap_i64];omega
 have v:i64.wrap ((k:Int) + 1)=((k + 1:Nat) : Int):=by rw [IntKind.wrap_i64];omega
 have D:i64.wrap (((l.length + 1:Nat) : Int) - (k:Int))=((l.length + 1 - k:Nat) : Int):=by rw [IntKind.wrap_i64];omega
 refine T.iZ (l:=[.slice A l.length c,vi (k:Int),.slice (some ⟨b,0,none⟩) 1 1]) Tryz.func98 rfl rfl rfl ?_ n;clear n;refine T.lz 0 rfl (fun hlc hcm=>?_);refine au2 ?_;refine T.l (.slice (iW A c k 1) (l.length - k) (c - k)) (fun o n=>im (e:=3) (s:=1) (lx:=(some _)) (hx:=none) (lo:=(k:Int)) (hi:=(l.length:Int)) (k:=.i64) (k':=.i64) rfl rfl k_ k_ rfl rfl (by omega) (by omega) (by omega)) ?_;refine au3 ?_;refine T.cb false (fun h=>f_ h) (fun _=>?_);refine au3 ?_
 refine T.cb ((k:Int) == (l.length:Int)) (fun hc=>?_) (fun hc=>?_);have hke:k=l.length:=by have:=eq_of_beq hc;omega
 subst hke;refine au1 ?_;refine T.ia (W1.a (E:=hO) (l:=l) (m:=[x]) 0 8 i3_ (fun o n=>(hJ.sF (iD (E:=hO) (f:=(fun x=>[vi x])) [x] (fun _ _=>rfl) n_ (fun j=>n.cellBox (i:=1) b_ j)))) hr hm (fun A' c'=>?_));refine au0 ?_;refine T.ji rfl ?_;(repeat first | refine T.iX ?_ | refine T.iJ ?_);exact T.jK rfl (rT rfl) fun o n=>⟨A',c',by rw [lP],by rw [lP];exact n⟩
 have hkn:k < l.length:=by have : ¬ ((k:Int)=(l.length:Int)):=ne_of_beq_false hc;omega
 refine as2 ?_;refine ac3 ?_;refine T.ii 28 (vi ((l.length + 1:Nat) : Int)) rfl (congrArg (Value.int .i64) p) ?_;refine au0 ?_;refine T.cb (decide ((c:Int) < ((l.length + 1:Nat) : Int))) (fun hc=>?_) (fun hc=>?_);have hg:c < k + (l.length + 1 - k):=by have:=of_decide_eq_true hc;omega
 have y:(l.take k ++ a_ (l.length + 1 - k) (0)).length=l.length + 1:=by simp only [l_,g_,p_];omega
 refine au1 ?_;refine T.l (.slice (iW A c 0 1) k c) (fun o n=>im (e:=3) (s:=1) (lx:=none) (hx:=(some _)) (lo:=0) (hi:=(k:Int)) (k:=.i64) (k':=.i64) rfl rfl k_ k_ rfl rfl (by omega) (by omega) (by omega)) ?_;refine T.ii 34 (.slice A k c) rfl (by rw [kr]) ?_;refine ac3 ?_;refine T.ii 37 (vi ((l.length + 1:Nat) : Int)) rfl (congrArg (Value.int .i64) p) ?_;refine au0 ?_;refine T.ii 39 (vi ((l.length + 1 - k:Nat) : Int)) rfl (congrArg (Value.int .i64) D) ?_
 obtain⟨J,C,F,H,I⟩:=i3_;refine T.ia (W1.nR (E:=hO) (x:=0) (z:=vi 0) (kn:=.i64) 0 k (l.length + 1 - k) _ _ 8 J b_ hk (by omega) (by omega) hg k_ rfl k_ k_ C F H I (fun _=>rfl) rfl (by decide) rfl rfl (by rw [show k + (l.length + 1 - k)=l.length + 1 by omega];exact hr) (by omega) (fun A' c'=>?_));refine au0 ?_;refine T.lz 0 rfl (fun hlc' hcm'=>?_);refine au1 ?_
 refine T.l (.slice (iW A' c' k 1) ((l.take k ++ a_ (l.length + 1 - k) (0)).length - k) (c' - k)) (fun o n=>im (e:=3) (s:=1) (lx:=(some _)) (hx:=none) (lo:=(k:Int)) (hi:=(((l.take k ++ a_ (l.length + 1 - k) (0)).length:Nat) : Int)) (k:=.i64) (k':=.i64) rfl rfl k_ k_ rfl rfl (by omega) (by omega) (by omega)) ?_;refine au0 ?_
 refine T.ia (W1.kZ (E:=hO) (l:=(l.take k ++ a_ (l.length + 1 - k) (0))) (m:=[x]) 0 k ((l.take k ++ a_ (l.length + 1 - k) (0)).length - k) _ _ b_ k_ rfl k_ (fun _=>k_) (by decide) rfl rfl (by omega) (fun o n=>(hJ.sF (iD (E:=hO) (f:=(fun x=>[vi x])) [x] (fun _ _=>rfl) n_ (fun j=>n.cellBox (i:=2) b_ j)))) ?_);refine au0 ?_
 have B:(over (l.take k ++ a_ (l.length + 1 - k) (0)) k ([x].take ((l.take k ++ a_ (l.length + 1 - k) (0)).length - k))).length=(l.take k ++ a_ (l.length + 1 - k) (0)).length:=jR _ _ _ (by rw [g_];have : [x].length=1:=rfl;omega);have hld:(l.drop k).length=l.length - k:=i_;have hcut:ja l (k:Int) (l.length:Int)=some (l.drop k):=by unfold ja;rw [if_pos ⟨by omega,by omega,by omega⟩];simp
 refine T.ik ?_;refine T.iU [] k_ ?_;refine ta [0,1,2,3] ?_;refine T.ii 49 (vi ((k + 1:Nat) : Int)) rfl (congrArg (Value.int .i64) v) ?_
 refine TA.tk 4 (.slice (iW A' c' (k + 1) 1) ((l.take k ++ a_ (l.length + 1 - k) (0)).length - (k + 1)) (c' - (k + 1))) rfl (Hp.q vr hVb) (fun o n=>im (e:=3) (s:=1) (lx:=(some _)) (hx:=none) (lo:=((k + 1:Nat) : Int)) (hi:=(((l.take k ++ a_ (l.length + 1 - k) (0)).length:Nat) : Int)) (k:=.i64) (k':=.i64) rfl rfl k_ k_ rfl rfl (by omega) (by omega) (by omega)) ?_;refine ta [5,6] ?_
 refine TA.tk 7 (.slice (iW A c k 1) (l.length - k) (c - k)) rfl (Hp.q vr hVb) (fun o n=>im (e:=3) (s:=1) (lx:=(some _)) (hx:=none) (lo:=(k:Int)) (hi:=(l.length:Int)) (k:=.i64) (k':=.i64) rfl rfl k_ k_ rfl rfl (by omega) (by omega) (by omega)) ?_;refine T.ii 53 (.slice (iW A c k 1) (l.drop k).length (c - k)) rfl (by rw [hld]) ?_
 refine TA.j 8 rfl (W1.kZ (E:=hO) (l:=over (l.take k ++ a_ (l.length + 1 - k) (0)) k ([x].take ((l.take k ++ a_ (l.length + 1 - k) (0)).length - k))) (m:=l.drop k) 0 (k + 1) ((l.take k ++ a_ (l.length + 1 - k) (0)).length - (k + 1)) _ _ b_ k_ rfl k_ (fun _=>k_) (by decide) rfl rfl (by rw [B];omega) (fun o n=>(hJ.sF (hJ.cut (n.row_slOk (i:=1) b_) hcut))) (TA.on (Hp.q vr hVb) (TA.d ?_)))
 refine T.iV (H':=(row 3 hO A' c' (js l k x)::row 3 hO A c l::box b tb [vi x]::G)) (congrArg (fun q=>row 3 hO A' c' q::row 3 hO A c l::box b tb [vi x]::G) (oQ x _ hkn (by omega) (by omega))) ?_;refine au1 ?_;refine T.ji rfl ?_;(repeat first | refine T.iX ?_ | refine T.iJ ?_);exact T.jK rfl (rT rfl) fun o n=>⟨A',c',by rw [kE x hk,y],n.u⟩;have hroom:l.length + 1≤c:=by have:=of_decide_eq_false hc;omega
 have hld:(l.drop k).length=l.length - k:=i_;have hcut:ja l (k:Int) (l.length:Int)=some (l.drop k):=by unfold ja;rw [if_pos ⟨by omega,by omega,by omega⟩];simp
 have hlt:(l.take (k + 1)).length=k + 1:=by rw [g_];omega
 have L:(l.take (k + 1) ++ l.drop k).length=l.length + 1:=by rw [l_,hlt,hld];omega
 refine au1 ?_;refine T.ii 59 (vi ((l.length + 1:Nat) : Int)) rfl (congrArg (Value.int .i64) p) ?_;refine T.l (.slice (iW A c 0 1) (l.length + 1) c) (fun o n=>im (e:=3) (s:=1) (lx:=none) (hx:=(some _)) (lo:=0) (hi:=((l.length + 1:Nat) : Int)) (k:=.i64) (k':=.i64) rfl rfl k_ k_ rfl rfl (by omega) (by omega) (by omega)) ?_;refine T.ii 60 (.slice A (l.length + 1) c) rfl (by rw [kr]) ?_;refine au2 ?_;refine T.ii 65 (vi ((k + 1:Nat) : Int)) rfl (congrArg (Value.int .i64) v) ?_
 refine T.l (.slice (iW A c (k + 1) 1) (l.length + 1 - (k + 1)) (c - (k + 1))) (fun o n=>im (e:=3) (s:=1) (lx:=(some _)) (hx:=none) (lo:=((k + 1:Nat) : Int)) (hi:=((l.length + 1:Nat) : Int)) (k:=.i64) (k':=.i64) rfl rfl k_ k_ rfl rfl (by omega) (by omega) (by omega)) (T.l (.bool false) (fun o n=>mt (E:=hO) (e:=3) (t:=29) (tR:=4) (s:=1) (i:=1) (j:=0) (off:=(k + 1) * 1) rfl rfl rfl Tryz.func108 k_ k_ k_ k_ k_ (fun _=>k_) n b_ b_ (by decide) (fun g hg=>oK hg (by omega)) (by omega) (by decide)) ?_)
 refine au0 ?_;refine T.cb true (fun _=>?_) (fun h=>f_ h);refine T.ik ?_;refine T.iU [] k_ ?_;refine ta [0,1,2,3] ?_;refine T.ii 72 (vi ((k + 1:Nat) : Int)) rfl (congrArg (Value.int .i64) v) ?_;refine TA.tk 4 (.slice (iW A c (k + 1) 1) (l.length + 1 - (k + 1)) (c - (k + 1))) rfl (Hp.q vr hVb) (fun o n=>im (e:=3) (s:=1) (lx:=(some _)) (hx:=none) (lo:=((k + 1:Nat) : Int)) (hi:=((l.length + 1:Nat) : Int)) (k:=.i64) (k':=.i64) rfl rfl k_ k_ rfl rfl (by omega) (by omega) (by omega)) ?_
 refine ta [5,6] ?_
 refine TA.tk 7 (.slice (iW A c k 1) (l.length + 1 - k) (c - k)) rfl (Hp.q vr hVb) (fun o n=>im (e:=3) (s:=1) (lx:=(some _)) (hx:=none) (lo:=(k:Int)) (hi:=((l.length + 1:Nat) : Int)) (k:=.i64) (k':=.i64) rfl rfl k_ k_ rfl rfl (by omega) (by omega) (by omega)) (TA.j 8 rfl (W1.oH (E:=hO) (l:=l) (m:=l.drop k) 0 (k + 1) (l.length + 1 - (k + 1)) (l.length + 1 - k) _ _ b_ k_ rfl k_ (fun _=>k_) (by decide) rfl rfl (by rw [hld];omega) (by omega) (by omega) (by omega) (by omega) (fun o n=>(hJ.sF (hJ.cut (n.row_slOk (i:=0) b_) hcut))) (TA.on (Hp.q vr hVb) (TA.d ?_))))
 refine au1 ?_;refine T.l (.slice (iW A c k 1) (l.length + 1 - k) (c - k)) (fun o n=>im (e:=3) (s:=1) (lx:=(some _)) (hx:=none) (lo:=(k:Int)) (hi:=((l.length + 1:Nat) : Int)) (k:=.i64) (k':=.i64) rfl rfl k_ k_ rfl rfl (by omega) (by omega) (by omega)) ?_;refine au0 ?_
 refine T.ia (W1.kZ (E:=hO) (l:=l.take (k + 1) ++ l.drop k) (m:=[x]) 0 k (l.length + 1 - k) _ _ b_ k_ rfl k_ (fun _=>k_) (by decide) rfl rfl (by omega) (fun o n=>(hJ.sF (iD (E:=hO) (f:=(fun x=>[vi x])) [x] (fun _ _=>rfl) n_ (fun j=>n.cellBox (i:=1) b_ j)))) ?_);refine au0 ?_;refine T.iV (H':=(row 3 hO A c (js l k x)::box b tb [vi x]::G)) (congrArg (fun q=>row 3 hO A c q::box b tb [vi x]::G) (oP x hkn (by omega))) ?_;refine au1 ?_;refine T.ji rfl ?_
 (repeat first | refine T.iX ?_ | refine T.iJ ?_);exact T.jK rfl (rT rfl) fun o n=>⟨A,c,by rw [kE x hk],n⟩
theorem pn (w:World) (V:View) (G:List HObj) (w1:World) (A:Option Addr) (c:Nat) (l:List DSpot) (i j:Nat) (hij:i < j) (hj:j≤l.length)
 (a:Hp w V (row 96 eSpot A c l::G) w1) : Calls Tryz.prog 118 #[.slice A l.length c,.int .i64 (i:Int),.int .i64 (j:Int)] w1 (fun r o=>∃ A' c',r = .returned (.slice A' (jX l i j).length c')∧Hp w V (row 96 eSpot A' c' (jX l i j)::G) o):=by
 have hVb:=a.base;refine T.iZ (l:=[.slice A l.length c,vi (i:Int),vi (j:Int)]) Tryz.func118 rfl rfl rfl ?_ a;clear a;refine T.lz 0 rfl (fun hlc hcm=>?_);have hne:((i:Int) == (j:Int))=false:=by rw [beq_eq_false_iff_ne];omega
 have hld:(l.drop j).length=l.length - j:=i_;have hcut:ja l (j:Int) (l.length:Int)=some (l.drop j):=by unfold ja;rw [if_pos ⟨by omega,by omega,by omega⟩];simp
 have hol:(over l i (l.drop j)).length=l.length:=jR _ _ _ (by rw [hld];omega);refine au2 ?_;refine T.ia (W1.pH k_ (fun b a=>o9 (e:=96) (s:=4) (k:=.i64) (k':=.i64) (k'':=.i64) rfl rfl k_ k_ rfl rfl rfl (by omega) (by omega) (by omega) (by omega)) (fun u=>?_));refine au2 ?_;refine T.ii 16 (.bool false) rfl (by rw [hne]) ?_;refine au0 ?_;refine T.cb false (fun h=>f_ h) (fun _=>?_);refine au1 ?_;refine T.ik ?_;refine T.iU [] k_ ?_;refine ta [0,1] ?_
 refine TA.tk 2 (.slice (iW A c 0 4) i c) rfl (Hp.q vr hVb) (fun b a=>im (e:=96) (s:=4) (lx:=none) (hx:=(some _)) (lo:=0) (hi:=(i:Int)) (k:=.i64) (k':=.i64) rfl rfl k_ k_ rfl rfl (by omega) (by omega) (by omega)) ?_;refine T.ii 22 (.slice A i c) rfl (by rw [kr]) ?_;refine ta [3,4] ?_
 refine TA.tk 5 (.slice (iW A c j 4) (l.length - j) (c - j)) rfl (Hp.q vr hVb) (fun b a=>im (e:=96) (s:=4) (lx:=(some _)) (hx:=none) (lo:=(j:Int)) (hi:=(l.length:Int)) (k:=.i64) (k':=.i64) rfl rfl k_ k_ rfl rfl (by omega) (by omega) (by omega)) ?_;refine T.ii 25 (.slice (iW A c j 4) (l.drop j).length (c - j)) rfl (by rw [hld]) ?_;obtain⟨n,f,p,g,t⟩:=oM
 refine TA.j 6 rfl (W1.oX (E:=eSpot) (l:=l) (m:=l.drop j) 0 i _ _ n b_ (by rw [hld];omega) k_ rfl k_ f g (by decide) rfl rfl (fun b a=>(hJ.sF (hJ.cut (a.row_slOk (i:=0) b_) hcut))) (TA.on (Hp.q vr hVb) ?_));refine ta [7] ?_;refine TA.d ?_;refine au1 ?_
 refine T.l (.slice (iW A c (i + (l.drop j).length) 4) (l.length - (i + (l.drop j).length)) (c - (i + (l.drop j).length))) (fun b a=>im (e:=96) (s:=4) (lx:=(some _)) (hx:=(some _)) (lo:=(((i + (l.drop j).length) : Nat) : Int)) (hi:=(l.length:Int)) (k:=.i64) (k':=.i64) rfl rfl k_ k_ rfl rfl (by omega) (by omega) (by omega)) (T.ia (W1.pG (E:=eSpot) (l:=over l i (l.drop j)) (x:=(DSpot.mk (DKey.mk 0 0 0) 0)) (z:=.agg #[vi 0,vi 0,vi 0,vi 0]) 0 (i + (l.drop j).length) (l.length - (i + (l.drop j).length)) _ b_ k_ rfl k_ (fun _=>k_) (fun _=>rfl) rfl (by decide) rfl (by rw [hol];omega) ?_))
 refine au0 ?_;refine T.lS (l:=jX l i j) 0 b_ (qY hij hj) ?_;refine au1 ?_;refine T.ji rfl ?_;(repeat first | refine T.iX ?_ | refine T.iJ ?_);exact T.jK rfl (rT rfl) fun b a=>⟨A,c,by rw [ow hij hj],a⟩
theorem ni (w:World) (V:View) (G:List HObj) (w1:World) (A:Option Addr) (c:Nat) (l:List Int) (i j:Nat) (hij:i < j) (hj:j≤l.length)
 (a:Hp w V (row 3 hO A c l::G) w1) : Calls Tryz.prog 117 #[.slice A l.length c,.int .i64 (i:Int),.int .i64 (j:Int)] w1 (fun r o=>∃ A' c',r = .returned (.slice A' (jX l i j).length c')∧Hp w V (row 3 hO A' c' (jX l i j)::G) o):=by
 have hVb:=a.base;refine T.iZ (l:=[.slice A l.length c,vi (i:Int),vi (j:Int)]) Tryz.func117 rfl rfl rfl ?_ a;clear a;refine T.lz 0 rfl (fun hlc hcm=>?_);have hne:((i:Int) == (j:Int))=false:=by rw [beq_eq_false_iff_ne];omega
 have hld:(l.drop j).length=l.length - j:=i_;have hcut:ja l (j:Int) (l.length:Int)=some (l.drop j):=by unfold ja;rw [if_pos ⟨by omega,by omega,by omega⟩];simp
 have hol:(over l i (l.drop j)).length=l.length:=jR _ _ _ (by rw [hld];omega);refine au2 ?_;refine T.ia (W1.pH k_ (fun b a=>o9 (e:=3) (s:=1) (k:=.i64) (k':=.i64) (k'':=.i64) rfl rfl k_ k_ rfl rfl rfl (by omega) (by omega) (by omega) (by omega)) (fun u=>?_));refine au2 ?_;refine T.ii 16 (.bool false) rfl (by rw [hne]) ?_;refine au0 ?_;refine T.cb false (fun h=>f_ h) (fun _=>?_);refine au1 ?_;refine T.ik ?_;refine T.iU [] k_ ?_;refine ta [0,1] ?_
 refine TA.tk 2 (.slice (iW A c 0 1) i c) rfl (Hp.q vr hVb) (fun b a=>im (e:=3) (s:=1) (lx:=none) (hx:=(some _)) (lo:=0) (hi:=(i:Int)) (k:=.i64) (k':=.i64) rfl rfl k_ k_ rfl rfl (by omega) (by omega) (by omega)) ?_;refine T.ii 22 (.slice A i c) rfl (by rw [kr]) ?_;refine ta [3,4] ?_
 refine TA.tk 5 (.slice (iW A c j 1) (l.length - j) (c - j)) rfl (Hp.q vr hVb) (fun b a=>im (e:=3) (s:=1) (lx:=(some _)) (hx:=none) (lo:=(j:Int)) (hi:=(l.length:Int)) (k:=.i64) (k':=.i64) rfl rfl k_ k_ rfl rfl (by omega) (by omega) (by omega)) ?_;refine T.ii 25 (.slice (iW A c j 1) (l.drop j).length (c - j)) rfl (by rw [hld]) ?_;obtain⟨n,f,p,g,t⟩:=i3_
 refine TA.j 6 rfl (W1.oX (E:=hO) (l:=l) (m:=l.drop j) 0 i _ _ n b_ (by rw [hld];omega) k_ rfl k_ f g (by decide) rfl rfl (fun b a=>(hJ.sF (hJ.cut (a.row_slOk (i:=0) b_) hcut))) (TA.on (Hp.q vr hVb) ?_));refine ta [7] ?_;refine TA.d ?_;refine au1 ?_
 refine T.l (.slice (iW A c (i + (l.drop j).length) 1) (l.length - (i + (l.drop j).length)) (c - (i + (l.drop j).length))) (fun b a=>im (e:=3) (s:=1) (lx:=(some _)) (hx:=(some _)) (lo:=(((i + (l.drop j).length) : Nat) : Int)) (hi:=(l.length:Int)) (k:=.i64) (k':=.i64) rfl rfl k_ k_ rfl rfl (by omega) (by omega) (by omega)) (T.ia (W1.pG (E:=hO) (l:=over l i (l.drop j)) (x:=0) (z:=vi 0) 0 (i + (l.drop j).length) (l.length - (i + (l.drop j).length)) _ b_ k_ rfl k_ (fun _=>k_) (fun _=>rfl) rfl (by decide) rfl (by rw [hol];omega) ?_))
 refine au0 ?_;refine T.lS (l:=jX l i j) 0 b_ (qY hij hj) ?_;refine au1 ?_;refine T.ji rfl ?_;(repeat first | refine T.iX ?_ | refine T.iJ ?_);exact T.jK rfl (rT rfl) fun b a=>⟨A,c,by rw [ow hij hj],a⟩
end Go.Proofs.YtaoocidchclpnaaGreat
