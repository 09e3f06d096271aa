/- What the functions roomy, spoil, marked and ContainsFunc do to lists of trees. Its conditions: as each states. -/
import Derived.Test.YtfbpiogbhkgieaaGreatShAL
import Derived.Test.YtfbpiogbhkgieaaGreatTrOL
import Derived.Test.YtfbpiogbhkgieaaGreatKeyLL
namespace Go.Proofs.YtfbpiogbhkgieaaGreat
open Go.RowKit
set_option linter.unusedVariables false
set_option linter.unusedSimpArgs false
set_option maxRecDepth 100000
set_option maxHeartbeats 4000000
theorem nN (x:DElem) : ∀ u∈x.cells,u.oneCell' = true:=fun u hu=>eElem.one (V:=fun _=>none) (x:=x) rfl u hu
theorem nO (x:DSpot) : ∀ u∈x.cells,u.oneCell' = true:=fun u hu=>eSpot.one (V:=fun _=>none) (x:=x) rfl u hu
theorem sw (x:DHdr) : ∀ u∈x.cells,u.oneCell' = true:=fun u hu=>eHdr.one (V:=fun _=>none) (x:=x) rfl u hu
theorem oL (x:Int) : ∀ u∈[Value.int .i64 x],u.oneCell' = true:=fun u hu=>hO.one (V:=fun _=>none) (x:=x) rfl u hu
theorem lK {α:Type} (l m:List α) (k:Nat) (x:α) : (l ++ m).set (l.length + k) x=l ++ m.set k x:=by
 rw [List.set_append_right _ _ (Nat.le_add_right _ _),Nat.add_sub_cancel_left]
theorem ia.tail3 {α:Type} {V:View} {E:Enc α} {A:Option Addr} {l:List α} {x y z:α} (h:ia V E A (l.length + 3) (l ++ [x,y,z])) : ia V E (iP A (l.length + 3) l.length E.size) 3 [x,y,z]:=by
 have hcut:jf (l ++ [x,y,z]) (l.length:Int) ((l.length + 3:Nat) : Int)=some [x,y,z]:=by
  unfold jf
  rw [if_pos ⟨by omega,by omega,by rw [List.length_append];show ((l.length + 3:Nat) : Int)≤((l.length + 3:Nat) : Int);omega⟩]
  rw [Int.toNat_natCast,Int.toNat_natCast,List.take_of_length_le (by rw [List.length_append];exact Nat.le_refl _),List.drop_left]
 have:=h.cut hcut
 rwa [Int.toNat_natCast,show l.length + 3 - l.length=3 by omega] at this
section
variable {P:Program} {N:Sz} {w0:World} {V:View} {H:List HObj} {M:List (Nat × Value)} {ops:Array Oper} {Q:Exit→Act→World→Prop} {o:Oper} {K:Act→World→Prop}
theorem W1.cs {ρ:Type} (E:VEnc ρ) (r:ρ) (f:FuncId) (vs:Array Value) (v:Value) (hval : ∀ V u,E.rep V u r→u=v) (hf : ∀ w,Hp w0 V H w→Calls P f vs w (kC E r w)) (h:T N w0 V H (iw o.dst v M) K)
 (hc:okO N ops M o=true:=by kernel_rfl) (hv : ∀ w,(execOp (evM M) o).run P w = .ok (.enter f vs) w:=by intro _;kernel_rfl) : W1 P Q ops o N w0 V H M K:=fun a w hfr hh=>by
 obtain⟨h1,_,_,h4⟩:=je hc
 refine⟨jb hfr h1,?_⟩
 unfold Oper.wp
 rw [jq hc hfr,hv w,Oper.upon_enter]
 refine(hf w hh).mono ?_
 rintro x w' ⟨u,rfl,hb,hr⟩
 rw [hval _ _ hr]
 exact h _ _ (hfr.put h4 v) (hh.called_same hb)
end
theorem ph {w:World} {V:View} {G:List HObj} {w1:World} {A:Option Addr} {c:Nat} {l:List DElem} {n:Nat} (x:DElem) (hn:n≤c) (hh:Hp w V (row 28 eElem A c l::G) w1) :
 Calls Tryz.prog 46 #[.slice A n c,.agg #[.int .i64 x.key.pfs,.int .i64 x.key.obj,.int .i64 x.key.off,.int .i64 x.made,.int .i64 x.gone,.string x.val]] w1
  (fun r w2=>r = .returned (.tuple #[])∧Hp w V (row 28 eElem A c (List.replicate c x)::G) w2):=by
 refine T.iM (l:=[.slice A n c,.agg #[vi x.key.pfs,vi x.key.obj,vi x.key.off,vi x.made,vi x.gone,.string x.val]]) Tryz.func46 rfl rfl rfl ?_ hh
 clear hh
 refine T.kg 0 rfl (fun hlc hcm=>?_)
 refine T.kJ (l:=[]) 0 (by rfl) (List.nil_prefix) ?_
 refine T.sr (T.gO (W1.np 28 x.cells (fun b=>T.gN ?_)))
 refine T.sr (T.k3 (.slice A n c) (.slice A n c) (vi (c:Int)) ?_)
 refine T.l (.slice (iP A c 0 6) c c) (fun w' hh=>ij (e:=28) (s:=6) (lx:=none) (hx:=some _) (lo:=0) (hi:=(c:Int)) (k:=.i64) (k':=.i64) rfl rfl (by kernel_rfl) (by kernel_rfl) rfl rfl (by omega) (by omega) (by omega)) ?_
 refine T.ig 8 (.slice A c c) rfl (by rw [jp]) ?_
 refine T.k (.slice A c c) (T.gN ?_)
 refine T.sr (T.k3 (.slice A c c) (vi (c:Int)) (vi 0) (T.gN ?_))
 refine T.ie ?_
 refine T.lG c (fun k a w'=>Fr 19 [(0,.slice A c c),(3,pB b 0),(9,.slice A c c),(10,vi (c:Int)),(11,vi (k:Int))] a∧Hp w V (box b 28 x.cells::row 28 eElem A c (List.replicate k x)::G) w') ?_ ?_ ?_
 · exact fun a w' hf hh=>⟨Fr.s hf,hh⟩
 · rintro k hk a w' ⟨hf,hh⟩
   revert hf hh
   refine T.i ?_
   refine T.sr (T.k (.bool (decide ((k:Int) < (c:Int)))) (T.gN ?_))
   refine T.gR (T.cb (decide ((k:Int) < (c:Int))) (fun hc=>?_) (fun hc=>absurd (of_decide_eq_false hc) (by omega)))
   refine T.gP ?_
   refine T.gR (T.ie (T.sr (T.k2 (vi (k:Int)) (vi (k:Int)) (T.gN ?_))))
   refine T.gQ (T.k2 (.slice A c c) (vi (k:Int)) ?_)
   refine T.l (.agg #[vi x.key.pfs,vi x.key.obj,vi x.key.off,vi x.made,vi x.gone,.string x.val]) (ldN 0) ?_
   refine T.l (.pointer (some ((iE A).add (k * 6)))) (fun w' hh=>ib (e:=28) (s:=6) (n:=c) (c:=c) (iv:=(k:Int)) (k:=.i64) rfl rfl rfl (by kernel_rfl) (by kernel_rfl) (by omega) (by omega) (hh.row_some (i:=1) (by rfl) (by omega))) ?_
   refine T.gO (W1.mc (E:=eElem) 1 x _ (vs:=x.cells) (by rfl) (by rw [List.length_replicate];exact hk) (by kernel_rfl) rfl rfl (by rw [List.length_replicate];rfl) rfl rfl (fun _=>by kernel_rfl) (nN x) rfl (fun _=>rfl) ?_)
   refine T.iK (H':=box b 28 x.cells::row 28 eElem A c (List.replicate (k + 1) x)::G) (by rw [List.replicate_succ'];rfl) ?_
   refine T.gN ?_
   refine T.gQ (T.k (vi (IntKind.i64.wrap ((k:Int) + 1))) ?_)
   refine T.ig 18 (vi ((k + 1:Nat) : Int)) rfl (by show Value.int .i64 _=Value.int .i64 _;congr 1;unfold maxLen at hcm;rw [IntKind.wrap_i64];omega) ?_
   refine T.k (vi ((k + 1:Nat) : Int)) (T.gN ?_)
   exact fun a w' hf hh=>⟨Fr.s hf,hh⟩
 · rintro a w' ⟨hf,hh⟩
   revert hf hh
   refine T.i ?_
   refine T.sr (T.k (.bool (decide ((c:Int) < (c:Int)))) (T.gN ?_))
   refine T.gR (T.cb (decide ((c:Int) < (c:Int))) (fun hc=>absurd (of_decide_eq_true hc) (by omega)) (fun hc=>?_))
   refine T.iI (T.i8 (T.i8 (T.kZ ?_)))
   exact T.jL rfl (fun w' hh=>⟨rfl,hh.sub (.cons _ (List.Sublist.refl _))⟩)
theorem pj {w:World} {V:View} {G:List HObj} {w1:World} {A:Option Addr} {c:Nat} {l:List DSpot} {n:Nat} (x:DSpot) (hn:n≤c) (hh:Hp w V (row 36 eSpot A c l::G) w1) :
 Calls Tryz.prog 48 #[.slice A n c,.agg #[.int .i64 x.key.pfs,.int .i64 x.key.obj,.int .i64 x.key.off,.int .i64 x.made]] w1
  (fun r w2=>r = .returned (.tuple #[])∧Hp w V (row 36 eSpot A c (List.replicate c x)::G) w2):=by
 refine T.iM (l:=[.slice A n c,.agg #[vi x.key.pfs,vi x.key.obj,vi x.key.off,vi x.made]]) Tryz.func48 rfl rfl rfl ?_ hh
 clear hh
 refine T.kg 0 rfl (fun hlc hcm=>?_)
 refine T.kJ (l:=[]) 0 (by rfl) (List.nil_prefix) ?_
 refine T.sr (T.gO (W1.np 36 x.cells (fun b=>T.gN ?_)))
 refine T.sr (T.k3 (.slice A n c) (.slice A n c) (vi (c:Int)) ?_)
 refine T.l (.slice (iP A c 0 4) c c) (fun w' hh=>ij (e:=36) (s:=4) (lx:=none) (hx:=some _) (lo:=0) (hi:=(c:Int)) (k:=.i64) (k':=.i64) rfl rfl (by kernel_rfl) (by kernel_rfl) rfl rfl (by omega) (by omega) (by omega)) ?_
 refine T.ig 8 (.slice A c c) rfl (by rw [jp]) ?_
 refine T.k (.slice A c c) (T.gN ?_)
 refine T.sr (T.k3 (.slice A c c) (vi (c:Int)) (vi 0) (T.gN ?_))
 refine T.ie ?_
 refine T.lG c (fun k a w'=>Fr 19 [(0,.slice A c c),(3,pB b 0),(9,.slice A c c),(10,vi (c:Int)),(11,vi (k:Int))] a∧Hp w V (box b 36 x.cells::row 36 eSpot A c (List.replicate k x)::G) w') ?_ ?_ ?_
 · exact fun a w' hf hh=>⟨Fr.s hf,hh⟩
 · rintro k hk a w' ⟨hf,hh⟩
   revert hf hh
   refine T.i ?_
   refine T.sr (T.k (.bool (decide ((k:Int) < (c:Int)))) (T.gN ?_))
   refine T.gR (T.cb (decide ((k:Int) < (c:Int))) (fun hc=>?_) (fun hc=>absurd (of_decide_eq_false hc) (by omega)))
   refine T.gP ?_
   refine T.gR (T.ie (T.sr (T.k2 (vi (k:Int)) (vi (k:Int)) (T.gN ?_))))
   refine T.gQ (T.k2 (.slice A c c) (vi (k:Int)) ?_)
   refine T.l (.agg #[vi x.key.pfs,vi x.key.obj,vi x.key.off,vi x.made]) (ldN 0) ?_
   refine T.l (.pointer (some ((iE A).add (k * 4)))) (fun w' hh=>ib (e:=36) (s:=4) (n:=c) (c:=c) (iv:=(k:Int)) (k:=.i64) rfl rfl rfl (by kernel_rfl) (by kernel_rfl) (by omega) (by omega) (hh.row_some (i:=1) (by rfl) (by omega))) ?_
   refine T.gO (W1.mc (E:=eSpot) 1 x _ (vs:=x.cells) (by rfl) (by rw [List.length_replicate];exact hk) (by kernel_rfl) rfl rfl (by rw [List.length_replicate];rfl) rfl rfl (fun _=>by kernel_rfl) (nO x) rfl (fun _=>rfl) ?_)
   refine T.iK (H':=box b 36 x.cells::row 36 eSpot A c (List.replicate (k + 1) x)::G) (by rw [List.replicate_succ'];rfl) ?_
   refine T.gN ?_
   refine T.gQ (T.k (vi (IntKind.i64.wrap ((k:Int) + 1))) ?_)
   refine T.ig 18 (vi ((k + 1:Nat) : Int)) rfl (by show Value.int .i64 _=Value.int .i64 _;congr 1;unfold maxLen at hcm;rw [IntKind.wrap_i64];omega) ?_
   refine T.k (vi ((k + 1:Nat) : Int)) (T.gN ?_)
   exact fun a w' hf hh=>⟨Fr.s hf,hh⟩
 · rintro a w' ⟨hf,hh⟩
   revert hf hh
   refine T.i ?_
   refine T.sr (T.k (.bool (decide ((c:Int) < (c:Int)))) (T.gN ?_))
   refine T.gR (T.cb (decide ((c:Int) < (c:Int))) (fun hc=>absurd (of_decide_eq_true hc) (by omega)) (fun hc=>?_))
   refine T.iI (T.i8 (T.i8 (T.kZ ?_)))
   exact T.jL rfl (fun w' hh=>⟨rfl,hh.sub (.cons _ (List.Sublist.refl _))⟩)
theorem pd (l:List DElem) (x:DElem) (A:Option Addr) (c:Nat) (w:World) (hs:ia (vw w) eElem A c l) (hr:mA ((l.length:Int) + 3).toNat 56=true) (hm:((l.length:Int) + 3).toNat≤maxLen) :
 Calls Tryz.prog 19 #[.slice A l.length c,.agg #[.int .i64 x.key.pfs,.int .i64 x.key.obj,.int .i64 x.key.off,.int .i64 x.made,.int .i64 x.gone,.string x.val]] w
  (fun e w'=>∃ p:Option Addr,e = .returned (.slice p l.length (l.length + 3))∧True∧lE w w' [row 28 eElem p (l.length + 3) (l ++ [x,x,x])]):=by
 have hN:((l.length:Int) + 3).toNat=l.length + 3:=by omega
 rw [hN] at hr hm
 have hM:l.length + 3≤9223372036854775807:=Nat.le_trans hm (by decide)
 have hw3:IntKind.i64.wrap ((l.length:Int) + 3)=((l.length + 3:Nat) : Int):=by rw [IntKind.wrap_i64];omega
 refine T.i9 (l:=[.slice A l.length c,.agg #[vi x.key.pfs,vi x.key.obj,vi x.key.off,vi x.made,vi x.gone,.string x.val]]) Tryz.func19 rfl rfl rfl ?_
 refine T.sr (T.gO (W1.np 28 x.cells (fun b=>T.k sN (T.gN ?_))))
 refine T.sr (T.k3 (.slice A l.length c) (vi (l.length:Int)) (vi (IntKind.i64.wrap ((l.length:Int) + 3))) ?_)
 refine T.ig 9 (vi ((l.length + 3:Nat) : Int)) rfl (by rw [hw3]) ?_
 obtain⟨ti,hti,hz1,hz2,hz3⟩:=info_parts (P:=Tryz.prog) (e:=28) (z:=.agg #[vi 0,vi 0,vi 0,vi 0,vi 0,.string (ByteArray.mk #[])]) (size:=6) (bytes:=56) (by kernel_rfl)
 refine T.gO (W1.oQ (E:=eElem) 0 (l.length + 3) (DElem.mk (DKey.mk 0 0 0) 0 0 (ByteArray.mk #[])) _ _ .i64 .i64 56 ti _ (by kernel_rfl) rfl (by kernel_rfl) hti hz1 hz2 hz3 rfl rfl (by omega) (fun _=>rfl) rfl hr hm (fun g=>?_))
 refine T.k (.slice A l.length c) ?_
 refine T.gO (W1.lq (E:=eElem) (l:=List.replicate (l.length + 3) (DElem.mk (DKey.mk 0 0 0) 0 0 (ByteArray.mk #[]))) (m:=l) 0 0 _ _ ti (by rfl) (by rw [List.length_replicate];omega) (by kernel_rfl) rfl (by kernel_rfl) hti hz2 (by decide) rfl rfl (fun w' hh=>ia.sF (ia.mono hs hh.view)) ?_)
 refine T.iK (H':=(row 28 eElem (some ⟨g,0,none⟩) (l.length + 3) (l ++ [(DElem.mk (DKey.mk 0 0 0) 0 0 (ByteArray.mk #[])),(DElem.mk (DKey.mk 0 0 0) 0 0 (ByteArray.mk #[])),(DElem.mk (DKey.mk 0 0 0) 0 0 (ByteArray.mk #[]))])::box b 28 x.cells::[])) (by
  have e:over (List.replicate (l.length + 3) (DElem.mk (DKey.mk 0 0 0) 0 0 (ByteArray.mk #[]))) 0 l=(l ++ [(DElem.mk (DKey.mk 0 0 0) 0 0 (ByteArray.mk #[])),(DElem.mk (DKey.mk 0 0 0) 0 0 (ByteArray.mk #[])),(DElem.mk (DKey.mk 0 0 0) 0 0 (ByteArray.mk #[]))]):=by
   unfold over
   rw [List.take_zero,List.nil_append,Nat.zero_add,List.drop_replicate,Nat.add_sub_cancel_left];rfl
  rw [← e];rfl) ?_
 refine T.ig 12 (.slice (some ⟨g,0,none⟩) l.length (l.length + 3)) rfl (by rw [Nat.zero_add]) ?_
 refine T.k (.slice (some ⟨g,0,none⟩) l.length (l.length + 3)) (T.gN ?_)
 refine T.gR (T.sr (T.k (vi 0) (T.gN ?_)))
 refine T.ie (T.lQ 4 ?_)
 have hwk0:IntKind.i64.wrap ((l.length:Int) + 0)=((l.length + 0:Nat) : Int):=by rw [IntKind.wrap_i64];omega
 refine T.jF (T.sr (T.k (.bool true) (T.gN ?_)))
 refine T.gR (T.jy true (by kernel_rfl) (by kernel_rfl) (fun _=>?_) (fun h=>Bool.noConfusion h))
 refine T.gP ?_
 refine T.gR (T.ie (T.sr (T.k2 (vi 0) (vi 0) (T.gN ?_))))
 refine T.jD [box b 28 x.cells] (by kernel_rfl) ?_
 refine TA.tp 0 (.slice (some ⟨g,0,none⟩) l.length (l.length + 3)) rfl (Hp.old vr vr (dr1 (kp1 kp0)) (oB1 ol0)) ?_
 refine TA.tp 1 (.slice A l.length c) rfl (Hp.old vr vr (dr1 (kp1 kp0)) (oB1 ol0)) ?_
 refine TA.tp 2 (vi (l.length:Int)) rfl (Hp.old vr vr (dr1 (kp1 kp0)) (oB1 ol0)) ?_
 refine TA.tp 3 (vi (IntKind.i64.wrap ((l.length:Int) + 3))) rfl (Hp.old vr vr (dr1 (kp1 kp0)) (oB1 ol0)) ?_
 refine T.ig 19 (vi ((l.length + 3:Nat) : Int)) rfl (by rw [hw3]) ?_
 refine TA.tk 4 (.slice (iP (some ⟨g,0,none⟩) (l.length + 3) 0 6) (l.length + 3) (l.length + 3)) rfl (Hp.old vr vr (dr1 (kp1 kp0)) (oB1 ol0)) (fun w' hh=>ij (e:=28) (s:=6) (lx:=none) (hx:=some _) (lo:=0) (hi:=((l.length + 3:Nat) : Int)) (k:=.i64) (k':=.i64) rfl rfl (by kernel_rfl) (by kernel_rfl) rfl rfl (by omega) (by omega) (by omega)) ?_
 refine T.ig 20 (.slice (some ⟨g,0,none⟩) (l.length + 3) (l.length + 3)) rfl (by rw [jp]) ?_
 refine TA.tp 5 (.slice A l.length c) rfl (Hp.old vr vr (dr1 (kp1 kp0)) (oB1 ol0)) ?_
 refine TA.tp 6 (vi (l.length:Int)) rfl (Hp.old vr vr (dr1 (kp1 kp0)) (oB1 ol0)) ?_
 refine TA.tp 7 (vi 0) rfl (Hp.old vr vr (dr1 (kp1 kp0)) (oB1 ol0)) ?_
 refine TA.tp 8 (vi (IntKind.i64.wrap ((l.length:Int) + 0))) rfl (Hp.old vr vr (dr1 (kp1 kp0)) (oB1 ol0)) ?_
 refine T.ig 24 (vi ((l.length + 0:Nat) : Int)) rfl (by rw [hwk0]) ?_
 refine TA.tk 9 (.agg #[vi x.key.pfs,vi x.key.obj,vi x.key.off,vi x.made,vi x.gone,.string x.val]) rfl (Hp.old vr vr (dr1 (kp1 kp0)) (oB1 ol0)) (ldN 0) ?_
 refine TA.tk 10 (.pointer (some ((iE (some ⟨g,0,none⟩)).add ((((l.length + 0:Nat) : Int)).toNat * 6)))) rfl (Hp.old vr vr (dr1 (kp1 kp0)) (oB1 ol0)) (fun w' hh=>ib (e:=28) (s:=6) (n:=l.length + 3) (c:=l.length + 3) (iv:=((l.length + 0:Nat) : Int)) (k:=.i64) rfl rfl rfl (by kernel_rfl) (by kernel_rfl) (by omega) (by omega) rfl) ?_
 refine TA.j 11 rfl (W1.iO (E:=eElem) 0 (l.length + 0) 0 (DElem.mk (DKey.mk 0 0 0) 0 0 (ByteArray.mk #[])) x _ (vs:=x.cells) (by rfl) (by kernel_rfl) rfl rfl (by rw [ja];rfl) rfl rfl (fun _=>by kernel_rfl) (nN x) (by rw [List.getElem?_append_right (Nat.le_add_right _ _),Nat.add_sub_cancel_left];rfl) (Nat.le_of_ble_eq_true rfl) (fun V cs h=>by
  have h' : cs=DElem.cells (DElem.mk (DKey.mk 0 0 0) 0 0 (ByteArray.mk #[])):=h
  subst h';rfl) ?_)
 refine T.iK (H':=(row 28 eElem (some ⟨g,0,none⟩) (l.length + 3) (l ++ [x,(DElem.mk (DKey.mk 0 0 0) 0 0 (ByteArray.mk #[])),(DElem.mk (DKey.mk 0 0 0) 0 0 (ByteArray.mk #[]))])::box b 28 x.cells::[])) (by
  have e:(l ++ [(DElem.mk (DKey.mk 0 0 0) 0 0 (ByteArray.mk #[])),(DElem.mk (DKey.mk 0 0 0) 0 0 (ByteArray.mk #[])),(DElem.mk (DKey.mk 0 0 0) 0 0 (ByteArray.mk #[]))]).set (l.length + 0) x=(l ++ [x,(DElem.mk (DKey.mk 0 0 0) 0 0 (ByteArray.mk #[])),(DElem.mk (DKey.mk 0 0 0) 0 0 (ByteArray.mk #[]))]):=lK _ _ _ _
  rw [← e];rfl) ?_
 refine TA.on (Hp.old vr vr (dr1 (kp1 kp0)) (oB1 ol0)) ?_
 refine TA.d ?_
 refine T.gQ (T.k2 (vi 1) (vi 1) (T.gN ?_))
 have hwk1:IntKind.i64.wrap ((l.length:Int) + 1)=((l.length + 1:Nat) : Int):=by rw [IntKind.wrap_i64];omega
 refine T.jF (T.sr (T.k (.bool true) (T.gN ?_)))
 refine T.gR (T.jy true (by kernel_rfl) (by kernel_rfl) (fun _=>?_) (fun h=>Bool.noConfusion h))
 refine T.gP ?_
 refine T.gR (T.ie (T.sr (T.k2 (vi 1) (vi 1) (T.gN ?_))))
 refine T.jD [box b 28 x.cells] (by kernel_rfl) ?_
 refine TA.tp 0 (.slice (some ⟨g,0,none⟩) l.length (l.length + 3)) rfl (Hp.old vr vr (dr1 (kp1 kp0)) (oB1 ol0)) ?_
 refine TA.tp 1 (.slice A l.length c) rfl (Hp.old vr vr (dr1 (kp1 kp0)) (oB1 ol0)) ?_
 refine TA.tp 2 (vi (l.length:Int)) rfl (Hp.old vr vr (dr1 (kp1 kp0)) (oB1 ol0)) ?_
 refine TA.tp 3 (vi (IntKind.i64.wrap ((l.length:Int) + 3))) rfl (Hp.old vr vr (dr1 (kp1 kp0)) (oB1 ol0)) ?_
 refine T.ig 19 (vi ((l.length + 3:Nat) : Int)) rfl (by rw [hw3]) ?_
 refine TA.tk 4 (.slice (iP (some ⟨g,0,none⟩) (l.length + 3) 0 6) (l.length + 3) (l.length + 3)) rfl (Hp.old vr vr (dr1 (kp1 kp0)) (oB1 ol0)) (fun w' hh=>ij (e:=28) (s:=6) (lx:=none) (hx:=some _) (lo:=0) (hi:=((l.length + 3:Nat) : Int)) (k:=.i64) (k':=.i64) rfl rfl (by kernel_rfl) (by kernel_rfl) rfl rfl (by omega) (by omega) (by omega)) ?_
 refine T.ig 20 (.slice (some ⟨g,0,none⟩) (l.length + 3) (l.length + 3)) rfl (by rw [jp]) ?_
 refine TA.tp 5 (.slice A l.length c) rfl (Hp.old vr vr (dr1 (kp1 kp0)) (oB1 ol0)) ?_
 refine TA.tp 6 (vi (l.length:Int)) rfl (Hp.old vr vr (dr1 (kp1 kp0)) (oB1 ol0)) ?_
 refine TA.tp 7 (vi 1) rfl (Hp.old vr vr (dr1 (kp1 kp0)) (oB1 ol0)) ?_
 refine TA.tp 8 (vi (IntKind.i64.wrap ((l.length:Int) + 1))) rfl (Hp.old vr vr (dr1 (kp1 kp0)) (oB1 ol0)) ?_
 refine T.ig 24 (vi ((l.length + 1:Nat) : Int)) rfl (by rw [hwk1]) ?_
 refine TA.tk 9 (.agg #[vi x.key.pfs,vi x.key.obj,vi x.key.off,vi x.made,vi x.gone,.string x.val]) rfl (Hp.old vr vr (dr1 (kp1 kp0)) (oB1 ol0)) (ldN 0) ?_
 refine TA.tk 10 (.pointer (some ((iE (some ⟨g,0,none⟩)).add ((((l.length + 1:Nat) : Int)).toNat * 6)))) rfl (Hp.old vr vr (dr1 (kp1 kp0)) (oB1 ol0)) (fun w' hh=>ib (e:=28) (s:=6) (n:=l.length + 3) (c:=l.length + 3) (iv:=((l.length + 1:Nat) : Int)) (k:=.i64) rfl rfl rfl (by kernel_rfl) (by kernel_rfl) (by omega) (by omega) rfl) ?_
 refine TA.j 11 rfl (W1.iO (E:=eElem) 0 (l.length + 1) 0 (DElem.mk (DKey.mk 0 0 0) 0 0 (ByteArray.mk #[])) x _ (vs:=x.cells) (by rfl) (by kernel_rfl) rfl rfl (by rw [ja];rfl) rfl rfl (fun _=>by kernel_rfl) (nN x) (by rw [List.getElem?_append_right (Nat.le_add_right _ _),Nat.add_sub_cancel_left];rfl) (Nat.le_of_ble_eq_true rfl) (fun V cs h=>by
  have h' : cs=DElem.cells (DElem.mk (DKey.mk 0 0 0) 0 0 (ByteArray.mk #[])):=h
  subst h';rfl) ?_)
 refine T.iK (H':=(row 28 eElem (some ⟨g,0,none⟩) (l.length + 3) (l ++ [x,x,(DElem.mk (DKey.mk 0 0 0) 0 0 (ByteArray.mk #[]))])::box b 28 x.cells::[])) (by
  have e:(l ++ [x,(DElem.mk (DKey.mk 0 0 0) 0 0 (ByteArray.mk #[])),(DElem.mk (DKey.mk 0 0 0) 0 0 (ByteArray.mk #[]))]).set (l.length + 1) x=(l ++ [x,x,(DElem.mk (DKey.mk 0 0 0) 0 0 (ByteArray.mk #[]))]):=lK _ _ _ _
  rw [← e];rfl) ?_
 refine TA.on (Hp.old vr vr (dr1 (kp1 kp0)) (oB1 ol0)) ?_
 refine TA.d ?_
 refine T.gQ (T.k2 (vi 2) (vi 2) (T.gN ?_))
 have hwk2:IntKind.i64.wrap ((l.length:Int) + 2)=((l.length + 2:Nat) : Int):=by rw [IntKind.wrap_i64];omega
 refine T.jF (T.sr (T.k (.bool true) (T.gN ?_)))
 refine T.gR (T.jy true (by kernel_rfl) (by kernel_rfl) (fun _=>?_) (fun h=>Bool.noConfusion h))
 refine T.gP ?_
 refine T.gR (T.ie (T.sr (T.k2 (vi 2) (vi 2) (T.gN ?_))))
 refine T.jD [box b 28 x.cells] (by kernel_rfl) ?_
 refine TA.tp 0 (.slice (some ⟨g,0,none⟩) l.length (l.length + 3)) rfl (Hp.old vr vr (dr1 (kp1 kp0)) (oB1 ol0)) ?_
 refine TA.tp 1 (.slice A l.length c) rfl (Hp.old vr vr (dr1 (kp1 kp0)) (oB1 ol0)) ?_
 refine TA.tp 2 (vi (l.length:Int)) rfl (Hp.old vr vr (dr1 (kp1 kp0)) (oB1 ol0)) ?_
 refine TA.tp 3 (vi (IntKind.i64.wrap ((l.length:Int) + 3))) rfl (Hp.old vr vr (dr1 (kp1 kp0)) (oB1 ol0)) ?_
 refine T.ig 19 (vi ((l.length + 3:Nat) : Int)) rfl (by rw [hw3]) ?_
 refine TA.tk 4 (.slice (iP (some ⟨g,0,none⟩) (l.length + 3) 0 6) (l.length + 3) (l.length + 3)) rfl (Hp.old vr vr (dr1 (kp1 kp0)) (oB1 ol0)) (fun w' hh=>ij (e:=28) (s:=6) (lx:=none) (hx:=some _) (lo:=0) (hi:=((l.length + 3:Nat) : Int)) (k:=.i64) (k':=.i64) rfl rfl (by kernel_rfl) (by kernel_rfl) rfl rfl (by omega) (by omega) (by omega)) ?_
 refine T.ig 20 (.slice (some ⟨g,0,none⟩) (l.length + 3) (l.length + 3)) rfl (by rw [jp]) ?_
 refine TA.tp 5 (.slice A l.length c) rfl (Hp.old vr vr (dr1 (kp1 kp0)) (oB1 ol0)) ?_
 refine TA.tp 6 (vi (l.length:Int)) rfl (Hp.old vr vr (dr1 (kp1 kp0)) (oB1 ol0)) ?_
 refine TA.tp 7 (vi 2) rfl (Hp.old vr vr (dr1 (kp1 kp0)) (oB1 ol0)) ?_
 refine TA.tp 8 (vi (IntKind.i64.wrap ((l.length:Int) + 2))) rfl (Hp.old vr vr (dr1 (kp1 kp0)) (oB1 ol0)) ?_
 refine T.ig 24 (vi ((l.length + 2:Nat) : Int)) rfl (by rw [hwk2]) ?_
 refine TA.tk 9 (.agg #[vi x.key.pfs,vi x.key.obj,vi x.key.off,vi x.made,vi x.gone,.string x.val]) rfl (Hp.old vr vr (dr1 (kp1 kp0)) (oB1 ol0)) (ldN 0) ?_
 refine TA.tk 10 (.pointer (some ((iE (some ⟨g,0,none⟩)).add ((((l.length + 2:Nat) : Int)).toNat * 6)))) rfl (Hp.old vr vr (dr1 (kp1 kp0)) (oB1 ol0)) (fun w' hh=>ib (e:=28) (s:=6) (n:=l.length + 3) (c:=l.length + 3) (iv:=((l.length + 2:Nat) : Int)) (k:=.i64) rfl rfl rfl (by kernel_rfl) (by kernel_rfl) (by omega) (by omega) rfl) ?_
 refine TA.j 11 rfl (W1.iO (E:=eElem) 0 (l.length + 2) 0 (DElem.mk (DKey.mk 0 0 0) 0 0 (ByteArray.mk #[])) x _ (vs:=x.cells) (by rfl) (by kernel_rfl) rfl rfl (by rw [ja];rfl) rfl rfl (fun _=>by kernel_rfl) (nN x) (by rw [List.getElem?_append_right (Nat.le_add_right _ _),Nat.add_sub_cancel_left];rfl) (Nat.le_of_ble_eq_true rfl) (fun V cs h=>by
  have h' : cs=DElem.cells (DElem.mk (DKey.mk 0 0 0) 0 0 (ByteArray.mk #[])):=h
  subst h';rfl) ?_)
 refine T.iK (H':=(row 28 eElem (some ⟨g,0,none⟩) (l.length + 3) (l ++ [x,x,x])::box b 28 x.cells::[])) (by
  have e:(l ++ [x,x,(DElem.mk (DKey.mk 0 0 0) 0 0 (ByteArray.mk #[]))]).set (l.length + 2) x=(l ++ [x,x,x]):=lK _ _ _ _
  rw [← e];rfl) ?_
 refine TA.on (Hp.old vr vr (dr1 (kp1 kp0)) (oB1 ol0)) ?_
 refine TA.d ?_
 refine T.gQ (T.k2 (vi 3) (vi 3) (T.gN ?_))
 refine T.jF (T.sr (T.k (.bool false) (T.gN ?_)))
 refine T.gR (T.jy false (by kernel_rfl) (by kernel_rfl) (fun h=>Bool.noConfusion h) (fun _=>?_))
 refine T.iI ?_
 refine T.sr (T.k2 (.slice (some ⟨g,0,none⟩) l.length (l.length + 3)) (.slice (some ⟨g,0,none⟩) l.length (l.length + 3)) (T.gN ?_))
 refine T.ik rfl ?_
 exact T.iq rfl (rT rfl) fun w' hh=>⟨(some ⟨g,0,none⟩),rfl,trivial,iW (hh.sub (kp1 kp0)) ⟨iN (fun _ _ _ _ h=>h),trivial⟩⟩
theorem pf (l:List DSpot) (x:DSpot) (A:Option Addr) (c:Nat) (w:World) (hs:ia (vw w) eSpot A c l) (hr:mA ((l.length:Int) + 3).toNat 32=true) (hm:((l.length:Int) + 3).toNat≤maxLen) :
 Calls Tryz.prog 22 #[.slice A l.length c,.agg #[.int .i64 x.key.pfs,.int .i64 x.key.obj,.int .i64 x.key.off,.int .i64 x.made]] w
  (fun e w'=>∃ p:Option Addr,e = .returned (.slice p l.length (l.length + 3))∧True∧lE w w' [row 36 eSpot p (l.length + 3) (l ++ [x,x,x])]):=by
 have hN:((l.length:Int) + 3).toNat=l.length + 3:=by omega
 rw [hN] at hr hm
 have hM:l.length + 3≤9223372036854775807:=Nat.le_trans hm (by decide)
 have hw3:IntKind.i64.wrap ((l.length:Int) + 3)=((l.length + 3:Nat) : Int):=by rw [IntKind.wrap_i64];omega
 refine T.i9 (l:=[.slice A l.length c,.agg #[vi x.key.pfs,vi x.key.obj,vi x.key.off,vi x.made]]) Tryz.func22 rfl rfl rfl ?_
 refine T.sr (T.gO (W1.np 36 x.cells (fun b=>T.k sN (T.gN ?_))))
 refine T.sr (T.k3 (.slice A l.length c) (vi (l.length:Int)) (vi (IntKind.i64.wrap ((l.length:Int) + 3))) ?_)
 refine T.ig 9 (vi ((l.length + 3:Nat) : Int)) rfl (by rw [hw3]) ?_
 obtain⟨ti,hti,hz1,hz2,hz3⟩:=info_parts (P:=Tryz.prog) (e:=36) (z:=.agg #[vi 0,vi 0,vi 0,vi 0]) (size:=4) (bytes:=32) (by kernel_rfl)
 refine T.gO (W1.oQ (E:=eSpot) 0 (l.length + 3) (DSpot.mk (DKey.mk 0 0 0) 0) _ _ .i64 .i64 32 ti _ (by kernel_rfl) rfl (by kernel_rfl) hti hz1 hz2 hz3 rfl rfl (by omega) (fun _=>rfl) rfl hr hm (fun g=>?_))
 refine T.k (.slice A l.length c) ?_
 refine T.gO (W1.lq (E:=eSpot) (l:=List.replicate (l.length + 3) (DSpot.mk (DKey.mk 0 0 0) 0)) (m:=l) 0 0 _ _ ti (by rfl) (by rw [List.length_replicate];omega) (by kernel_rfl) rfl (by kernel_rfl) hti hz2 (by decide) rfl rfl (fun w' hh=>ia.sF (ia.mono hs hh.view)) ?_)
 refine T.iK (H':=(row 36 eSpot (some ⟨g,0,none⟩) (l.length + 3) (l ++ [(DSpot.mk (DKey.mk 0 0 0) 0),(DSpot.mk (DKey.mk 0 0 0) 0),(DSpot.mk (DKey.mk 0 0 0) 0)])::box b 36 x.cells::[])) (by
  have e:over (List.replicate (l.length + 3) (DSpot.mk (DKey.mk 0 0 0) 0)) 0 l=(l ++ [(DSpot.mk (DKey.mk 0 0 0) 0),(DSpot.mk (DKey.mk 0 0 0) 0),(DSpot.mk (DKey.mk 0 0 0) 0)]):=by
   unfold over
   rw [List.take_zero,List.nil_append,Nat.zero_add,List.drop_replicate,Nat.add_sub_cancel_left];rfl
  rw [← e];rfl) ?_
 refine T.ig 12 (.slice (some ⟨g,0,none⟩) l.length (l.length + 3)) rfl (by rw [Nat.zero_add]) ?_
 refine T.k (.slice (some ⟨g,0,none⟩) l.length (l.length + 3)) (T.gN ?_)
 refine T.gR (T.sr (T.k (vi 0) (T.gN ?_)))
 refine T.ie (T.lQ 4 ?_)
 have hwk0:IntKind.i64.wrap ((l.length:Int) + 0)=((l.length + 0:Nat) : Int):=by rw [IntKind.wrap_i64];omega
 refine T.jF (T.sr (T.k (.bool true) (T.gN ?_)))
 refine T.gR (T.jy true (by kernel_rfl) (by kernel_rfl) (fun _=>?_) (fun h=>Bool.noConfusion h))
 refine T.gP ?_
 refine T.gR (T.ie (T.sr (T.k2 (vi 0) (vi 0) (T.gN ?_))))
 refine T.jD [box b 36 x.cells] (by kernel_rfl) ?_
 refine TA.tp 0 (.slice (some ⟨g,0,none⟩) l.length (l.length + 3)) rfl (Hp.old vr vr (dr1 (kp1 kp0)) (oB1 ol0)) ?_
 refine TA.tp 1 (.slice A l.length c) rfl (Hp.old vr vr (dr1 (kp1 kp0)) (oB1 ol0)) ?_
 refine TA.tp 2 (vi (l.length:Int)) rfl (Hp.old vr vr (dr1 (kp1 kp0)) (oB1 ol0)) ?_
 refine TA.tp 3 (vi (IntKind.i64.wrap ((l.length:Int) + 3))) rfl (Hp.old vr vr (dr1 (kp1 kp0)) (oB1 ol0)) ?_
 refine T.ig 19 (vi ((l.length + 3:Nat) : Int)) rfl (by rw [hw3]) ?_
 refine TA.tk 4 (.slice (iP (some ⟨g,0,none⟩) (l.length + 3) 0 4) (l.length + 3) (l.length + 3)) rfl (Hp.old vr vr (dr1 (kp1 kp0)) (oB1 ol0)) (fun w' hh=>ij (e:=36) (s:=4) (lx:=none) (hx:=some _) (lo:=0) (hi:=((l.length + 3:Nat) : Int)) (k:=.i64) (k':=.i64) rfl rfl (by kernel_rfl) (by kernel_rfl) rfl rfl (by omega) (by omega) (by omega)) ?_
 refine T.ig 20 (.slice (some ⟨g,0,none⟩) (l.length + 3) (l.length + 3)) rfl (by rw [jp]) ?_
 refine TA.tp 5 (.slice A l.length c) rfl (Hp.old vr vr (dr1 (kp1 kp0)) (oB1 ol0)) ?_
 refine TA.tp 6 (vi (l.length:Int)) rfl (Hp.old vr vr (dr1 (kp1 kp0)) (oB1 ol0)) ?_
 refine TA.tp 7 (vi 0) rfl (Hp.old vr vr (dr1 (kp1 kp0)) (oB1 ol0)) ?_
 refine TA.tp 8 (vi (IntKind.i64.wrap ((l.length:Int) + 0))) rfl (Hp.old vr vr (dr1 (kp1 kp0)) (oB1 ol0)) ?_
 refine T.ig 24 (vi ((l.length + 0:Nat) : Int)) rfl (by rw [hwk0]) ?_
 refine TA.tk 9 (.agg #[vi x.key.pfs,vi x.key.obj,vi x.key.off,vi x.made]) rfl (Hp.old vr vr (dr1 (kp1 kp0)) (oB1 ol0)) (ldN 0) ?_
 refine TA.tk 10 (.pointer (some ((iE (some ⟨g,0,none⟩)).add ((((l.length + 0:Nat) : Int)).toNat * 4)))) rfl (Hp.old vr vr (dr1 (kp1 kp0)) (oB1 ol0)) (fun w' hh=>ib (e:=36) (s:=4) (n:=l.length + 3) (c:=l.length + 3) (iv:=((l.length + 0:Nat) : Int)) (k:=.i64) rfl rfl rfl (by kernel_rfl) (by kernel_rfl) (by omega) (by omega) rfl) ?_
 refine TA.j 11 rfl (W1.iO (E:=eSpot) 0 (l.length + 0) 0 (DSpot.mk (DKey.mk 0 0 0) 0) x _ (vs:=x.cells) (by rfl) (by kernel_rfl) rfl rfl (by rw [ja];rfl) rfl rfl (fun _=>by kernel_rfl) (nO x) (by rw [List.getElem?_append_right (Nat.le_add_right _ _),Nat.add_sub_cancel_left];rfl) (Nat.le_of_ble_eq_true rfl) (fun V cs h=>by
  have h' : cs=DSpot.cells (DSpot.mk (DKey.mk 0 0 0) 0):=h
  subst h';rfl) ?_)
 refine T.iK (H':=(row 36 eSpot (some ⟨g,0,none⟩) (l.length + 3) (l ++ [x,(DSpot.mk (DKey.mk 0 0 0) 0),(DSpot.mk (DKey.mk 0 0 0) 0)])::box b 36 x.cells::[])) (by
  have e:(l ++ [(DSpot.mk (DKey.mk 0 0 0) 0),(DSpot.mk (DKey.mk 0 0 0) 0),(DSpot.mk (DKey.mk 0 0 0) 0)]).set (l.length + 0) x=(l ++ [x,(DSpot.mk (DKey.mk 0 0 0) 0),(DSpot.mk (DKey.mk 0 0 0) 0)]):=lK _ _ _ _
  rw [← e];rfl) ?_
 refine TA.on (Hp.old vr vr (dr1 (kp1 kp0)) (oB1 ol0)) ?_
 refine TA.d ?_
 refine T.gQ (T.k2 (vi 1) (vi 1) (T.gN ?_))
 have hwk1:IntKind.i64.wrap ((l.length:Int) + 1)=((l.length + 1:Nat) : Int):=by rw [IntKind.wrap_i64];omega
 refine T.jF (T.sr (T.k (.bool true) (T.gN ?_)))
 refine T.gR (T.jy true (by kernel_rfl) (by kernel_rfl) (fun _=>?_) (fun h=>Bool.noConfusion h))
 refine T.gP ?_
 refine T.gR (T.ie (T.sr (T.k2 (vi 1) (vi 1) (T.gN ?_))))
 refine T.jD [box b 36 x.cells] (by kernel_rfl) ?_
 refine TA.tp 0 (.slice (some ⟨g,0,none⟩) l.length (l.length + 3)) rfl (Hp.old vr vr (dr1 (kp1 kp0)) (oB1 ol0)) ?_
 refine TA.tp 1 (.slice A l.length c) rfl (Hp.old vr vr (dr1 (kp1 kp0)) (oB1 ol0)) ?_
 refine TA.tp 2 (vi (l.length:Int)) rfl (Hp.old vr vr (dr1 (kp1 kp0)) (oB1 ol0)) ?_
 refine TA.tp 3 (vi (IntKind.i64.wrap ((l.length:Int) + 3))) rfl (Hp.old vr vr (dr1 (kp1 kp0)) (oB1 ol0)) ?_
 refine T.ig 19 (vi ((l.length + 3:Nat) : Int)) rfl (by rw [hw3]) ?_
 refine TA.tk 4 (.slice (iP (some ⟨g,0,none⟩) (l.length + 3) 0 4) (l.length + 3) (l.length + 3)) rfl (Hp.old vr vr (dr1 (kp1 kp0)) (oB1 ol0)) (fun w' hh=>ij (e:=36) (s:=4) (lx:=none) (hx:=some _) (lo:=0) (hi:=((l.length + 3:Nat) : Int)) (k:=.i64) (k':=.i64) rfl rfl (by kernel_rfl) (by kernel_rfl) rfl rfl (by omega) (by omega) (by omega)) ?_
 refine T.ig 20 (.slice (some ⟨g,0,none⟩) (l.length + 3) (l.length + 3)) rfl (by rw [jp]) ?_
 refine TA.tp 5 (.slice A l.length c) rfl (Hp.old vr vr (dr1 (kp1 kp0)) (oB1 ol0)) ?_
 refine TA.tp 6 (vi (l.length:Int)) rfl (Hp.old vr vr (dr1 (kp1 kp0)) (oB1 ol0)) ?_
 refine TA.tp 7 (vi 1) rfl (Hp.old vr vr (dr1 (kp1 kp0)) (oB1 ol0)) ?_
 refine TA.tp 8 (vi (IntKind.i64.wrap ((l.length:Int) + 1))) rfl (Hp.old vr vr (dr1 (kp1 kp0)) (oB1 ol0)) ?_
 refine T.ig 24 (vi ((l.length + 1:Nat) : Int)) rfl (by rw [hwk1]) ?_
 refine TA.tk 9 (.agg #[vi x.key.pfs,vi x.key.obj,vi x.key.off,vi x.made]) rfl (Hp.old vr vr (dr1 (kp1 kp0)) (oB1 ol0)) (ldN 0) ?_
 refine TA.tk 10 (.pointer (some ((iE (some ⟨g,0,none⟩)).add ((((l.length + 1:Nat) : Int)).toNat * 4)))) rfl (Hp.old vr vr (dr1 (kp1 kp0)) (oB1 ol0)) (fun w' hh=>ib (e:=36) (s:=4) (n:=l.length + 3) (c:=l.length + 3) (iv:=((l.length + 1:Nat) : Int)) (k:=.i64) rfl rfl rfl (by kernel_rfl) (by kernel_rfl) (by omega) (by omega) rfl) ?_
 refine TA.j 11 rfl (W1.iO (E:=eSpot) 0 (l.length + 1) 0 (DSpot.mk (DKey.mk 0 0 0) 0) x _ (vs:=x.cells) (by rfl) (by kernel_rfl) rfl rfl (by rw [ja];rfl) rfl rfl (fun _=>by kernel_rfl) (nO x) (by rw [List.getElem?_append_right (Nat.le_add_right _ _),Nat.add_sub_cancel_left];rfl) (Nat.le_of_ble_eq_true rfl) (fun V cs h=>by
  have h' : cs=DSpot.cells (DSpot.mk (DKey.mk 0 0 0) 0):=h
  subst h';rfl) ?_)
 refine T.iK (H':=(row 36 eSpot (some ⟨g,0,none⟩) (l.length + 3) (l ++ [x,x,(DSpot.mk (DKey.mk 0 0 0) 0)])::box b 36 x.cells::[])) (by
  have e:(l ++ [x,(DSpot.mk (DKey.mk 0 0 0) 0),(DSpot.mk (DKey.mk 0 0 0) 0)]).set (l.length + 1) x=(l ++ [x,x,(DSpot.mk (DKey.mk 0 0 0) 0)]):=lK _ _ _ _
  rw [← e];rfl) ?_
 refine TA.on (Hp.old vr vr (dr1 (kp1 kp0)) (oB1 ol0)) ?_
 refine TA.d ?_
 refine T.gQ (T.k2 (vi 2) (vi 2) (T.gN ?_))
 have hwk2:IntKind.i64.wrap ((l.length:Int) + 2)=((l.length + 2:Nat) : Int):=by rw [IntKind.wrap_i64];omega
 refine T.jF (T.sr (T.k (.bool true) (T.gN ?_)))
 refine T.gR (T.jy true (by kernel_rfl) (by kernel_rfl) (fun _=>?_) (fun h=>Bool.noConfusion h))
 refine T.gP ?_
 refine T.gR (T.ie (T.sr (T.k2 (vi 2) (vi 2) (T.gN ?_))))
 refine T.jD [box b 36 x.cells] (by kernel_rfl) ?_
 refine TA.tp 0 (.slice (some ⟨g,0,none⟩) l.length (l.length + 3)) rfl (Hp.old vr vr (dr1 (kp1 kp0)) (oB1 ol0)) ?_
 refine TA.tp 1 (.slice A l.length c) rfl (Hp.old vr vr (dr1 (kp1 kp0)) (oB1 ol0)) ?_
 refine TA.tp 2 (vi (l.length:Int)) rfl (Hp.old vr vr (dr1 (kp1 kp0)) (oB1 ol0)) ?_
 refine TA.tp 3 (vi (IntKind.i64.wrap ((l.length:Int) + 3))) rfl (Hp.old vr vr (dr1 (kp1 kp0)) (oB1 ol0)) ?_
 refine T.ig 19 (vi ((l.length + 3:Nat) : Int)) rfl (by rw [hw3]) ?_
 refine TA.tk 4 (.slice (iP (some ⟨g,0,none⟩) (l.length + 3) 0 4) (l.length + 3) (l.length + 3)) rfl (Hp.old vr vr (dr1 (kp1 kp0)) (oB1 ol0)) (fun w' hh=>ij (e:=36) (s:=4) (lx:=none) (hx:=some _) (lo:=0) (hi:=((l.length + 3:Nat) : Int)) (k:=.i64) (k':=.i64) rfl rfl (by kernel_rfl) (by kernel_rfl) rfl rfl (by omega) (by omega) (by omega)) ?_
 refine T.ig 20 (.slice (some ⟨g,0,none⟩) (l.length + 3) (l.length + 3)) rfl (by rw [jp]) ?_
 refine TA.tp 5 (.slice A l.length c) rfl (Hp.old vr vr (dr1 (kp1 kp0)) (oB1 ol0)) ?_
 refine TA.tp 6 (vi (l.length:Int)) rfl (Hp.old vr vr (dr1 (kp1 kp0)) (oB1 ol0)) ?_
 refine TA.tp 7 (vi 2) rfl (Hp.old vr vr (dr1 (kp1 kp0)) (oB1 ol0)) ?_
 refine TA.tp 8 (vi (IntKind.i64.wrap ((l.length:Int) + 2))) rfl (Hp.old vr vr (dr1 (kp1 kp0)) (oB1 ol0)) ?_
 refine T.ig 24 (vi ((l.length + 2:Nat) : Int)) rfl (by rw [hwk2]) ?_
 refine TA.tk 9 (.agg #[vi x.key.pfs,vi x.key.obj,vi x.key.off,vi x.made]) rfl (Hp.old vr vr (dr1 (kp1 kp0)) (oB1 ol0)) (ldN 0) ?_
 refine TA.tk 10 (.pointer (some ((iE (some ⟨g,0,none⟩)).add ((((l.length + 2:Nat) : Int)).toNat * 4)))) rfl (Hp.old vr vr (dr1 (kp1 kp0)) (oB1 ol0)) (fun w' hh=>ib (e:=36) (s:=4) (n:=l.length + 3) (c:=l.length + 3) (iv:=((l.length + 2:Nat) : Int)) (k:=.i64) rfl rfl rfl (by kernel_rfl) (by kernel_rfl) (by omega) (by omega) rfl) ?_
 refine TA.j 11 rfl (W1.iO (E:=eSpot) 0 (l.length + 2) 0 (DSpot.mk (DKey.mk 0 0 0) 0) x _ (vs:=x.cells) (by rfl) (by kernel_rfl) rfl rfl (by rw [ja];rfl) rfl rfl (fun _=>by kernel_rfl) (nO x) (by rw [List.getElem?_append_right (Nat.le_add_right _ _),Nat.add_sub_cancel_left];rfl) (Nat.le_of_ble_eq_true rfl) (fun V cs h=>by
  have h' : cs=DSpot.cells (DSpot.mk (DKey.mk 0 0 0) 0):=h
  subst h';rfl) ?_)
 refine T.iK (H':=(row 36 eSpot (some ⟨g,0,none⟩) (l.length + 3) (l ++ [x,x,x])::box b 36 x.cells::[])) (by
  have e:(l ++ [x,x,(DSpot.mk (DKey.mk 0 0 0) 0)]).set (l.length + 2) x=(l ++ [x,x,x]):=lK _ _ _ _
  rw [← e];rfl) ?_
 refine TA.on (Hp.old vr vr (dr1 (kp1 kp0)) (oB1 ol0)) ?_
 refine TA.d ?_
 refine T.gQ (T.k2 (vi 3) (vi 3) (T.gN ?_))
 refine T.jF (T.sr (T.k (.bool false) (T.gN ?_)))
 refine T.gR (T.jy false (by kernel_rfl) (by kernel_rfl) (fun h=>Bool.noConfusion h) (fun _=>?_))
 refine T.iI ?_
 refine T.sr (T.k2 (.slice (some ⟨g,0,none⟩) l.length (l.length + 3)) (.slice (some ⟨g,0,none⟩) l.length (l.length + 3)) (T.gN ?_))
 refine T.ik rfl ?_
 exact T.iq rfl (rT rfl) fun w' hh=>⟨(some ⟨g,0,none⟩),rfl,trivial,iW (hh.sub (kp1 kp0)) ⟨iN (fun _ _ _ _ h=>h),trivial⟩⟩
theorem pi {w:World} {V:View} {G:List HObj} {w1:World} {A:Option Addr} {c:Nat} {l:List DHdr} {n:Nat} (x:DHdr) (hn:n≤c) (hh:Hp w V (row 55 eHdr A c l::G) w1) :
 Calls Tryz.prog 49 #[.slice A n c,.agg #[.int .i64 x.kind,.slice x.a1 x.n1 x.c1,.slice x.a2 x.n2 x.c2,.slice x.a3 x.n3 x.c3,.slice x.a4 x.n4 x.c4]] w1
  (fun r w2=>r = .returned (.tuple #[])∧Hp w V (row 55 eHdr A c (List.replicate c x)::G) w2):=by
 refine T.iM (l:=[.slice A n c,.agg #[vi x.kind,.slice x.a1 x.n1 x.c1,.slice x.a2 x.n2 x.c2,.slice x.a3 x.n3 x.c3,.slice x.a4 x.n4 x.c4]]) Tryz.func49 rfl rfl rfl ?_ hh
 clear hh
 refine T.kg 0 rfl (fun hlc hcm=>?_)
 refine T.kJ (l:=[]) 0 (by rfl) (List.nil_prefix) ?_
 refine T.sr (T.gO (W1.np 55 x.cells (fun b=>T.gN ?_)))
 refine T.sr (T.k3 (.slice A n c) (.slice A n c) (vi (c:Int)) ?_)
 refine T.l (.slice (iP A c 0 5) c c) (fun w' hh=>ij (e:=55) (s:=5) (lx:=none) (hx:=some _) (lo:=0) (hi:=(c:Int)) (k:=.i64) (k':=.i64) rfl rfl (by kernel_rfl) (by kernel_rfl) rfl rfl (by omega) (by omega) (by omega)) ?_
 refine T.ig 8 (.slice A c c) rfl (by rw [jp]) ?_
 refine T.k (.slice A c c) (T.gN ?_)
 refine T.sr (T.k3 (.slice A c c) (vi (c:Int)) (vi 0) (T.gN ?_))
 refine T.ie ?_
 refine T.lG c (fun k a w'=>Fr 19 [(0,.slice A c c),(3,pB b 0),(9,.slice A c c),(10,vi (c:Int)),(11,vi (k:Int))] a∧Hp w V (box b 55 x.cells::row 55 eHdr A c (List.replicate k x)::G) w') ?_ ?_ ?_
 · exact fun a w' hf hh=>⟨Fr.s hf,hh⟩
 · rintro k hk a w' ⟨hf,hh⟩
   revert hf hh
   refine T.i ?_
   refine T.sr (T.k (.bool (decide ((k:Int) < (c:Int)))) (T.gN ?_))
   refine T.gR (T.cb (decide ((k:Int) < (c:Int))) (fun hc=>?_) (fun hc=>absurd (of_decide_eq_false hc) (by omega)))
   refine T.gP ?_
   refine T.gR (T.ie (T.sr (T.k2 (vi (k:Int)) (vi (k:Int)) (T.gN ?_))))
   refine T.gQ (T.k2 (.slice A c c) (vi (k:Int)) ?_)
   refine T.l (.agg #[vi x.kind,.slice x.a1 x.n1 x.c1,.slice x.a2 x.n2 x.c2,.slice x.a3 x.n3 x.c3,.slice x.a4 x.n4 x.c4]) (ldN 0) ?_
   refine T.l (.pointer (some ((iE A).add (k * 5)))) (fun w' hh=>ib (e:=55) (s:=5) (n:=c) (c:=c) (iv:=(k:Int)) (k:=.i64) rfl rfl rfl (by kernel_rfl) (by kernel_rfl) (by omega) (by omega) (hh.row_some (i:=1) (by rfl) (by omega))) ?_
   refine T.gO (W1.mc (E:=eHdr) 1 x _ (vs:=x.cells) (by rfl) (by rw [List.length_replicate];exact hk) (by kernel_rfl) rfl rfl (by rw [List.length_replicate];rfl) rfl rfl (fun _=>by kernel_rfl) (sw x) rfl (fun _=>rfl) ?_)
   refine T.iK (H':=box b 55 x.cells::row 55 eHdr A c (List.replicate (k + 1) x)::G) (by rw [List.replicate_succ'];rfl) ?_
   refine T.gN ?_
   refine T.gQ (T.k (vi (IntKind.i64.wrap ((k:Int) + 1))) ?_)
   refine T.ig 18 (vi ((k + 1:Nat) : Int)) rfl (by show Value.int .i64 _=Value.int .i64 _;congr 1;unfold maxLen at hcm;rw [IntKind.wrap_i64];omega) ?_
   refine T.k (vi ((k + 1:Nat) : Int)) (T.gN ?_)
   exact fun a w' hf hh=>⟨Fr.s hf,hh⟩
 · rintro a w' ⟨hf,hh⟩
   revert hf hh
   refine T.i ?_
   refine T.sr (T.k (.bool (decide ((c:Int) < (c:Int)))) (T.gN ?_))
   refine T.gR (T.cb (decide ((c:Int) < (c:Int))) (fun hc=>absurd (of_decide_eq_true hc) (by omega)) (fun hc=>?_))
   refine T.iI (T.i8 (T.i8 (T.kZ ?_)))
   exact T.jL rfl (fun w' hh=>⟨rfl,hh.sub (.cons _ (List.Sublist.refl _))⟩)
theorem nl {w:World} {V:View} {G:List HObj} {w1:World} {A:Option Addr} {c:Nat} {l:List Int} {n:Nat} (x:Int) (hn:n≤c) (hh:Hp w V (row 3 hO A c l::G) w1) :
 Calls Tryz.prog 47 #[.slice A n c,.int .i64 x] w1
  (fun r w2=>r = .returned (.tuple #[])∧Hp w V (row 3 hO A c (List.replicate c x)::G) w2):=by
 refine T.iM (l:=[.slice A n c,.int .i64 x]) Tryz.func47 rfl rfl rfl ?_ hh
 clear hh
 refine T.kg 0 rfl (fun hlc hcm=>?_)
 refine T.kJ (l:=[]) 0 (by rfl) (List.nil_prefix) ?_
 refine T.sr (T.k3 (.slice A n c) (.slice A n c) (vi (c:Int)) ?_)
 refine T.l (.slice (iP A c 0 1) c c) (fun w' hh=>ij (e:=3) (s:=1) (lx:=none) (hx:=some _) (lo:=0) (hi:=(c:Int)) (k:=.i64) (k':=.i64) rfl rfl (by kernel_rfl) (by kernel_rfl) rfl rfl (by omega) (by omega) (by omega)) ?_
 refine T.ig 8 (.slice A c c) rfl (by rw [jp]) ?_
 refine T.k (.slice A c c) (T.gN ?_)
 refine T.sr (T.k3 (.slice A c c) (vi (c:Int)) (vi 0) (T.gN ?_))
 refine T.ie ?_
 refine T.lG c (fun k a w'=>Fr 19 [(0,.slice A c c),(1,.int .i64 x),(9,.slice A c c),(10,vi (c:Int)),(11,vi (k:Int))] a∧Hp w V (row 3 hO A c (List.replicate k x)::G) w') ?_ ?_ ?_
 · exact fun a w' hf hh=>⟨Fr.s hf,hh⟩
 · rintro k hk a w' ⟨hf,hh⟩
   revert hf hh
   refine T.i ?_
   refine T.sr (T.k (.bool (decide ((k:Int) < (c:Int)))) (T.gN ?_))
   refine T.gR (T.cb (decide ((k:Int) < (c:Int))) (fun hc=>?_) (fun hc=>absurd (of_decide_eq_false hc) (by omega)))
   refine T.gP ?_
   refine T.gR (T.ie (T.sr (T.k2 (vi (k:Int)) (vi (k:Int)) (T.gN ?_))))
   refine T.gQ (T.k2 (.slice A c c) (vi (k:Int)) ?_)
   refine T.k (.int .i64 x) ?_
   refine T.l (.pointer (some ((iE A).add (k * 1)))) (fun w' hh=>ib (e:=3) (s:=1) (n:=c) (c:=c) (iv:=(k:Int)) (k:=.i64) rfl rfl rfl (by kernel_rfl) (by kernel_rfl) (by omega) (by omega) (hh.row_some (i:=0) (by rfl) (by omega))) ?_
   refine T.gO (W1.mc (E:=hO) 0 x _ (vs:=[.int .i64 x]) (by rfl) (by rw [List.length_replicate];exact hk) (by kernel_rfl) rfl rfl (by rw [List.length_replicate];rfl) rfl rfl (fun _=>by kernel_rfl) (oL x) rfl (fun _=>rfl) ?_)
   refine T.iK (H':=row 3 hO A c (List.replicate (k + 1) x)::G) (by rw [List.replicate_succ'];rfl) ?_
   refine T.gN ?_
   refine T.gQ (T.k (vi (IntKind.i64.wrap ((k:Int) + 1))) ?_)
   refine T.ig 18 (vi ((k + 1:Nat) : Int)) rfl (by show Value.int .i64 _=Value.int .i64 _;congr 1;unfold maxLen at hcm;rw [IntKind.wrap_i64];omega) ?_
   refine T.k (vi ((k + 1:Nat) : Int)) (T.gN ?_)
   exact fun a w' hf hh=>⟨Fr.s hf,hh⟩
 · rintro a w' ⟨hf,hh⟩
   revert hf hh
   refine T.i ?_
   refine T.sr (T.k (.bool (decide ((c:Int) < (c:Int)))) (T.gN ?_))
   refine T.gR (T.cb (decide ((c:Int) < (c:Int))) (fun hc=>absurd (of_decide_eq_true hc) (by omega)) (fun hc=>?_))
   refine T.iI (T.i8 (T.i8 (T.kZ ?_)))
   exact T.jL rfl (fun w' hh=>⟨rfl,hh⟩)
theorem nj (l:List Int) (x:Int) (A:Option Addr) (c:Nat) (w:World) (hs:ia (vw w) hO A c l) (hr:mA ((l.length:Int) + 3).toNat 8=true) (hm:((l.length:Int) + 3).toNat≤maxLen) :
 Calls Tryz.prog 21 #[.slice A l.length c,.int .i64 x] w
  (fun e w'=>∃ p:Option Addr,e = .returned (.slice p l.length (l.length + 3))∧True∧lE w w' [row 3 hO p (l.length + 3) (l ++ [x,x,x])]):=by
 have hN:((l.length:Int) + 3).toNat=l.length + 3:=by omega
 rw [hN] at hr hm
 have hM:l.length + 3≤9223372036854775807:=Nat.le_trans hm (by decide)
 have hw3:IntKind.i64.wrap ((l.length:Int) + 3)=((l.length + 3:Nat) : Int):=by rw [IntKind.wrap_i64];omega
 refine T.i9 (l:=[.slice A l.length c,.int .i64 x]) Tryz.func21 rfl rfl rfl ?_
 refine T.sr (T.k sN (T.gN ?_))
 refine T.sr (T.k3 (.slice A l.length c) (vi (l.length:Int)) (vi (IntKind.i64.wrap ((l.length:Int) + 3))) ?_)
 refine T.ig 9 (vi ((l.length + 3:Nat) : Int)) rfl (by rw [hw3]) ?_
 obtain⟨ti,hti,hz1,hz2,hz3⟩:=info_parts (P:=Tryz.prog) (e:=3) (z:=.int .i64 0) (size:=1) (bytes:=8) (by kernel_rfl)
 refine T.gO (W1.oQ (E:=hO) 0 (l.length + 3) (0:Int) _ _ .i64 .i64 8 ti _ (by kernel_rfl) rfl (by kernel_rfl) hti hz1 hz2 hz3 rfl rfl (by omega) (fun _=>rfl) rfl hr hm (fun g=>?_))
 refine T.k (.slice A l.length c) ?_
 refine T.gO (W1.lq (E:=hO) (l:=List.replicate (l.length + 3) (0:Int)) (m:=l) 0 0 _ _ ti (by rfl) (by rw [List.length_replicate];omega) (by kernel_rfl) rfl (by kernel_rfl) hti hz2 (by decide) rfl rfl (fun w' hh=>ia.sF (ia.mono hs hh.view)) ?_)
 refine T.iK (H':=(row 3 hO (some ⟨g,0,none⟩) (l.length + 3) (l ++ [(0:Int),(0:Int),(0:Int)])::[])) (by
  have e:over (List.replicate (l.length + 3) (0:Int)) 0 l=(l ++ [(0:Int),(0:Int),(0:Int)]):=by
   unfold over
   rw [List.take_zero,List.nil_append,Nat.zero_add,List.drop_replicate,Nat.add_sub_cancel_left];rfl
  rw [← e];rfl) ?_
 refine T.ig 12 (.slice (some ⟨g,0,none⟩) l.length (l.length + 3)) rfl (by rw [Nat.zero_add]) ?_
 refine T.k (.slice (some ⟨g,0,none⟩) l.length (l.length + 3)) (T.gN ?_)
 refine T.gR (T.sr (T.k (vi 0) (T.gN ?_)))
 refine T.ie (T.lQ 4 ?_)
 have hwk0:IntKind.i64.wrap ((l.length:Int) + 0)=((l.length + 0:Nat) : Int):=by rw [IntKind.wrap_i64];omega
 refine T.jF (T.sr (T.k (.bool true) (T.gN ?_)))
 refine T.gR (T.jy true (by kernel_rfl) (by kernel_rfl) (fun _=>?_) (fun h=>Bool.noConfusion h))
 refine T.gP ?_
 refine T.gR (T.ie (T.sr (T.k2 (vi 0) (vi 0) (T.gN ?_))))
 refine T.gQ (T.k4 (.slice (some ⟨g,0,none⟩) l.length (l.length + 3)) (.slice A l.length c) (vi (l.length:Int)) (vi (IntKind.i64.wrap ((l.length:Int) + 3))) ?_)
 refine T.ig 19 (vi ((l.length + 3:Nat) : Int)) rfl (by rw [hw3]) ?_
 refine T.l (.slice (iP (some ⟨g,0,none⟩) (l.length + 3) 0 1) (l.length + 3) (l.length + 3)) (fun w' hh=>ij (e:=3) (s:=1) (lx:=none) (hx:=some _) (lo:=0) (hi:=((l.length + 3:Nat) : Int)) (k:=.i64) (k':=.i64) rfl rfl (by kernel_rfl) (by kernel_rfl) rfl rfl (by omega) (by omega) (by omega)) ?_
 refine T.ig 20 (.slice (some ⟨g,0,none⟩) (l.length + 3) (l.length + 3)) rfl (by rw [jp]) ?_
 refine T.k4 (.slice A l.length c) (vi (l.length:Int)) (vi 0) (vi (IntKind.i64.wrap ((l.length:Int) + 0))) ?_
 refine T.ig 24 (vi ((l.length + 0:Nat) : Int)) rfl (by rw [hwk0]) ?_
 refine T.k (.int .i64 x) ?_
 refine T.l (.pointer (some ((iE (some ⟨g,0,none⟩)).add ((((l.length + 0:Nat) : Int)).toNat * 1)))) (fun w' hh=>ib (e:=3) (s:=1) (n:=l.length + 3) (c:=l.length + 3) (iv:=((l.length + 0:Nat) : Int)) (k:=.i64) rfl rfl rfl (by kernel_rfl) (by kernel_rfl) (by omega) (by omega) rfl) ?_
 refine T.gO (W1.iO (E:=hO) 0 (l.length + 0) 0 (0:Int) x _ (vs:=[.int .i64 x]) (by rfl) (by kernel_rfl) rfl rfl (by rw [ja];rfl) rfl rfl (fun _=>by kernel_rfl) (oL x) (by rw [List.getElem?_append_right (Nat.le_add_right _ _),Nat.add_sub_cancel_left];rfl) (Nat.le_of_ble_eq_true rfl) (fun V cs h=>by
  have h' : cs=[.int .i64 0]:=h
  subst h';rfl) ?_)
 refine T.iK (H':=(row 3 hO (some ⟨g,0,none⟩) (l.length + 3) (l ++ [x,(0:Int),(0:Int)])::[])) (by
  have e:(l ++ [(0:Int),(0:Int),(0:Int)]).set (l.length + 0) x=(l ++ [x,(0:Int),(0:Int)]):=lK _ _ _ _
  rw [← e];rfl) ?_
 refine T.gN ?_
 refine T.gQ (T.k2 (vi 1) (vi 1) (T.gN ?_))
 have hwk1:IntKind.i64.wrap ((l.length:Int) + 1)=((l.length + 1:Nat) : Int):=by rw [IntKind.wrap_i64];omega
 refine T.jF (T.sr (T.k (.bool true) (T.gN ?_)))
 refine T.gR (T.jy true (by kernel_rfl) (by kernel_rfl) (fun _=>?_) (fun h=>Bool.noConfusion h))
 refine T.gP ?_
 refine T.gR (T.ie (T.sr (T.k2 (vi 1) (vi 1) (T.gN ?_))))
 refine T.gQ (T.k4 (.slice (some ⟨g,0,none⟩) l.length (l.length + 3)) (.slice A l.length c) (vi (l.length:Int)) (vi (IntKind.i64.wrap ((l.length:Int) + 3))) ?_)
 refine T.ig 19 (vi ((l.length + 3:Nat) : Int)) rfl (by rw [hw3]) ?_
 refine T.l (.slice (iP (some ⟨g,0,none⟩) (l.length + 3) 0 1) (l.length + 3) (l.length + 3)) (fun w' hh=>ij (e:=3) (s:=1) (lx:=none) (hx:=some _) (lo:=0) (hi:=((l.length + 3:Nat) : Int)) (k:=.i64) (k':=.i64) rfl rfl (by kernel_rfl) (by kernel_rfl) rfl rfl (by omega) (by omega) (by omega)) ?_
 refine T.ig 20 (.slice (some ⟨g,0,none⟩) (l.length + 3) (l.length + 3)) rfl (by rw [jp]) ?_
 refine T.k4 (.slice A l.length c) (vi (l.length:Int)) (vi 1) (vi (IntKind.i64.wrap ((l.length:Int) + 1))) ?_
 refine T.ig 24 (vi ((l.length + 1:Nat) : Int)) rfl (by rw [hwk1]) ?_
 refine T.k (.int .i64 x) ?_
 refine T.l (.pointer (some ((iE (some ⟨g,0,none⟩)).add ((((l.length + 1:Nat) : Int)).toNat * 1)))) (fun w' hh=>ib (e:=3) (s:=1) (n:=l.length + 3) (c:=l.length + 3) (iv:=((l.length + 1:Nat) : Int)) (k:=.i64) rfl rfl rfl (by kernel_rfl) (by kernel_rfl) (by omega) (by omega) rfl) ?_
 refine T.gO (W1.iO (E:=hO) 0 (l.length + 1) 0 (0:Int) x _ (vs:=[.int .i64 x]) (by rfl) (by kernel_rfl) rfl rfl (by rw [ja];rfl) rfl rfl (fun _=>by kernel_rfl) (oL x) (by rw [List.getElem?_append_right (Nat.le_add_right _ _),Nat.add_sub_cancel_left];rfl) (Nat.le_of_ble_eq_true rfl) (fun V cs h=>by
  have h' : cs=[.int .i64 0]:=h
  subst h';rfl) ?_)
 refine T.iK (H':=(row 3 hO (some ⟨g,0,none⟩) (l.length + 3) (l ++ [x,x,(0:Int)])::[])) (by
  have e:(l ++ [x,(0:Int),(0:Int)]).set (l.length + 1) x=(l ++ [x,x,(0:Int)]):=lK _ _ _ _
  rw [← e];rfl) ?_
 refine T.gN ?_
 refine T.gQ (T.k2 (vi 2) (vi 2) (T.gN ?_))
 have hwk2:IntKind.i64.wrap ((l.length:Int) + 2)=((l.length + 2:Nat) : Int):=by rw [IntKind.wrap_i64];omega
 refine T.jF (T.sr (T.k (.bool true) (T.gN ?_)))
 refine T.gR (T.jy true (by kernel_rfl) (by kernel_rfl) (fun _=>?_) (fun h=>Bool.noConfusion h))
 refine T.gP ?_
 refine T.gR (T.ie (T.sr (T.k2 (vi 2) (vi 2) (T.gN ?_))))
 refine T.gQ (T.k4 (.slice (some ⟨g,0,none⟩) l.length (l.length + 3)) (.slice A l.length c) (vi (l.length:Int)) (vi (IntKind.i64.wrap ((l.length:Int) + 3))) ?_)
 refine T.ig 19 (vi ((l.length + 3:Nat) : Int)) rfl (by rw [hw3]) ?_
 refine T.l (.slice (iP (some ⟨g,0,none⟩) (l.length + 3) 0 1) (l.length + 3) (l.length + 3)) (fun w' hh=>ij (e:=3) (s:=1) (lx:=none) (hx:=some _) (lo:=0) (hi:=((l.length + 3:Nat) : Int)) (k:=.i64) (k':=.i64) rfl rfl (by kernel_rfl) (by kernel_rfl) rfl rfl (by omega) (by omega) (by omega)) ?_
 refine T.ig 20 (.slice (some ⟨g,0,none⟩) (l.length + 3) (l.length + 3)) rfl (by rw [jp]) ?_
 refine T.k4 (.slice A l.length c) (vi (l.length:Int)) (vi 2) (vi (IntKind.i64.wrap ((l.length:Int) + 2))) ?_
 refine T.ig 24 (vi ((l.length + 2:Nat) : Int)) rfl (by rw [hwk2]) ?_
 refine T.k (.int .i64 x) ?_
 refine T.l (.pointer (some ((iE (some ⟨g,0,none⟩)).add ((((l.length + 2:Nat) : Int)).toNat * 1)))) (fun w' hh=>ib (e:=3) (s:=1) (n:=l.length + 3) (c:=l.length + 3) (iv:=((l.length + 2:Nat) : Int)) (k:=.i64) rfl rfl rfl (by kernel_rfl) (by kernel_rfl) (by omega) (by omega) rfl) ?_
 refine T.gO (W1.iO (E:=hO) 0 (l.length + 2) 0 (0:Int) x _ (vs:=[.int .i64 x]) (by rfl) (by kernel_rfl) rfl rfl (by rw [ja];rfl) rfl rfl (fun _=>by kernel_rfl) (oL x) (by rw [List.getElem?_append_right (Nat.le_add_right _ _),Nat.add_sub_cancel_left];rfl) (Nat.le_of_ble_eq_true rfl) (fun V cs h=>by
  have h' : cs=[.int .i64 0]:=h
  subst h';rfl) ?_)
 refine T.iK (H':=(row 3 hO (some ⟨g,0,none⟩) (l.length + 3) (l ++ [x,x,x])::[])) (by
  have e:(l ++ [x,x,(0:Int)]).set (l.length + 2) x=(l ++ [x,x,x]):=lK _ _ _ _
  rw [← e];rfl) ?_
 refine T.gN ?_
 refine T.gQ (T.k2 (vi 3) (vi 3) (T.gN ?_))
 refine T.jF (T.sr (T.k (.bool false) (T.gN ?_)))
 refine T.gR (T.jy false (by kernel_rfl) (by kernel_rfl) (fun h=>Bool.noConfusion h) (fun _=>?_))
 refine T.iI ?_
 refine T.sr (T.k2 (.slice (some ⟨g,0,none⟩) l.length (l.length + 3)) (.slice (some ⟨g,0,none⟩) l.length (l.length + 3)) (T.gN ?_))
 refine T.ik rfl ?_
 exact T.iq rfl (rT rfl) fun w' hh=>⟨(some ⟨g,0,none⟩),rfl,trivial,iW hh ⟨iN (fun _ _ _ _ h=>h),trivial⟩⟩
theorem rm {w:World} {V:View} {H:List HObj} {w1:World} {A:Option Addr} {l:List DElem} (hm:(l.length + 3)≤maxLen) (hs : ∀ w',Hp w V H w'→ia (vw w') eElem A (l.length + 3) (l ++ [kv,kv,kv])) (hh:Hp w V H w1) :
 Calls Tryz.prog 42 #[.slice A l.length (l.length + 3)] w1 (fun e w2=>∃ v,e = .returned v∧v = .bool true∧Hp w V H w2):=by
 refine T.iM (l:=[.slice A l.length (l.length + 3)]) Tryz.func42 rfl rfl rfl ?_ hh
 clear hh
 refine T.sr (T.k (.bool false) (T.gN ?_))
 refine T.gR (T.sr (T.k5 (.slice A l.length (l.length + 3)) (.slice A l.length (l.length + 3)) (vi (l.length:Int)) (.slice A l.length (l.length + 3)) (vi ((l.length + 3:Nat) : Int)) ?_))
 refine T.l (.slice (iP A (l.length + 3) l.length 6) (l.length + 3 - l.length) (l.length + 3 - l.length)) (fun w' hh=>ij (e:=28) (s:=6) (lx:=some _) (hx:=some _) (lo:=(l.length:Int)) (hi:=((l.length + 3:Nat) : Int)) (k:=.i64) (k':=.i64) rfl rfl (by kernel_rfl) (by kernel_rfl) rfl rfl (by omega) (by omega) (by omega)) ?_
 refine T.ig 10 (.slice (iP A (l.length + 3) l.length 6) 3 3) rfl (by rw [show l.length + 3 - l.length=3 by omega]) ?_
 refine T.k2 (vi 3) (vi 0) (T.gN ?_)
 refine T.ie (T.lQ 4 ?_)
 refine T.jF (T.sr (T.k (.bool true) (T.gN ?_)))
 refine T.gR (T.jy true (by kernel_rfl) (by kernel_rfl) (fun _=>?_) (fun h=>Bool.noConfusion h))
 refine T.gP ?_
 refine T.gR (T.ie (T.sr ?_))
 refine T.l (.pointer (some ((iE (iP A (l.length + 3) l.length 6)).add ((0:Int).toNat * 6)))) (fun w' hh=>ib (e:=28) (s:=6) (n:=3) (c:=3) (iv:=(0:Int)) (k:=.i64) rfl rfl rfl (by kernel_rfl) (by kernel_rfl) (by decide) (by decide) ((hs w' hh).tail3.some_ (k:=0) rfl (by decide))) ?_
 refine T.l (.agg #[vi 0,vi 0,vi 0,vi 77,vi 0,.string (ByteArray.mk #[109,97,114,107])]) (fun w' hh=>j8 (cs:=[vi 0,vi 0,vi 0,vi 77,vi 0,.string (ByteArray.mk #[109,97,114,107])]) rfl rfl (by kernel_rfl) (by kernel_rfl) (fun j u hj=>ia.wcellF (E:=eElem) (hs w' hh).tail3 (k:=0) (x:=kv) rfl j (fun _ _ _ h=>h) hj)) ?_
 refine T.gO (W1.np 28 [vi 0,vi 0,vi 0,vi 0,vi 0,.string (ByteArray.mk #[])] (fun b0=>?_))
 refine T.gO (W1.st 0 [vi 0,vi 0,vi 0,vi 77,vi 0,.string (ByteArray.mk #[109,97,114,107])] (box b0 28 [vi 0,vi 0,vi 0,vi 77,vi 0,.string (ByteArray.mk #[109,97,114,107])]::H) [vi 0,vi 0,vi 0,vi 77,vi 0,.string (ByteArray.mk #[109,97,114,107])] (T.gN ?_))
 refine T.gR (T.jD [box b0 28 [vi 0,vi 0,vi 0,vi 77,vi 0,.string (ByteArray.mk #[109,97,114,107])]] (by kernel_rfl) ?_)
 refine TA.tk 0 (.agg #[vi 0,vi 0,vi 0,vi 77,vi 0,.string (ByteArray.mk #[109,97,114,107])]) rfl (fun _ hh=>hh.sub (kp1 kp0)) (ldN 0) ?_
 refine TA.j 1 rfl (W1.cs (vAg eElem) kv 20 #[] (.agg #[vi 0,vi 0,vi 0,vi 77,vi 0,.string (ByteArray.mk #[109,97,114,107])]) (fun V u hu=>lz V u _ hu) (fun w' hh=>kM kv rfl w') ?_)
 refine TA.on (fun _ hh=>hh.sub (kp1 kp0)) ?_
 refine TA.tp 2 (.bool false) rfl (fun _ hh=>hh.sub (kp1 kp0)) ?_
 refine TA.d ?_
 refine T.jy false (by kernel_rfl) (by kernel_rfl) (fun h=>Bool.noConfusion h) (fun _=>?_)
 refine T.gP ?_
 refine T.gQ (T.k2 (vi 1) (vi 1) (T.gN ?_))
 refine T.jF (T.sr (T.k (.bool true) (T.gN ?_)))
 refine T.gR (T.jy true (by kernel_rfl) (by kernel_rfl) (fun _=>?_) (fun h=>Bool.noConfusion h))
 refine T.gP ?_
 refine T.gR (T.ie (T.sr ?_))
 refine T.l (.pointer (some ((iE (iP A (l.length + 3) l.length 6)).add ((1:Int).toNat * 6)))) (fun w' hh=>ib (e:=28) (s:=6) (n:=3) (c:=3) (iv:=(1:Int)) (k:=.i64) rfl rfl rfl (by kernel_rfl) (by kernel_rfl) (by decide) (by decide) ((hs w' (hh.sub (dr1 kpr))).tail3.some_ (k:=1) rfl (by decide))) ?_
 refine T.l (.agg #[vi 0,vi 0,vi 0,vi 77,vi 0,.string (ByteArray.mk #[109,97,114,107])]) (fun w' hh=>j8 (cs:=[vi 0,vi 0,vi 0,vi 77,vi 0,.string (ByteArray.mk #[109,97,114,107])]) rfl rfl (by kernel_rfl) (by kernel_rfl) (fun j u hj=>ia.wcellF (E:=eElem) (hs w' (hh.sub (dr1 kpr))).tail3 (k:=1) (x:=kv) rfl j (fun _ _ _ h=>h) hj)) ?_
 refine T.gO (W1.np 28 [vi 0,vi 0,vi 0,vi 0,vi 0,.string (ByteArray.mk #[])] (fun b1=>?_))
 refine T.gO (W1.st 0 [vi 0,vi 0,vi 0,vi 77,vi 0,.string (ByteArray.mk #[109,97,114,107])] (box b1 28 [vi 0,vi 0,vi 0,vi 77,vi 0,.string (ByteArray.mk #[109,97,114,107])]::box b0 28 [vi 0,vi 0,vi 0,vi 77,vi 0,.string (ByteArray.mk #[109,97,114,107])]::H) [vi 0,vi 0,vi 0,vi 77,vi 0,.string (ByteArray.mk #[109,97,114,107])] (T.gN ?_))
 refine T.gR (T.jD [box b1 28 [vi 0,vi 0,vi 0,vi 77,vi 0,.string (ByteArray.mk #[109,97,114,107])]] (by kernel_rfl) ?_)
 refine TA.tk 0 (.agg #[vi 0,vi 0,vi 0,vi 77,vi 0,.string (ByteArray.mk #[109,97,114,107])]) rfl (fun _ hh=>hh.sub (kp1 kp0)) (ldN 0) ?_
 refine TA.j 1 rfl (W1.cs (vAg eElem) kv 20 #[] (.agg #[vi 0,vi 0,vi 0,vi 77,vi 0,.string (ByteArray.mk #[109,97,114,107])]) (fun V u hu=>lz V u _ hu) (fun w' hh=>kM kv rfl w') ?_)
 refine TA.on (fun _ hh=>hh.sub (kp1 kp0)) ?_
 refine TA.tp 2 (.bool false) rfl (fun _ hh=>hh.sub (kp1 kp0)) ?_
 refine TA.d ?_
 refine T.jy false (by kernel_rfl) (by kernel_rfl) (fun h=>Bool.noConfusion h) (fun _=>?_)
 refine T.gP ?_
 refine T.gQ (T.k2 (vi 2) (vi 2) (T.gN ?_))
 refine T.jF (T.sr (T.k (.bool true) (T.gN ?_)))
 refine T.gR (T.jy true (by kernel_rfl) (by kernel_rfl) (fun _=>?_) (fun h=>Bool.noConfusion h))
 refine T.gP ?_
 refine T.gR (T.ie (T.sr ?_))
 refine T.l (.pointer (some ((iE (iP A (l.length + 3) l.length 6)).add ((2:Int).toNat * 6)))) (fun w' hh=>ib (e:=28) (s:=6) (n:=3) (c:=3) (iv:=(2:Int)) (k:=.i64) rfl rfl rfl (by kernel_rfl) (by kernel_rfl) (by decide) (by decide) ((hs w' (hh.sub (dr2 kpr))).tail3.some_ (k:=2) rfl (by decide))) ?_
 refine T.l (.agg #[vi 0,vi 0,vi 0,vi 77,vi 0,.string (ByteArray.mk #[109,97,114,107])]) (fun w' hh=>j8 (cs:=[vi 0,vi 0,vi 0,vi 77,vi 0,.string (ByteArray.mk #[109,97,114,107])]) rfl rfl (by kernel_rfl) (by kernel_rfl) (fun j u hj=>ia.wcellF (E:=eElem) (hs w' (hh.sub (dr2 kpr))).tail3 (k:=2) (x:=kv) rfl j (fun _ _ _ h=>h) hj)) ?_
 refine T.gO (W1.np 28 [vi 0,vi 0,vi 0,vi 0,vi 0,.string (ByteArray.mk #[])] (fun b2=>?_))
 refine T.gO (W1.st 0 [vi 0,vi 0,vi 0,vi 77,vi 0,.string (ByteArray.mk #[109,97,114,107])] (box b2 28 [vi 0,vi 0,vi 0,vi 77,vi 0,.string (ByteArray.mk #[109,97,114,107])]::box b1 28 [vi 0,vi 0,vi 0,vi 77,vi 0,.string (ByteArray.mk #[109,97,114,107])]::box b0 28 [vi 0,vi 0,vi 0,vi 77,vi 0,.string (ByteArray.mk #[109,97,114,107])]::H) [vi 0,vi 0,vi 0,vi 77,vi 0,.string (ByteArray.mk #[109,97,114,107])] (T.gN ?_))
 refine T.gR (T.jD [box b2 28 [vi 0,vi 0,vi 0,vi 77,vi 0,.string (ByteArray.mk #[109,97,114,107])]] (by kernel_rfl) ?_)
 refine TA.tk 0 (.agg #[vi 0,vi 0,vi 0,vi 77,vi 0,.string (ByteArray.mk #[109,97,114,107])]) rfl (fun _ hh=>hh.sub (kp1 kp0)) (ldN 0) ?_
 refine TA.j 1 rfl (W1.cs (vAg eElem) kv 20 #[] (.agg #[vi 0,vi 0,vi 0,vi 77,vi 0,.string (ByteArray.mk #[109,97,114,107])]) (fun V u hu=>lz V u _ hu) (fun w' hh=>kM kv rfl w') ?_)
 refine TA.on (fun _ hh=>hh.sub (kp1 kp0)) ?_
 refine TA.tp 2 (.bool false) rfl (fun _ hh=>hh.sub (kp1 kp0)) ?_
 refine TA.d ?_
 refine T.jy false (by kernel_rfl) (by kernel_rfl) (fun h=>Bool.noConfusion h) (fun _=>?_)
 refine T.gP ?_
 refine T.gQ (T.k2 (vi 3) (vi 3) (T.gN ?_))
 refine T.jF (T.sr (T.k (.bool false) (T.gN ?_)))
 refine T.gR (T.jy false (by kernel_rfl) (by kernel_rfl) (fun h=>Bool.noConfusion h) (fun _=>?_))
 refine T.iI ?_
 refine T.sr (T.k (.bool true) (T.gN ?_))
 refine T.ik rfl ?_
 exact T.iq rfl (rT rfl) fun w' hh=>⟨_,rfl,rfl,hh.sub (dr3 kpr)⟩
theorem nA {w:World} {V:View} {H:List HObj} {w1:World} (hh:Hp w V H w1) : Calls Tryz.prog 44 #[.int .i64 99] w1 (fun e w2=>∃ v,e = .returned v∧v = .bool false∧Hp w V H w2):=by
 refine T.iM (l:=[.int .i64 99]) Tryz.func44 rfl rfl rfl ?_ hh
 clear hh
 refine T.sr (T.k (.bool false) (T.gN ?_))
 refine T.sr (T.k3 (.int .i64 99) (.bool false) (.bool false) (T.gN ?_))
 refine T.ik rfl ?_
 exact T.iq rfl (rT rfl) fun w' hh=>⟨_,rfl,rfl,hh⟩
theorem rI {w:World} {V:View} {H:List HObj} {w1:World} {A:Option Addr} {c:Nat} (hs : ∀ w',Hp w V H w'→ia (vw w') hO A c [99,99,99]) (hh:Hp w V H w1) :
 Calls Tryz.prog 67 #[.slice A 3 c,.func (.func 44) #[] #[]] w1 (fun e w2=>∃ v,e = .returned v∧v = .int .i64 (-1)∧Hp w V H w2):=by
 refine T.iM (l:=[.slice A 3 c,.func (.func 44) #[] #[]]) Tryz.func67 rfl rfl rfl ?_ hh
 clear hh
 refine T.sr (T.k (vi 0) (T.gN ?_))
 refine T.gR (T.sr (T.k3 (.slice A 3 c) (vi 3) (vi 0) (T.gN ?_)))
 refine T.ie (T.lQ 4 ?_)
 refine T.jF (T.sr (T.k (.bool true) (T.gN ?_)))
 refine T.gR (T.jy true (by kernel_rfl) (by kernel_rfl) (fun _=>?_) (fun h=>Bool.noConfusion h))
 refine T.gP ?_
 refine T.gR (T.ie (T.sr (T.k2 (vi 0) (vi 0) (T.gN ?_))))
 refine T.sr (T.k3 (.func (.func 44) #[] #[]) (.slice A 3 c) (vi 0) ?_)
 refine T.l (.pointer (some ((iE A).add ((0:Int).toNat * 1)))) (fun w' hh=>ib (e:=3) (s:=1) (n:=3) (c:=c) (iv:=(0:Int)) (k:=.i64) rfl rfl rfl (by kernel_rfl) (by kernel_rfl) (by decide) (by decide) ((hs w' hh).some_ (k:=0) rfl (by decide))) ?_
 refine T.l (.int .i64 99) (fun w' hh=>iC rfl rfl (by kernel_rfl) (ia.wcellF0 (E:=hO) (f:=fun x=>[.int .i64 x]) (hs w' hh) (k:=0) (x:=99) rfl (fun _ _ _ h=>h) rfl)) ?_
 refine T.gO (W1.jJ 44 [.int .i64 99] (fun v w'=>v = .bool false∧Hp w V H w') (by kernel_rfl) (fun _=>by kernel_rfl) (fun w' hh=>nA hh) ?_)
 rintro v w' ⟨rfl,hh⟩
 refine⟨V,H,hh,?_⟩
 clear hh
 refine T.gN ?_
 refine T.jy false (by kernel_rfl) (by kernel_rfl) (fun h=>Bool.noConfusion h) (fun _=>?_)
 refine T.gP ?_
 refine T.gQ (T.k2 (vi 1) (vi 1) (T.gN ?_))
 refine T.jF (T.sr (T.k (.bool true) (T.gN ?_)))
 refine T.gR (T.jy true (by kernel_rfl) (by kernel_rfl) (fun _=>?_) (fun h=>Bool.noConfusion h))
 refine T.gP ?_
 refine T.gR (T.ie (T.sr (T.k2 (vi 1) (vi 1) (T.gN ?_))))
 refine T.sr (T.k3 (.func (.func 44) #[] #[]) (.slice A 3 c) (vi 1) ?_)
 refine T.l (.pointer (some ((iE A).add ((1:Int).toNat * 1)))) (fun w' hh=>ib (e:=3) (s:=1) (n:=3) (c:=c) (iv:=(1:Int)) (k:=.i64) rfl rfl rfl (by kernel_rfl) (by kernel_rfl) (by decide) (by decide) ((hs w' hh).some_ (k:=1) rfl (by decide))) ?_
 refine T.l (.int .i64 99) (fun w' hh=>iC rfl rfl (by kernel_rfl) (ia.wcellF0 (E:=hO) (f:=fun x=>[.int .i64 x]) (hs w' hh) (k:=1) (x:=99) rfl (fun _ _ _ h=>h) rfl)) ?_
 refine T.gO (W1.jJ 44 [.int .i64 99] (fun v w'=>v = .bool false∧Hp w V H w') (by kernel_rfl) (fun _=>by kernel_rfl) (fun w' hh=>nA hh) ?_)
 rintro v w' ⟨rfl,hh⟩
 refine⟨V,H,hh,?_⟩
 clear hh
 refine T.gN ?_
 refine T.jy false (by kernel_rfl) (by kernel_rfl) (fun h=>Bool.noConfusion h) (fun _=>?_)
 refine T.gP ?_
 refine T.gQ (T.k2 (vi 2) (vi 2) (T.gN ?_))
 refine T.jF (T.sr (T.k (.bool true) (T.gN ?_)))
 refine T.gR (T.jy true (by kernel_rfl) (by kernel_rfl) (fun _=>?_) (fun h=>Bool.noConfusion h))
 refine T.gP ?_
 refine T.gR (T.ie (T.sr (T.k2 (vi 2) (vi 2) (T.gN ?_))))
 refine T.sr (T.k3 (.func (.func 44) #[] #[]) (.slice A 3 c) (vi 2) ?_)
 refine T.l (.pointer (some ((iE A).add ((2:Int).toNat * 1)))) (fun w' hh=>ib (e:=3) (s:=1) (n:=3) (c:=c) (iv:=(2:Int)) (k:=.i64) rfl rfl rfl (by kernel_rfl) (by kernel_rfl) (by decide) (by decide) ((hs w' hh).some_ (k:=2) rfl (by decide))) ?_
 refine T.l (.int .i64 99) (fun w' hh=>iC rfl rfl (by kernel_rfl) (ia.wcellF0 (E:=hO) (f:=fun x=>[.int .i64 x]) (hs w' hh) (k:=2) (x:=99) rfl (fun _ _ _ h=>h) rfl)) ?_
 refine T.gO (W1.jJ 44 [.int .i64 99] (fun v w'=>v = .bool false∧Hp w V H w') (by kernel_rfl) (fun _=>by kernel_rfl) (fun w' hh=>nA hh) ?_)
 rintro v w' ⟨rfl,hh⟩
 refine⟨V,H,hh,?_⟩
 clear hh
 refine T.gN ?_
 refine T.jy false (by kernel_rfl) (by kernel_rfl) (fun h=>Bool.noConfusion h) (fun _=>?_)
 refine T.gP ?_
 refine T.gQ (T.k2 (vi 3) (vi 3) (T.gN ?_))
 refine T.jF (T.sr (T.k (.bool false) (T.gN ?_)))
 refine T.gR (T.jy false (by kernel_rfl) (by kernel_rfl) (fun h=>Bool.noConfusion h) (fun _=>?_))
 refine T.iI ?_
 refine T.sr (T.k (vi (-1)) (T.gN ?_))
 refine T.ik rfl ?_
 exact T.iq rfl (rT rfl) fun w' hh=>⟨_,rfl,rfl,hh⟩
theorem qe {w:World} {V:View} {H:List HObj} {w1:World} {A:Option Addr} {c:Nat} (hs : ∀ w',Hp w V H w'→ia (vw w') hO A c [99,99,99]) (hh:Hp w V H w1) :
 Calls Tryz.prog 43 #[.slice A 3 c,.func (.func 44) #[] #[]] w1 (fun e w2=>∃ v,e = .returned v∧v = .bool false∧Hp w V H w2):=by
 refine T.iM (l:=[.slice A 3 c,.func (.func 44) #[] #[]]) Tryz.func43 rfl rfl rfl ?_ hh
 clear hh
 refine T.sr (T.k (.bool false) (T.gN ?_))
 refine T.sr (T.k2 (.slice A 3 c) (.func (.func 44) #[] #[]) ?_)
 refine T.gO (W1.jJ 67 [.slice A 3 c,.func (.func 44) #[] #[]] (fun v w'=>v = .int .i64 (-1)∧Hp w V H w') (by kernel_rfl) (fun _=>by kernel_rfl) (fun w' hh=>rI hs hh) ?_)
 rintro v w' ⟨rfl,hh⟩
 refine⟨V,H,hh,?_⟩
 clear hh
 refine T.k2 (.bool false) (.bool false) (T.gN ?_)
 refine T.ik rfl ?_
 exact T.iq rfl (rT rfl) fun w' hh=>⟨_,rfl,rfl,hh⟩
theorem nv {w:World} {V:View} {H:List HObj} {w1:World} (hh:Hp w V H w1) : Calls Tryz.prog 45 #[.int .i64 98] w1 (fun e w2=>∃ v,e = .returned v∧v = .bool false∧Hp w V H w2):=by
 refine T.iM (l:=[.int .i64 98]) Tryz.func45 rfl rfl rfl ?_ hh
 clear hh
 refine T.sr (T.k (.bool false) (T.gN ?_))
 refine T.sr (T.k3 (.int .i64 98) (.bool false) (.bool false) (T.gN ?_))
 refine T.ik rfl ?_
 exact T.iq rfl (rT rfl) fun w' hh=>⟨_,rfl,rfl,hh⟩
theorem rH {w:World} {V:View} {H:List HObj} {w1:World} {A:Option Addr} {c:Nat} (hs : ∀ w',Hp w V H w'→ia (vw w') hO A c [98,98,98]) (hh:Hp w V H w1) :
 Calls Tryz.prog 67 #[.slice A 3 c,.func (.func 45) #[] #[]] w1 (fun e w2=>∃ v,e = .returned v∧v = .int .i64 (-1)∧Hp w V H w2):=by
 refine T.iM (l:=[.slice A 3 c,.func (.func 45) #[] #[]]) Tryz.func67 rfl rfl rfl ?_ hh
 clear hh
 refine T.sr (T.k (vi 0) (T.gN ?_))
 refine T.gR (T.sr (T.k3 (.slice A 3 c) (vi 3) (vi 0) (T.gN ?_)))
 refine T.ie (T.lQ 4 ?_)
 refine T.jF (T.sr (T.k (.bool true) (T.gN ?_)))
 refine T.gR (T.jy true (by kernel_rfl) (by kernel_rfl) (fun _=>?_) (fun h=>Bool.noConfusion h))
 refine T.gP ?_
 refine T.gR (T.ie (T.sr (T.k2 (vi 0) (vi 0) (T.gN ?_))))
 refine T.sr (T.k3 (.func (.func 45) #[] #[]) (.slice A 3 c) (vi 0) ?_)
 refine T.l (.pointer (some ((iE A).add ((0:Int).toNat * 1)))) (fun w' hh=>ib (e:=3) (s:=1) (n:=3) (c:=c) (iv:=(0:Int)) (k:=.i64) rfl rfl rfl (by kernel_rfl) (by kernel_rfl) (by decide) (by decide) ((hs w' hh).some_ (k:=0) rfl (by decide))) ?_
 refine T.l (.int .i64 98) (fun w' hh=>iC rfl rfl (by kernel_rfl) (ia.wcellF0 (E:=hO) (f:=fun x=>[.int .i64 x]) (hs w' hh) (k:=0) (x:=98) rfl (fun _ _ _ h=>h) rfl)) ?_
 refine T.gO (W1.jJ 45 [.int .i64 98] (fun v w'=>v = .bool false∧Hp w V H w') (by kernel_rfl) (fun _=>by kernel_rfl) (fun w' hh=>nv hh) ?_)
 rintro v w' ⟨rfl,hh⟩
 refine⟨V,H,hh,?_⟩
 clear hh
 refine T.gN ?_
 refine T.jy false (by kernel_rfl) (by kernel_rfl) (fun h=>Bool.noConfusion h) (fun _=>?_)
 refine T.gP ?_
 refine T.gQ (T.k2 (vi 1) (vi 1) (T.gN ?_))
 refine T.jF (T.sr (T.k (.bool true) (T.gN ?_)))
 refine T.gR (T.jy true (by kernel_rfl) (by kernel_rfl) (fun _=>?_) (fun h=>Bool.noConfusion h))
 refine T.gP ?_
 refine T.gR (T.ie (T.sr (T.k2 (vi 1) (vi 1) (T.gN ?_))))
 refine T.sr (T.k3 (.func (.func 45) #[] #[]) (.slice A 3 c) (vi 1) ?_)
 refine T.l (.pointer (some ((iE A).add ((1:Int).toNat * 1)))) (fun w' hh=>ib (e:=3) (s:=1) (n:=3) (c:=c) (iv:=(1:Int)) (k:=.i64) rfl rfl rfl (by kernel_rfl) (by kernel_rfl) (by decide) (by decide) ((hs w' hh).some_ (k:=1) rfl (by decide))) ?_
 refine T.l (.int .i64 98) (fun w' hh=>iC rfl rfl (by kernel_rfl) (ia.wcellF0 (E:=hO) (f:=fun x=>[.int .i64 x]) (hs w' hh) (k:=1) (x:=98) rfl (fun _ _ _ h=>h) rfl)) ?_
 refine T.gO (W1.jJ 45 [.int .i64 98] (fun v w'=>v = .bool false∧Hp w V H w') (by kernel_rfl) (fun _=>by kernel_rfl) (fun w' hh=>nv hh) ?_)
 rintro v w' ⟨rfl,hh⟩
 refine⟨V,H,hh,?_⟩
 clear hh
 refine T.gN ?_
 refine T.jy false (by kernel_rfl) (by kernel_rfl) (fun h=>Bool.noConfusion h) (fun _=>?_)
 refine T.gP ?_
 refine T.gQ (T.k2 (vi 2) (vi 2) (T.gN ?_))
 refine T.jF (T.sr (T.k (.bool true) (T.gN ?_)))
 refine T.gR (T.jy true (by kernel_rfl) (by kernel_rfl) (fun _=>?_) (fun h=>Bool.noConfusion h))
 refine T.gP ?_
 refine T.gR (T.ie (T.sr (T.k2 (vi 2) (vi 2) (T.gN ?_))))
 refine T.sr (T.k3 (.func (.func 45) #[] #[]) (.slice A 3 c) (vi 2) ?_)
 refine T.l (.pointer (some ((iE A).add ((2:Int).toNat * 1)))) (fun w' hh=>ib (e:=3) (s:=1) (n:=3) (c:=c) (iv:=(2:Int)) (k:=.i64) rfl rfl rfl (by kernel_rfl) (by kernel_rfl) (by decide) (by decide) ((hs w' hh).some_ (k:=2) rfl (by decide))) ?_
 refine T.l (.int .i64 98) (fun w' hh=>iC rfl rfl (by kernel_rfl) (ia.wcellF0 (E:=hO) (f:=fun x=>[.int .i64 x]) (hs w' hh) (k:=2) (x:=98) rfl (fun _ _ _ h=>h) rfl)) ?_
 refine T.gO (W1.jJ 45 [.int .i64 98] (fun v w'=>v = .bool false∧Hp w V H w') (by kernel_rfl) (fun _=>by kernel_rfl) (fun w' hh=>nv hh) ?_)
 rintro v w' ⟨rfl,hh⟩
 refine⟨V,H,hh,?_⟩
 clear hh
 refine T.gN ?_
 refine T.jy false (by kernel_rfl) (by kernel_rfl) (fun h=>Bool.noConfusion h) (fun _=>?_)
 refine T.gP ?_
 refine T.gQ (T.k2 (vi 3) (vi 3) (T.gN ?_))
 refine T.jF (T.sr (T.k (.bool false) (T.gN ?_)))
 refine T.gR (T.jy false (by kernel_rfl) (by kernel_rfl) (fun h=>Bool.noConfusion h) (fun _=>?_))
 refine T.iI ?_
 refine T.sr (T.k (vi (-1)) (T.gN ?_))
 refine T.ik rfl ?_
 exact T.iq rfl (rT rfl) fun w' hh=>⟨_,rfl,rfl,hh⟩
theorem qd {w:World} {V:View} {H:List HObj} {w1:World} {A:Option Addr} {c:Nat} (hs : ∀ w',Hp w V H w'→ia (vw w') hO A c [98,98,98]) (hh:Hp w V H w1) :
 Calls Tryz.prog 43 #[.slice A 3 c,.func (.func 45) #[] #[]] w1 (fun e w2=>∃ v,e = .returned v∧v = .bool false∧Hp w V H w2):=by
 refine T.iM (l:=[.slice A 3 c,.func (.func 45) #[] #[]]) Tryz.func43 rfl rfl rfl ?_ hh
 clear hh
 refine T.sr (T.k (.bool false) (T.gN ?_))
 refine T.sr (T.k2 (.slice A 3 c) (.func (.func 45) #[] #[]) ?_)
 refine T.gO (W1.jJ 67 [.slice A 3 c,.func (.func 45) #[] #[]] (fun v w'=>v = .int .i64 (-1)∧Hp w V H w') (by kernel_rfl) (fun _=>by kernel_rfl) (fun w' hh=>rH hs hh) ?_)
 rintro v w' ⟨rfl,hh⟩
 refine⟨V,H,hh,?_⟩
 clear hh
 refine T.k2 (.bool false) (.bool false) (T.gN ?_)
 refine T.ik rfl ?_
 exact T.iq rfl (rT rfl) fun w' hh=>⟨_,rfl,rfl,hh⟩
end Go.Proofs.YtfbpiogbhkgieaaGreat
