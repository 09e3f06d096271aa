/- What the functions roomy, spoil, marked and ContainsFunc do to lists of trees. Its conditions: as each states. -/
import Derived.Test.YtfbpiogbhkgieaaGreatShAL
import Derived.Test.YtfbpiogbhkgieaaGreatTrOL
import Derived.Test.YtfbpiogbhkgieaaGreatKeyLL
namespace Go.Proofs.YtfbpiogbhkgieaaGreat
open Go.RowKit
set_option linter.unusedVariables false
set_option linter.unusedSimpArgs false
set_option maxRecDepth 100000
set_option maxHeartbeats 4000000
theorem qk (x:DElem) : ∀ u∈x.cells,u.oneCell' = true:=fun u hu=>eElem.one (V:=fun _=>none) (x:=x) rfl u hu
theorem ql (x:DSpot) : ∀ u∈x.cells,u.oneCell' = true:=fun u hu=>eSpot.one (V:=fun _=>none) (x:=x) rfl u hu
theorem sE (x:DHdr) : ∀ u∈x.cells,u.oneCell' = true:=fun u hu=>eHdr.one (V:=fun _=>none) (x:=x) rfl u hu
theorem rd (x:Int) : ∀ u∈[Value.int .i64 x],u.oneCell' = true:=fun u hu=>hO.one (V:=fun _=>none) (x:=x) rfl u hu
theorem ia.tail3 {α:Type} {V:View} {E:Enc α} {A:Option Addr} {l:List α} {x y z:α} (h:ia V E A (l.length + 3) (l ++ [x,y,z])) : ia V E (iM A (l.length + 3) l.length E.size) 3 [x,y,z]:=by
 have hcut:i9 (l ++ [x,y,z]) (l.length:Int) ((l.length + 3:Nat) : Int)=some [x,y,z]:=by
  unfold i9
  rw [if_pos ⟨by omega,by omega,by rw [List.length_append];show ((l.length + 3:Nat) : Int)≤((l.length + 3:Nat) : Int);omega⟩]
  rw [Int.toNat_natCast,Int.toNat_natCast,List.take_of_length_le (by rw [List.length_append];exact Nat.le_refl _),List.drop_left]
 have:=h.cut hcut
 rwa [Int.toNat_natCast,show l.length + 3 - l.length=3 by omega] at this
theorem oX {α:Type} (l:List α) (z:α) : l <+: over (List.replicate (l.length + 3) z) 0 l:=by
 unfold over
 rw [List.take_zero,List.nil_append];exact List.prefix_append _ _
theorem sY {α:Type} (l:List α) (x:α) (k:Nat) : l ++ List.replicate k x ++ [x]=l ++ List.replicate (k + 1) x:=by rw [List.append_assoc,← List.replicate_succ']
theorem ro {α:Type} (l:List α) (x:α) (k:Nat) : (l ++ List.replicate k x).length=l.length + k:=by rw [List.length_append,List.length_replicate]
theorem at3 {α:Type} (x:α) {k:Nat} (hk:k < 3) : [x,x,x][k]? = some x:=by
 rcases k with _ | _ | _ | k <;> first | rfl | omega
theorem wk {n k m:Nat} (h:n + k≤m) (hm:m≤maxLen) : vi (IntKind.i64.wrap ((n:Int) + (k:Int)))=vi ((n + k:Nat) : Int):=by
 unfold maxLen at hm
 show Value.int .i64 _=Value.int .i64 _;congr 1;rw [IntKind.wrap_i64];omega
section
variable {rl:Option Nat} {P:Program} {N:Sz} {w0:World} {V:View} {H:List HObj} {M:List (Nat × Value)} {ops:Array Oper} {Q:Exit→Act→World→Prop} {o:Oper} {K:Act→World→Prop}
theorem W1.cs {ρ:Type} (E:VEnc ρ) (r:ρ) (f:FuncId) (vs:Array Value) (v:Value) (hval : ∀ V u,E.rep V u r→u=v) (hf : ∀ w,Hp w0 V H w→Calls P f vs w (ko E r w)) (h:T N w0 V H (io o.dst v M) K)
 (hc:okO N ops M o=true:=by kernel_rfl) (hv : ∀ w,(execOp (evM M) o).run P w = .ok (.enter f vs) w:=by intro _;kernel_rfl) : W1 P Q ops o N w0 V H M K:=fun a w hfr hh=>by
 obtain⟨h1,_,_,h4⟩:=i8 hc
 refine⟨iW hfr h1,?_⟩
 unfold Oper.wp
 rw [jk hc hfr,hv w,Oper.upon_enter]
 refine(hf w hh).mono ?_
 rintro x w' ⟨u,rfl,hb,hr⟩
 rw [hval _ _ hr]
 exact h _ _ (hfr.put h4 v) (hh.called_same hb)
theorem W1.cv (f:FuncId) (l:List Value) (u:Value) (H' : List HObj) (hf : ∀ w,Hp w0 V H w→Calls P f l.toArray w (fun e w'=>∃ v,e = .returned v∧v=u∧Hp w0 V H' w')) (h:T N w0 V H' (io o.dst u M) K)
 (hc:okO N ops M o=true:=by kernel_rfl) (hv : ∀ w,(execOp (evM M) o).run P w = .ok (.enter f l.toArray) w:=by intro _;kernel_rfl) : W1 P Q ops o N w0 V H M K :=
 W1.nA f l (fun v w'=>v=u∧Hp w0 V H' w') hc hv hf (fun v w' ⟨e,hh⟩=>⟨V,H',hh,by rw [e];exact h⟩)
end
theorem pb {w:World} {V:View} {G:List HObj} {w1:World} {A:Option Addr} {c:Nat} {l:List DElem} {n:Nat} (x:DElem) (hn:n≤c) (hh:Hp w V (row 28 eElem A c l::G) w1) :
 Calls Tryz.prog 46 #[.slice A n c,.agg #[.int .i64 x.key.pfs,.int .i64 x.key.obj,.int .i64 x.key.off,.int .i64 x.made,.int .i64 x.gone,.string x.val]] w1 (fun r w2=>∃ v,r = .returned v∧v = .tuple #[]∧Hp w V G w2):=by
 refine T.iF (l:=[.slice A n c,.agg #[vi x.key.pfs,vi x.key.obj,vi x.key.off,vi x.made,vi x.gone,.string x.val]]) Tryz.func46 rfl rfl rfl ?_ hh
 clear hh
 refine T.jY 0 rfl (fun hlc hcm=>?_)
 refine T.jZ (l:=[]) 0 (by rfl) (List.nil_prefix) ?_
 refine T.sr (T.gO (W1.np 28 x.cells (fun b=>T.gN ?_)))
 refine T.sr (T.k3 (.slice A n c) (.slice A n c) (vi (c:Int)) (T.l (.slice (iM A c 0 6) c c) (fun w' hh=>im (e:=28) (s:=6) (lx:=none) (hx:=some _) (lo:=0) (hi:=(c:Int)) (k:=.i64) (k':=.i64) rfl rfl (by kernel_rfl) (by kernel_rfl) rfl rfl (by omega) (by omega) (by omega)) ?_))
 refine T.ie 8 (.slice A c c) rfl (by rw [jF]) (T.k (.slice A c c) (T.gN (T.sr (T.k3 (.slice A c c) (vi (c:Int)) (vi 0) (T.gN (T.ic ?_))))))
 refine T.kh c (fun k a w'=>Fr 19 [(0,.slice A c c),(3,pB b 0),(9,.slice A c c),(10,vi (c:Int)),(11,vi (k:Int))] a∧Hp w V (box b 28 x.cells::row 28 eElem A c (List.replicate k x)::G) w') (fun a w' hf hh=>⟨Fr.s hf,hh⟩) ?_ ?_
 · rintro k hk a w' ⟨hf,hh⟩
   revert hf hh
   refine T.i ?_
   refine T.sr (T.k (.bool (decide ((k:Int) < (c:Int)))) (T.gN (T.gR (T.cb (decide ((k:Int) < (c:Int))) (fun hc=>T.gP (T.gR (T.ic ?_))) (fun hc=>absurd (of_decide_eq_false hc) (by omega))))))
   refine T.sr (T.k2 (vi (k:Int)) (vi (k:Int)) (T.gN (T.gQ (T.k2 (.slice A c c) (vi (k:Int)) ?_))))
   refine T.l (.agg #[vi x.key.pfs,vi x.key.obj,vi x.key.off,vi x.made,vi x.gone,.string x.val]) (ldN 0) ?_
   refine T.l (.pointer (some ((iC A).add (k * 6)))) (fun w' hh=>ib (e:=28) (s:=6) (n:=c) (c:=c) (iv:=(k:Int)) (k:=.i64) rfl rfl rfl (by kernel_rfl) (by kernel_rfl) (by omega) (by omega) (hh.row_some (i:=1) (by rfl) (by omega))) ?_
   refine T.gO (W1.kx (E:=eElem) 1 x _ (vs:=x.cells) (by rfl) (by rw [List.length_replicate];exact hk) (by kernel_rfl) rfl rfl (by rw [List.length_replicate];rfl) rfl rfl (fun _=>by kernel_rfl) (qk x) rfl (fun _=>rfl) ?_)
   refine T.iH (H':=box b 28 x.cells::row 28 eElem A c (List.replicate (k + 1) x)::G) (by rw [List.replicate_succ'];rfl) (T.gN ?_)
   refine T.gQ (T.k (vi (IntKind.i64.wrap ((k:Int) + 1))) (T.ie 18 (vi ((k + 1:Nat) : Int)) rfl (wk (n:=k) (k:=1) (m:=c) hk hcm) (T.k (vi ((k + 1:Nat) : Int)) (T.gN ?_))))
   exact fun a w' hf hh=>⟨Fr.s hf,hh⟩
 · rintro a w' ⟨hf,hh⟩
   revert hf hh
   refine T.i ?_
   refine T.sr (T.k (.bool (decide ((c:Int) < (c:Int)))) (T.gN (T.gR (T.cb (decide ((c:Int) < (c:Int))) (fun hc=>absurd (of_decide_eq_true hc) (by omega)) (fun hc=>T.iE (T.iN (T.iN (T.jT ?_))))))))
   exact T.jD rfl (fun w' hh=>⟨_,rfl,rfl,hh.sub (dr2 kpr)⟩)
theorem pd {w:World} {V:View} {G:List HObj} {w1:World} {A:Option Addr} {c:Nat} {l:List DSpot} {n:Nat} (x:DSpot) (hn:n≤c) (hh:Hp w V (row 36 eSpot A c l::G) w1) :
 Calls Tryz.prog 48 #[.slice A n c,.agg #[.int .i64 x.key.pfs,.int .i64 x.key.obj,.int .i64 x.key.off,.int .i64 x.made]] w1 (fun r w2=>∃ v,r = .returned v∧v = .tuple #[]∧Hp w V G w2):=by
 refine T.iF (l:=[.slice A n c,.agg #[vi x.key.pfs,vi x.key.obj,vi x.key.off,vi x.made]]) Tryz.func48 rfl rfl rfl ?_ hh
 clear hh
 refine T.jY 0 rfl (fun hlc hcm=>?_)
 refine T.jZ (l:=[]) 0 (by rfl) (List.nil_prefix) ?_
 refine T.sr (T.gO (W1.np 36 x.cells (fun b=>T.gN ?_)))
 refine T.sr (T.k3 (.slice A n c) (.slice A n c) (vi (c:Int)) (T.l (.slice (iM A c 0 4) c c) (fun w' hh=>im (e:=36) (s:=4) (lx:=none) (hx:=some _) (lo:=0) (hi:=(c:Int)) (k:=.i64) (k':=.i64) rfl rfl (by kernel_rfl) (by kernel_rfl) rfl rfl (by omega) (by omega) (by omega)) ?_))
 refine T.ie 8 (.slice A c c) rfl (by rw [jF]) (T.k (.slice A c c) (T.gN (T.sr (T.k3 (.slice A c c) (vi (c:Int)) (vi 0) (T.gN (T.ic ?_))))))
 refine T.kh c (fun k a w'=>Fr 19 [(0,.slice A c c),(3,pB b 0),(9,.slice A c c),(10,vi (c:Int)),(11,vi (k:Int))] a∧Hp w V (box b 36 x.cells::row 36 eSpot A c (List.replicate k x)::G) w') (fun a w' hf hh=>⟨Fr.s hf,hh⟩) ?_ ?_
 · rintro k hk a w' ⟨hf,hh⟩
   revert hf hh
   refine T.i ?_
   refine T.sr (T.k (.bool (decide ((k:Int) < (c:Int)))) (T.gN (T.gR (T.cb (decide ((k:Int) < (c:Int))) (fun hc=>T.gP (T.gR (T.ic ?_))) (fun hc=>absurd (of_decide_eq_false hc) (by omega))))))
   refine T.sr (T.k2 (vi (k:Int)) (vi (k:Int)) (T.gN (T.gQ (T.k2 (.slice A c c) (vi (k:Int)) ?_))))
   refine T.l (.agg #[vi x.key.pfs,vi x.key.obj,vi x.key.off,vi x.made]) (ldN 0) ?_
   refine T.l (.pointer (some ((iC A).add (k * 4)))) (fun w' hh=>ib (e:=36) (s:=4) (n:=c) (c:=c) (iv:=(k:Int)) (k:=.i64) rfl rfl rfl (by kernel_rfl) (by kernel_rfl) (by omega) (by omega) (hh.row_some (i:=1) (by rfl) (by omega))) ?_
   refine T.gO (W1.kx (E:=eSpot) 1 x _ (vs:=x.cells) (by rfl) (by rw [List.length_replicate];exact hk) (by kernel_rfl) rfl rfl (by rw [List.length_replicate];rfl) rfl rfl (fun _=>by kernel_rfl) (ql x) rfl (fun _=>rfl) ?_)
   refine T.iH (H':=box b 36 x.cells::row 36 eSpot A c (List.replicate (k + 1) x)::G) (by rw [List.replicate_succ'];rfl) (T.gN ?_)
   refine T.gQ (T.k (vi (IntKind.i64.wrap ((k:Int) + 1))) (T.ie 18 (vi ((k + 1:Nat) : Int)) rfl (wk (n:=k) (k:=1) (m:=c) hk hcm) (T.k (vi ((k + 1:Nat) : Int)) (T.gN ?_))))
   exact fun a w' hf hh=>⟨Fr.s hf,hh⟩
 · rintro a w' ⟨hf,hh⟩
   revert hf hh
   refine T.i ?_
   refine T.sr (T.k (.bool (decide ((c:Int) < (c:Int)))) (T.gN (T.gR (T.cb (decide ((c:Int) < (c:Int))) (fun hc=>absurd (of_decide_eq_true hc) (by omega)) (fun hc=>T.iE (T.iN (T.iN (T.jT ?_))))))))
   exact T.jD rfl (fun w' hh=>⟨_,rfl,rfl,hh.sub (dr2 kpr)⟩)
theorem nc {w:World} {V:View} {G:List HObj} {w1:World} {A:Option Addr} {c:Nat} {l:List Int} {n:Nat} (x:Int) (hn:n≤c) (hh:Hp w V (row 3 hO A c l::G) w1) :
 Calls Tryz.prog 47 #[.slice A n c,.int .i64 x] w1 (fun r w2=>∃ v,r = .returned v∧v = .tuple #[]∧Hp w V G w2):=by
 refine T.iF (l:=[.slice A n c,vi x]) Tryz.func47 rfl rfl rfl ?_ hh
 clear hh
 refine T.jY 0 rfl (fun hlc hcm=>?_)
 refine T.jZ (l:=[]) 0 (by rfl) (List.nil_prefix) ?_
 refine T.sr (T.k3 (.slice A n c) (.slice A n c) (vi (c:Int)) (T.l (.slice (iM A c 0 1) c c) (fun w' hh=>im (e:=3) (s:=1) (lx:=none) (hx:=some _) (lo:=0) (hi:=(c:Int)) (k:=.i64) (k':=.i64) rfl rfl (by kernel_rfl) (by kernel_rfl) rfl rfl (by omega) (by omega) (by omega)) ?_))
 refine T.ie 8 (.slice A c c) rfl (by rw [jF]) (T.k (.slice A c c) (T.gN (T.sr (T.k3 (.slice A c c) (vi (c:Int)) (vi 0) (T.gN (T.ic ?_))))))
 refine T.kh c (fun k a w'=>Fr 19 [(0,.slice A c c),(1,vi x),(9,.slice A c c),(10,vi (c:Int)),(11,vi (k:Int))] a∧Hp w V (row 3 hO A c (List.replicate k x)::G) w') (fun a w' hf hh=>⟨Fr.s hf,hh⟩) ?_ ?_
 · rintro k hk a w' ⟨hf,hh⟩
   revert hf hh
   refine T.i ?_
   refine T.sr (T.k (.bool (decide ((k:Int) < (c:Int)))) (T.gN (T.gR (T.cb (decide ((k:Int) < (c:Int))) (fun hc=>T.gP (T.gR (T.ic ?_))) (fun hc=>absurd (of_decide_eq_false hc) (by omega))))))
   refine T.sr (T.k2 (vi (k:Int)) (vi (k:Int)) (T.gN (T.gQ (T.k2 (.slice A c c) (vi (k:Int)) ?_))))
   refine T.k (vi x) ?_
   refine T.l (.pointer (some ((iC A).add (k * 1)))) (fun w' hh=>ib (e:=3) (s:=1) (n:=c) (c:=c) (iv:=(k:Int)) (k:=.i64) rfl rfl rfl (by kernel_rfl) (by kernel_rfl) (by omega) (by omega) (hh.row_some (i:=0) (by rfl) (by omega))) ?_
   refine T.gO (W1.kx (E:=hO) 0 x _ (vs:=[vi x]) (by rfl) (by rw [List.length_replicate];exact hk) (by kernel_rfl) rfl rfl (by rw [List.length_replicate];rfl) rfl rfl (fun _=>by kernel_rfl) (rd x) rfl (fun _=>rfl) ?_)
   refine T.iH (H':=row 3 hO A c (List.replicate (k + 1) x)::G) (by rw [List.replicate_succ'];rfl) (T.gN ?_)
   refine T.gQ (T.k (vi (IntKind.i64.wrap ((k:Int) + 1))) (T.ie 18 (vi ((k + 1:Nat) : Int)) rfl (wk (n:=k) (k:=1) (m:=c) hk hcm) (T.k (vi ((k + 1:Nat) : Int)) (T.gN ?_))))
   exact fun a w' hf hh=>⟨Fr.s hf,hh⟩
 · rintro a w' ⟨hf,hh⟩
   revert hf hh
   refine T.i ?_
   refine T.sr (T.k (.bool (decide ((c:Int) < (c:Int)))) (T.gN (T.gR (T.cb (decide ((c:Int) < (c:Int))) (fun hc=>absurd (of_decide_eq_true hc) (by omega)) (fun hc=>T.iE (T.iN (T.iN (T.jT ?_))))))))
   exact T.jD rfl (fun w' hh=>⟨_,rfl,rfl,hh.sub (dr1 kpr)⟩)
theorem pc {w:World} {V:View} {G:List HObj} {w1:World} {A:Option Addr} {c:Nat} {l:List DHdr} {n:Nat} (x:DHdr) (hn:n≤c) (hh:Hp w V (row 55 eHdr A c l::G) w1) :
 Calls Tryz.prog 49 #[.slice A n c,.agg #[.int .i64 x.kind,.slice x.a1 x.n1 x.c1,.slice x.a2 x.n2 x.c2,.slice x.a3 x.n3 x.c3,.slice x.a4 x.n4 x.c4]] w1 (fun r w2=>∃ v,r = .returned v∧v = .tuple #[]∧Hp w V G w2):=by
 refine T.iF (l:=[.slice A n c,.agg #[vi x.kind,.slice x.a1 x.n1 x.c1,.slice x.a2 x.n2 x.c2,.slice x.a3 x.n3 x.c3,.slice x.a4 x.n4 x.c4]]) Tryz.func49 rfl rfl rfl ?_ hh
 clear hh
 refine T.jY 0 rfl (fun hlc hcm=>?_)
 refine T.jZ (l:=[]) 0 (by rfl) (List.nil_prefix) ?_
 refine T.sr (T.gO (W1.np 55 x.cells (fun b=>T.gN ?_)))
 refine T.sr (T.k3 (.slice A n c) (.slice A n c) (vi (c:Int)) (T.l (.slice (iM A c 0 5) c c) (fun w' hh=>im (e:=55) (s:=5) (lx:=none) (hx:=some _) (lo:=0) (hi:=(c:Int)) (k:=.i64) (k':=.i64) rfl rfl (by kernel_rfl) (by kernel_rfl) rfl rfl (by omega) (by omega) (by omega)) ?_))
 refine T.ie 8 (.slice A c c) rfl (by rw [jF]) (T.k (.slice A c c) (T.gN (T.sr (T.k3 (.slice A c c) (vi (c:Int)) (vi 0) (T.gN (T.ic ?_))))))
 refine T.kh c (fun k a w'=>Fr 19 [(0,.slice A c c),(3,pB b 0),(9,.slice A c c),(10,vi (c:Int)),(11,vi (k:Int))] a∧Hp w V (box b 55 x.cells::row 55 eHdr A c (List.replicate k x)::G) w') (fun a w' hf hh=>⟨Fr.s hf,hh⟩) ?_ ?_
 · rintro k hk a w' ⟨hf,hh⟩
   revert hf hh
   refine T.i ?_
   refine T.sr (T.k (.bool (decide ((k:Int) < (c:Int)))) (T.gN (T.gR (T.cb (decide ((k:Int) < (c:Int))) (fun hc=>T.gP (T.gR (T.ic ?_))) (fun hc=>absurd (of_decide_eq_false hc) (by omega))))))
   refine T.sr (T.k2 (vi (k:Int)) (vi (k:Int)) (T.gN (T.gQ (T.k2 (.slice A c c) (vi (k:Int)) ?_))))
   refine T.l (.agg #[vi x.kind,.slice x.a1 x.n1 x.c1,.slice x.a2 x.n2 x.c2,.slice x.a3 x.n3 x.c3,.slice x.a4 x.n4 x.c4]) (ldN 0) ?_
   refine T.l (.pointer (some ((iC A).add (k * 5)))) (fun w' hh=>ib (e:=55) (s:=5) (n:=c) (c:=c) (iv:=(k:Int)) (k:=.i64) rfl rfl rfl (by kernel_rfl) (by kernel_rfl) (by omega) (by omega) (hh.row_some (i:=1) (by rfl) (by omega))) ?_
   refine T.gO (W1.kx (E:=eHdr) 1 x _ (vs:=x.cells) (by rfl) (by rw [List.length_replicate];exact hk) (by kernel_rfl) rfl rfl (by rw [List.length_replicate];rfl) rfl rfl (fun _=>by kernel_rfl) (sE x) rfl (fun _=>rfl) ?_)
   refine T.iH (H':=box b 55 x.cells::row 55 eHdr A c (List.replicate (k + 1) x)::G) (by rw [List.replicate_succ'];rfl) (T.gN ?_)
   refine T.gQ (T.k (vi (IntKind.i64.wrap ((k:Int) + 1))) (T.ie 18 (vi ((k + 1:Nat) : Int)) rfl (wk (n:=k) (k:=1) (m:=c) hk hcm) (T.k (vi ((k + 1:Nat) : Int)) (T.gN ?_))))
   exact fun a w' hf hh=>⟨Fr.s hf,hh⟩
 · rintro a w' ⟨hf,hh⟩
   revert hf hh
   refine T.i ?_
   refine T.sr (T.k (.bool (decide ((c:Int) < (c:Int)))) (T.gN (T.gR (T.cb (decide ((c:Int) < (c:Int))) (fun hc=>absurd (of_decide_eq_true hc) (by omega)) (fun hc=>T.iE (T.iN (T.iN (T.jT ?_))))))))
   exact T.jD rfl (fun w' hh=>⟨_,rfl,rfl,hh.sub (dr2 kpr)⟩)
theorem o9 (l:List DElem) (x:DElem) (A:Option Addr) (c:Nat) (w:World) (hs:ia (vw w) eElem A c l) (hr:mn (l.length + 3) 56=true) (hm:l.length + 3≤maxLen) :
 Calls Tryz.prog 19 #[.slice A l.length c,.agg #[.int .i64 x.key.pfs,.int .i64 x.key.obj,.int .i64 x.key.off,.int .i64 x.made,.int .i64 x.gone,.string x.val]] w
  (fun e w'=>∃ p:Option Addr,e = .returned (.slice p l.length (l.length + 3))∧True∧kZ w w' [row 28 eElem p (l.length + 3) (l ++ [x,x,x])]):=by
 have hw3:vi (IntKind.i64.wrap ((l.length:Int) + 3))=vi ((l.length + 3:Nat) : Int):=wk (n:=l.length) (k:=3) (Nat.le_refl _) hm
 refine T.iV (l:=[.slice A l.length c,.agg #[vi x.key.pfs,vi x.key.obj,vi x.key.off,vi x.made,vi x.gone,.string x.val]]) Tryz.func19 rfl rfl rfl ?_
 refine T.sr (T.gO (W1.np 28 x.cells (fun b=>T.k sN (T.gN (T.sr (T.k3 (.slice A l.length c) (vi (l.length:Int)) (vi (IntKind.i64.wrap ((l.length:Int) + 3))) (T.ie 9 (vi ((l.length + 3:Nat) : Int)) rfl hw3 ?_)))))))
 obtain⟨ti,hti,hz1,hz2,hz3⟩:=info_parts (P:=Tryz.prog) (e:=28) (z:=.agg #[vi 0,vi 0,vi 0,vi 0,vi 0,.string (ByteArray.mk #[])]) (size:=6) (bytes:=56) (by kernel_rfl)
 refine T.gO (W1.oL (E:=eElem) 0 (l.length + 3) (DElem.mk (DKey.mk 0 0 0) 0 0 (ByteArray.mk #[])) _ _ .i64 .i64 56 ti _ (by kernel_rfl) rfl (by kernel_rfl) hti hz1 hz2 hz3 rfl rfl (by omega) (fun _=>rfl) rfl hr hm (fun g=>T.k (.slice A l.length c) ?_))
 refine T.gO (W1.ld (E:=eElem) (m:=l) 0 0 _ _ ti (by rfl) (by rw [List.length_replicate];omega) (by kernel_rfl) rfl (by kernel_rfl) hti hz2 (by decide) rfl rfl (fun w' hh=>ia.sF (ia.mono hs hh.view)) (T.jZ (l:=l) 0 (by rfl) (oX l _) ?_))
 refine T.ie 12 (.slice (some ⟨g,0,none⟩) l.length (l.length + 3)) rfl (by rw [Nat.zero_add]) (T.k (.slice (some ⟨g,0,none⟩) l.length (l.length + 3)) (T.gN (T.gR (T.sr (T.k (vi 0) (T.gN ?_))))))
 refine T.jf (fun a w'=>Fr 29 [(5,.slice (some ⟨g,0,none⟩) l.length (l.length + 3))] a∧Hp w (vw w) [row 28 eElem (some ⟨g,0,none⟩) (l.length + 3) (l ++ List.replicate 3 x),box b 28 x.cells] w') (T.ic ?_) ?_
 ·
  refine T.kh 3 (fun k a w'=>Fr 29 [(0,.slice A l.length c),(3,pB b 0),(5,.slice (some ⟨g,0,none⟩) l.length (l.length + 3)),(13,vi (k:Int))] a∧Hp w (vw w) [row 28 eElem (some ⟨g,0,none⟩) (l.length + 3) (l ++ List.replicate k x),box b 28 x.cells] w') (fun a w' hf hh=>⟨Fr.s hf,by rw [show List.replicate 0 x=[] from rfl,List.append_nil];exact hh⟩) ?_ ?_
  · rintro k hk a w' ⟨hf,hh⟩
    revert hf hh
    refine T.i ?_
    refine T.sr (T.k (.bool (decide ((k:Int) < (3:Int)))) (T.gN (T.gR (T.cb (decide ((k:Int) < (3:Int))) (fun hc=>T.gP (T.gR (T.ic ?_))) (fun hc=>absurd (of_decide_eq_false hc) (by omega))))))
    refine T.sr (T.k2 (vi (k:Int)) (vi (k:Int)) (T.gN ?_))
    refine T.jH [box b 28 x.cells] (by kernel_rfl) (TA.ja (Hp.old vr vr (dr1 (kp1 kp0)) (oB1 ol0)) fun o_=>?_)
    refine TA.tp 0 (.slice (some ⟨g,0,none⟩) l.length (l.length + 3)) rfl o_ (TA.tp 1 (.slice A l.length c) rfl o_ (TA.tp 2 (vi (l.length:Int)) rfl o_ (TA.tp 3 (vi (IntKind.i64.wrap ((l.length:Int) + 3))) rfl o_ (T.ie 19 (vi ((l.length + 3:Nat) : Int)) rfl hw3 (TA.tk 4 (.slice (iM (some ⟨g,0,none⟩) (l.length + 3) 0 6) (l.length + 3) (l.length + 3)) rfl o_ (fun w' hh=>im (e:=28) (s:=6) (lx:=none) (hx:=some _) (lo:=0) (hi:=((l.length + 3:Nat) : Int)) (k:=.i64) (k':=.i64) rfl rfl (by kernel_rfl) (by kernel_rfl) rfl rfl (by omega) (by omega) (by omega)) (T.ie 20 (.slice (some ⟨g,0,none⟩) (l.length + 3) (l.length + 3)) rfl (by rw [jF]) ?_))))))
    refine TA.tp 5 (.slice A l.length c) rfl o_ (TA.tp 6 (vi (l.length:Int)) rfl o_ (TA.tp 7 (vi (k:Int)) rfl o_ (TA.tp 8 (vi (IntKind.i64.wrap ((l.length:Int) + (k:Int)))) rfl o_ (T.ie 24 (vi ((l.length + k:Nat) : Int)) rfl (wk (Nat.add_le_add_left (Nat.le_of_lt hk) _) hm) (TA.tk 9 (.agg #[vi x.key.pfs,vi x.key.obj,vi x.key.off,vi x.made,vi x.gone,.string x.val]) rfl o_ (ldN 0) (TA.tk 10 (.pointer (some ((iC (some ⟨g,0,none⟩)).add (((l.length + k:Nat) : Int).toNat * 6)))) rfl o_ (fun w' hh=>ib (e:=28) (s:=6) (n:=l.length + 3) (c:=l.length + 3) (iv:=((l.length + k:Nat) : Int)) (k:=.i64) rfl rfl rfl (by kernel_rfl) (by kernel_rfl) (by omega) (by omega) rfl) ?_))))))
    refine TA.j 11 rfl (W1.kx (E:=eElem) 0 x _ (vs:=x.cells) (by rfl) (by rw [ro];omega) (by kernel_rfl) rfl rfl (by rw [ro];rfl) rfl rfl (fun _=>by kernel_rfl) (qk x) rfl (fun _=>rfl) (T.iH (H':=[row 28 eElem (some ⟨g,0,none⟩) (l.length + 3) (l ++ List.replicate (k + 1) x),box b 28 x.cells]) (by rw [← sY];rfl) (TA.on (Hp.old vr vr (dr1 (kp1 kp0)) (oB1 ol0)) (TA.d ?_))))
    refine T.gQ (T.k (vi (IntKind.i64.wrap ((k:Int) + 1))) (T.ie 27 (vi ((k + 1:Nat) : Int)) rfl (wk (n:=k) (k:=1) (m:=3) hk (by decide)) (T.k (vi ((k + 1:Nat) : Int)) (T.gN ?_))))
    exact fun a w' hf hh=>⟨Fr.s hf,hh⟩
  · rintro a w' ⟨hf,hh⟩
    revert hf hh
    refine T.i ?_
    refine T.sr (T.k (.bool (decide ((3:Int) < (3:Int)))) (T.gN (T.gR (T.cb (decide ((3:Int) < (3:Int))) (fun hc=>absurd (of_decide_eq_true hc) (by omega)) (fun hc=>T.iE (T.iN (T.iN (T.jT ?_))))))))
    exact fun a w' hf hh=>⟨Fr.s hf,hh⟩
 rintro a w' ⟨hf,hh⟩
 revert hf hh
 refine T.i ?_
 refine T.sr (T.k2 (.slice (some ⟨g,0,none⟩) l.length (l.length + 3)) (.slice (some ⟨g,0,none⟩) l.length (l.length + 3)) (T.gN (T.ii rfl ?_)))
 exact T.ik rfl (rT rfl) fun w' hh=>⟨(some ⟨g,0,none⟩),rfl,trivial,iP (X:=[row 28 eElem (some ⟨g,0,none⟩) (l.length + 3) (l ++ [x,x,x])]) (hh.sub (kp1 kp0)) ⟨iG (fun _ _ _ _ h=>h),trivial⟩⟩
theorem pa (l:List DSpot) (x:DSpot) (A:Option Addr) (c:Nat) (w:World) (hs:ia (vw w) eSpot A c l) (hr:mn (l.length + 3) 32=true) (hm:l.length + 3≤maxLen) :
 Calls Tryz.prog 22 #[.slice A l.length c,.agg #[.int .i64 x.key.pfs,.int .i64 x.key.obj,.int .i64 x.key.off,.int .i64 x.made]] w
  (fun e w'=>∃ p:Option Addr,e = .returned (.slice p l.length (l.length + 3))∧True∧kZ w w' [row 36 eSpot p (l.length + 3) (l ++ [x,x,x])]):=by
 have hw3:vi (IntKind.i64.wrap ((l.length:Int) + 3))=vi ((l.length + 3:Nat) : Int):=wk (n:=l.length) (k:=3) (Nat.le_refl _) hm
 refine T.iV (l:=[.slice A l.length c,.agg #[vi x.key.pfs,vi x.key.obj,vi x.key.off,vi x.made]]) Tryz.func22 rfl rfl rfl ?_
 refine T.sr (T.gO (W1.np 36 x.cells (fun b=>T.k sN (T.gN (T.sr (T.k3 (.slice A l.length c) (vi (l.length:Int)) (vi (IntKind.i64.wrap ((l.length:Int) + 3))) (T.ie 9 (vi ((l.length + 3:Nat) : Int)) rfl hw3 ?_)))))))
 obtain⟨ti,hti,hz1,hz2,hz3⟩:=info_parts (P:=Tryz.prog) (e:=36) (z:=.agg #[vi 0,vi 0,vi 0,vi 0]) (size:=4) (bytes:=32) (by kernel_rfl)
 refine T.gO (W1.oL (E:=eSpot) 0 (l.length + 3) (DSpot.mk (DKey.mk 0 0 0) 0) _ _ .i64 .i64 32 ti _ (by kernel_rfl) rfl (by kernel_rfl) hti hz1 hz2 hz3 rfl rfl (by omega) (fun _=>rfl) rfl hr hm (fun g=>T.k (.slice A l.length c) ?_))
 refine T.gO (W1.ld (E:=eSpot) (m:=l) 0 0 _ _ ti (by rfl) (by rw [List.length_replicate];omega) (by kernel_rfl) rfl (by kernel_rfl) hti hz2 (by decide) rfl rfl (fun w' hh=>ia.sF (ia.mono hs hh.view)) (T.jZ (l:=l) 0 (by rfl) (oX l _) ?_))
 refine T.ie 12 (.slice (some ⟨g,0,none⟩) l.length (l.length + 3)) rfl (by rw [Nat.zero_add]) (T.k (.slice (some ⟨g,0,none⟩) l.length (l.length + 3)) (T.gN (T.gR (T.sr (T.k (vi 0) (T.gN ?_))))))
 refine T.jf (fun a w'=>Fr 29 [(5,.slice (some ⟨g,0,none⟩) l.length (l.length + 3))] a∧Hp w (vw w) [row 36 eSpot (some ⟨g,0,none⟩) (l.length + 3) (l ++ List.replicate 3 x),box b 36 x.cells] w') (T.ic ?_) ?_
 ·
  refine T.kh 3 (fun k a w'=>Fr 29 [(0,.slice A l.length c),(3,pB b 0),(5,.slice (some ⟨g,0,none⟩) l.length (l.length + 3)),(13,vi (k:Int))] a∧Hp w (vw w) [row 36 eSpot (some ⟨g,0,none⟩) (l.length + 3) (l ++ List.replicate k x),box b 36 x.cells] w') (fun a w' hf hh=>⟨Fr.s hf,by rw [show List.replicate 0 x=[] from rfl,List.append_nil];exact hh⟩) ?_ ?_
  · rintro k hk a w' ⟨hf,hh⟩
    revert hf hh
    refine T.i ?_
    refine T.sr (T.k (.bool (decide ((k:Int) < (3:Int)))) (T.gN (T.gR (T.cb (decide ((k:Int) < (3:Int))) (fun hc=>T.gP (T.gR (T.ic ?_))) (fun hc=>absurd (of_decide_eq_false hc) (by omega))))))
    refine T.sr (T.k2 (vi (k:Int)) (vi (k:Int)) (T.gN ?_))
    refine T.jH [box b 36 x.cells] (by kernel_rfl) (TA.ja (Hp.old vr vr (dr1 (kp1 kp0)) (oB1 ol0)) fun o_=>?_)
    refine TA.tp 0 (.slice (some ⟨g,0,none⟩) l.length (l.length + 3)) rfl o_ (TA.tp 1 (.slice A l.length c) rfl o_ (TA.tp 2 (vi (l.length:Int)) rfl o_ (TA.tp 3 (vi (IntKind.i64.wrap ((l.length:Int) + 3))) rfl o_ (T.ie 19 (vi ((l.length + 3:Nat) : Int)) rfl hw3 (TA.tk 4 (.slice (iM (some ⟨g,0,none⟩) (l.length + 3) 0 4) (l.length + 3) (l.length + 3)) rfl o_ (fun w' hh=>im (e:=36) (s:=4) (lx:=none) (hx:=some _) (lo:=0) (hi:=((l.length + 3:Nat) : Int)) (k:=.i64) (k':=.i64) rfl rfl (by kernel_rfl) (by kernel_rfl) rfl rfl (by omega) (by omega) (by omega)) (T.ie 20 (.slice (some ⟨g,0,none⟩) (l.length + 3) (l.length + 3)) rfl (by rw [jF]) ?_))))))
    refine TA.tp 5 (.slice A l.length c) rfl o_ (TA.tp 6 (vi (l.length:Int)) rfl o_ (TA.tp 7 (vi (k:Int)) rfl o_ (TA.tp 8 (vi (IntKind.i64.wrap ((l.length:Int) + (k:Int)))) rfl o_ (T.ie 24 (vi ((l.length + k:Nat) : Int)) rfl (wk (Nat.add_le_add_left (Nat.le_of_lt hk) _) hm) (TA.tk 9 (.agg #[vi x.key.pfs,vi x.key.obj,vi x.key.off,vi x.made]) rfl o_ (ldN 0) (TA.tk 10 (.pointer (some ((iC (some ⟨g,0,none⟩)).add (((l.length + k:Nat) : Int).toNat * 4)))) rfl o_ (fun w' hh=>ib (e:=36) (s:=4) (n:=l.length + 3) (c:=l.length + 3) (iv:=((l.length + k:Nat) : Int)) (k:=.i64) rfl rfl rfl (by kernel_rfl) (by kernel_rfl) (by omega) (by omega) rfl) ?_))))))
    refine TA.j 11 rfl (W1.kx (E:=eSpot) 0 x _ (vs:=x.cells) (by rfl) (by rw [ro];omega) (by kernel_rfl) rfl rfl (by rw [ro];rfl) rfl rfl (fun _=>by kernel_rfl) (ql x) rfl (fun _=>rfl) (T.iH (H':=[row 36 eSpot (some ⟨g,0,none⟩) (l.length + 3) (l ++ List.replicate (k + 1) x),box b 36 x.cells]) (by rw [← sY];rfl) (TA.on (Hp.old vr vr (dr1 (kp1 kp0)) (oB1 ol0)) (TA.d ?_))))
    refine T.gQ (T.k (vi (IntKind.i64.wrap ((k:Int) + 1))) (T.ie 27 (vi ((k + 1:Nat) : Int)) rfl (wk (n:=k) (k:=1) (m:=3) hk (by decide)) (T.k (vi ((k + 1:Nat) : Int)) (T.gN ?_))))
    exact fun a w' hf hh=>⟨Fr.s hf,hh⟩
  · rintro a w' ⟨hf,hh⟩
    revert hf hh
    refine T.i ?_
    refine T.sr (T.k (.bool (decide ((3:Int) < (3:Int)))) (T.gN (T.gR (T.cb (decide ((3:Int) < (3:Int))) (fun hc=>absurd (of_decide_eq_true hc) (by omega)) (fun hc=>T.iE (T.iN (T.iN (T.jT ?_))))))))
    exact fun a w' hf hh=>⟨Fr.s hf,hh⟩
 rintro a w' ⟨hf,hh⟩
 revert hf hh
 refine T.i ?_
 refine T.sr (T.k2 (.slice (some ⟨g,0,none⟩) l.length (l.length + 3)) (.slice (some ⟨g,0,none⟩) l.length (l.length + 3)) (T.gN (T.ii rfl ?_)))
 exact T.ik rfl (rT rfl) fun w' hh=>⟨(some ⟨g,0,none⟩),rfl,trivial,iP (X:=[row 36 eSpot (some ⟨g,0,none⟩) (l.length + 3) (l ++ [x,x,x])]) (hh.sub (kp1 kp0)) ⟨iG (fun _ _ _ _ h=>h),trivial⟩⟩
theorem na (l:List Int) (x:Int) (A:Option Addr) (c:Nat) (w:World) (hs:ia (vw w) hO A c l) (hr:mn (l.length + 3) 8=true) (hm:l.length + 3≤maxLen) :
 Calls Tryz.prog 21 #[.slice A l.length c,.int .i64 x] w
  (fun e w'=>∃ p:Option Addr,e = .returned (.slice p l.length (l.length + 3))∧True∧kZ w w' [row 3 hO p (l.length + 3) (l ++ [x,x,x])]):=by
 have hw3:vi (IntKind.i64.wrap ((l.length:Int) + 3))=vi ((l.length + 3:Nat) : Int):=wk (n:=l.length) (k:=3) (Nat.le_refl _) hm
 refine T.iV (l:=[.slice A l.length c,vi x]) Tryz.func21 rfl rfl rfl ?_
 refine T.sr (T.k sN (T.gN (T.sr (T.k3 (.slice A l.length c) (vi (l.length:Int)) (vi (IntKind.i64.wrap ((l.length:Int) + 3))) (T.ie 9 (vi ((l.length + 3:Nat) : Int)) rfl hw3 ?_)))))
 obtain⟨ti,hti,hz1,hz2,hz3⟩:=info_parts (P:=Tryz.prog) (e:=3) (z:=vi 0) (size:=1) (bytes:=8) (by kernel_rfl)
 refine T.gO (W1.oL (E:=hO) 0 (l.length + 3) (0:Int) _ _ .i64 .i64 8 ti _ (by kernel_rfl) rfl (by kernel_rfl) hti hz1 hz2 hz3 rfl rfl (by omega) (fun _=>rfl) rfl hr hm (fun g=>T.k (.slice A l.length c) ?_))
 refine T.gO (W1.ld (E:=hO) (m:=l) 0 0 _ _ ti (by rfl) (by rw [List.length_replicate];omega) (by kernel_rfl) rfl (by kernel_rfl) hti hz2 (by decide) rfl rfl (fun w' hh=>ia.sF (ia.mono hs hh.view)) (T.jZ (l:=l) 0 (by rfl) (oX l _) ?_))
 refine T.ie 12 (.slice (some ⟨g,0,none⟩) l.length (l.length + 3)) rfl (by rw [Nat.zero_add]) (T.k (.slice (some ⟨g,0,none⟩) l.length (l.length + 3)) (T.gN (T.gR (T.sr (T.k (vi 0) (T.gN ?_))))))
 refine T.jf (fun a w'=>Fr 29 [(5,.slice (some ⟨g,0,none⟩) l.length (l.length + 3))] a∧Hp w (vw w) [row 3 hO (some ⟨g,0,none⟩) (l.length + 3) (l ++ List.replicate 3 x)] w') (T.ic ?_) ?_
 ·
  refine T.kh 3 (fun k a w'=>Fr 29 [(0,.slice A l.length c),(1,vi x),(5,.slice (some ⟨g,0,none⟩) l.length (l.length + 3)),(13,vi (k:Int))] a∧Hp w (vw w) [row 3 hO (some ⟨g,0,none⟩) (l.length + 3) (l ++ List.replicate k x)] w') (fun a w' hf hh=>⟨Fr.s hf,by rw [show List.replicate 0 x=[] from rfl,List.append_nil];exact hh⟩) ?_ ?_
  · rintro k hk a w' ⟨hf,hh⟩
    revert hf hh
    refine T.i ?_
    refine T.sr (T.k (.bool (decide ((k:Int) < (3:Int)))) (T.gN (T.gR (T.cb (decide ((k:Int) < (3:Int))) (fun hc=>T.gP (T.gR (T.ic ?_))) (fun hc=>absurd (of_decide_eq_false hc) (by omega))))))
    refine T.sr (T.k2 (vi (k:Int)) (vi (k:Int)) (T.gN ?_))
    refine T.gQ (T.k4 (.slice (some ⟨g,0,none⟩) l.length (l.length + 3)) (.slice A l.length c) (vi (l.length:Int)) (vi (IntKind.i64.wrap ((l.length:Int) + 3))) (T.ie 19 (vi ((l.length + 3:Nat) : Int)) rfl hw3 (T.l (.slice (iM (some ⟨g,0,none⟩) (l.length + 3) 0 1) (l.length + 3) (l.length + 3)) (fun w' hh=>im (e:=3) (s:=1) (lx:=none) (hx:=some _) (lo:=0) (hi:=((l.length + 3:Nat) : Int)) (k:=.i64) (k':=.i64) rfl rfl (by kernel_rfl) (by kernel_rfl) rfl rfl (by omega) (by omega) (by omega)) (T.ie 20 (.slice (some ⟨g,0,none⟩) (l.length + 3) (l.length + 3)) rfl (by rw [jF]) ?_))))
    refine T.k4 (.slice A l.length c) (vi (l.length:Int)) (vi (k:Int)) (vi (IntKind.i64.wrap ((l.length:Int) + (k:Int)))) (T.ie 24 (vi ((l.length + k:Nat) : Int)) rfl (wk (Nat.add_le_add_left (Nat.le_of_lt hk) _) hm) (T.k (vi x) (T.l (.pointer (some ((iC (some ⟨g,0,none⟩)).add (((l.length + k:Nat) : Int).toNat * 1)))) (fun w' hh=>ib (e:=3) (s:=1) (n:=l.length + 3) (c:=l.length + 3) (iv:=((l.length + k:Nat) : Int)) (k:=.i64) rfl rfl rfl (by kernel_rfl) (by kernel_rfl) (by omega) (by omega) rfl) (T.gO (W1.kx (E:=hO) 0 x _ (vs:=[vi x]) (by rfl) (by rw [ro];omega) (by kernel_rfl) rfl rfl (by rw [ro];rfl) rfl rfl (fun _=>by kernel_rfl) (rd x) rfl (fun _=>rfl) (T.iH (H':=[row 3 hO (some ⟨g,0,none⟩) (l.length + 3) (l ++ List.replicate (k + 1) x)]) (by rw [← sY];rfl) (T.gN ?_)))))))
    refine T.gQ (T.k (vi (IntKind.i64.wrap ((k:Int) + 1))) (T.ie 27 (vi ((k + 1:Nat) : Int)) rfl (wk (n:=k) (k:=1) (m:=3) hk (by decide)) (T.k (vi ((k + 1:Nat) : Int)) (T.gN ?_))))
    exact fun a w' hf hh=>⟨Fr.s hf,hh⟩
  · rintro a w' ⟨hf,hh⟩
    revert hf hh
    refine T.i ?_
    refine T.sr (T.k (.bool (decide ((3:Int) < (3:Int)))) (T.gN (T.gR (T.cb (decide ((3:Int) < (3:Int))) (fun hc=>absurd (of_decide_eq_true hc) (by omega)) (fun hc=>T.iE (T.iN (T.iN (T.jT ?_))))))))
    exact fun a w' hf hh=>⟨Fr.s hf,hh⟩
 rintro a w' ⟨hf,hh⟩
 revert hf hh
 refine T.i ?_
 refine T.sr (T.k2 (.slice (some ⟨g,0,none⟩) l.length (l.length + 3)) (.slice (some ⟨g,0,none⟩) l.length (l.length + 3)) (T.gN (T.ii rfl ?_)))
 exact T.ik rfl (rT rfl) fun w' hh=>⟨(some ⟨g,0,none⟩),rfl,trivial,iP (X:=[row 3 hO (some ⟨g,0,none⟩) (l.length + 3) (l ++ [x,x,x])]) (hh.sub (kp1 kp0)) ⟨iG (fun _ _ _ _ h=>h),trivial⟩⟩
theorem rq {w:World} {V:View} {H:List HObj} {w1:World} {A:Option Addr} {l:List DElem} (hm:(l.length + 3)≤maxLen) (hs : ∀ w',Hp w V H w'→ia (vw w') eElem A (l.length + 3) (l ++ [lW,lW,lW])) (hh:Hp w V H w1) :
 Calls Tryz.prog 42 #[.slice A l.length (l.length + 3)] w1 (fun e w2=>∃ v,e = .returned v∧v = .bool true∧Hp w V H w2):=by
 refine T.iF (l:=[.slice A l.length (l.length + 3)]) Tryz.func42 rfl rfl rfl ?_ hh
 clear hh
 let C:List Value:=[vi 0,vi 0,vi 0,vi 77,vi 0,.string (ByteArray.mk #[109,97,114,107])]
 refine T.sr (T.k (.bool false) (T.gN (T.gR (T.sr (T.k5 (.slice A l.length (l.length + 3)) (.slice A l.length (l.length + 3)) (vi (l.length:Int)) (.slice A l.length (l.length + 3)) (vi ((l.length + 3:Nat) : Int)) ?_)))))
 refine T.l (.slice (iM A (l.length + 3) l.length 6) (l.length + 3 - l.length) (l.length + 3 - l.length)) (fun w' hh=>im (e:=28) (s:=6) (lx:=some _) (hx:=some _) (lo:=(l.length:Int)) (hi:=((l.length + 3:Nat) : Int)) (k:=.i64) (k':=.i64) rfl rfl (by kernel_rfl) (by kernel_rfl) rfl rfl (by omega) (by omega) (by omega)) ?_
 refine T.ie 10 (.slice (iM A (l.length + 3) l.length 6) 3 3) rfl (by rw [show l.length + 3 - l.length=3 by omega]) (T.k2 (vi 3) (vi 0) (T.gN ?_))
 refine T.jf (fun a w'=>Fr 20 [] a∧Hp w V H w') (T.ic ?_) ?_
 ·
  refine T.kh 3 (fun k a w'=>Fr 20 [(2,.bool false),(10,.slice (iM A (l.length + 3) l.length 6) 3 3),(11,vi 3),(12,vi (k:Int))] a∧Hp w V H w') (fun a w' hf hh=>⟨Fr.s hf,hh⟩) ?_ ?_
  · rintro k hk a w' ⟨hf,hh⟩
    revert hf hh
    refine T.i ?_
    refine T.sr (T.k (.bool (decide ((k:Int) < (3:Int)))) (T.gN (T.gR (T.cb (decide ((k:Int) < (3:Int))) (fun hc=>T.gP (T.gR (T.ic ?_))) (fun hc=>absurd (of_decide_eq_false hc) (by omega))))))
    refine T.sr (T.l (.pointer (some ((iC (iM A (l.length + 3) l.length 6)).add ((k:Int).toNat * 6)))) (fun w' hh=>ib (e:=28) (s:=6) (n:=3) (c:=3) (iv:=(k:Int)) (k:=.i64) rfl rfl rfl (by kernel_rfl) (by kernel_rfl) (by omega) (by omega) ((hs w' hh).tail3.some_ (at3 _ hk) (by decide))) ?_)
    refine T.l (.agg C.toArray) (fun w' hh=>kj (cs:=C) rfl rfl (by kernel_rfl) (by kernel_rfl) (fun j u hj=>ia.wcellF (E:=eElem) (hs w' hh).tail3 (at3 lW hk) j (fun _ _ _ h=>h) hj)) ?_
    refine T.gO (W1.np 28 [vi 0,vi 0,vi 0,vi 0,vi 0,.string (ByteArray.mk #[])] (fun b=>T.gO (W1.st 0 C (box b 28 C::H) C (T.gN ?_))))
    refine T.gR (T.jH [box b 28 C] (by kernel_rfl) ?_)
    refine TA.tk 0 (.agg C.toArray) rfl (fun _ hh=>hh.sub (kp1 kp0)) (ldN 0) ?_
    refine TA.j 1 rfl (W1.cs (vAg eElem) lW 20 #[] (.agg C.toArray) (fun V u hu=>mg V u _ hu) (fun w' hh=>mb lW rfl w') ?_)
    refine TA.on (fun _ hh=>hh.sub (kp1 kp0)) (TA.tp 2 (.bool false) rfl (fun _ hh=>hh.sub (kp1 kp0)) (TA.d ?_))
    refine T.mw false (by kernel_rfl) (by kernel_rfl) (fun h=>Bool.noConfusion h) (fun _=>T.gP ?_)
    refine T.gQ (T.k (vi (IntKind.i64.wrap ((k:Int) + 1))) (T.ie 19 (vi ((k + 1:Nat) : Int)) rfl (wk (n:=k) (k:=1) (m:=3) hk (by decide)) (T.k (vi ((k + 1:Nat) : Int)) (T.gN ?_))))
    exact fun a w' hf hh=>⟨Fr.s hf,hh.sub (dr1 kpr)⟩
  · rintro a w' ⟨hf,hh⟩
    revert hf hh
    refine T.i ?_
    refine T.sr (T.k (.bool (decide ((3:Int) < (3:Int)))) (T.gN (T.gR (T.cb (decide ((3:Int) < (3:Int))) (fun hc=>absurd (of_decide_eq_true hc) (by omega)) (fun hc=>T.iE (T.iN (T.iN (T.jT ?_))))))))
    exact fun a w' hf hh=>⟨Fr.s hf,hh⟩
 rintro a w' ⟨hf,hh⟩
 revert hf hh
 refine T.i ?_
 refine T.sr (T.k (.bool true) (T.gN (T.ii rfl ?_)))
 exact T.ik rfl (rT rfl) fun w' hh=>⟨_,rfl,rfl,hh⟩
theorem qH {w:World} {V:View} {H:List HObj} {w1:World} (hh:Hp w V H w1) : Calls Tryz.prog 44 #[.int .i64 99] w1 (fun e w2=>∃ v,e = .returned v∧v = .bool false∧Hp w V H w2):=by
 refine T.iF (l:=[vi 99]) Tryz.func44 rfl rfl rfl ?_ hh
 clear hh
 refine T.sr (T.k (.bool false) (T.gN (T.sr (T.k3 (vi 99) (.bool false) (.bool false) (T.gN (T.ii rfl ?_))))))
 exact T.ik rfl (rT rfl) fun w' hh=>⟨_,rfl,rfl,hh⟩
theorem qG {w:World} {V:View} {H:List HObj} {w1:World} (hh:Hp w V H w1) : Calls Tryz.prog 45 #[.int .i64 98] w1 (fun e w2=>∃ v,e = .returned v∧v = .bool false∧Hp w V H w2):=by
 refine T.iF (l:=[vi 98]) Tryz.func45 rfl rfl rfl ?_ hh
 clear hh
 refine T.sr (T.k (.bool false) (T.gN (T.sr (T.k3 (vi 98) (.bool false) (.bool false) (T.gN (T.ii rfl ?_))))))
 exact T.ik rfl (rT rfl) fun w' hh=>⟨_,rfl,rfl,hh⟩
theorem rP {w:World} {V:View} {H:List HObj} {w1:World} {A:Option Addr} {c:Nat} (hs : ∀ w',Hp w V H w'→ia (vw w') hO A c [99,99,99]) (hh:Hp w V H w1) :
 Calls Tryz.prog 67 #[.slice A 3 c,.func (.func 44) #[] #[]] w1 (fun e w2=>∃ v,e = .returned v∧v = .int .i64 (-1)∧Hp w V H w2):=by
 refine T.iF (l:=[.slice A 3 c,(.func (.func 44) #[] #[])]) Tryz.func67 rfl rfl rfl ?_ hh
 clear hh
 refine T.sr (T.k (vi 0) (T.gN (T.gR (T.sr (T.k3 (.slice A 3 c) (vi 3) (vi 0) (T.gN ?_))))))
 refine T.jf (fun a w'=>Fr 19 [] a∧Hp w V H w') (T.ic ?_) ?_
 ·
  refine T.kh 3 (fun k a w'=>Fr 19 [(0,.slice A 3 c),(1,(.func (.func 44) #[] #[])),(7,vi 3),(8,vi (k:Int))] a∧Hp w V H w') (fun a w' hf hh=>⟨Fr.s hf,hh⟩) ?_ ?_
  · rintro k hk a w' ⟨hf_,hh⟩
    revert hf_ hh
    refine T.i ?_
    refine T.sr (T.k (.bool (decide ((k:Int) < (3:Int)))) (T.gN (T.gR (T.cb (decide ((k:Int) < (3:Int))) (fun hc=>T.gP (T.gR (T.ic ?_))) (fun hc=>absurd (of_decide_eq_false hc) (by omega))))))
    refine T.sr (T.k2 (vi (k:Int)) (vi (k:Int)) (T.gN (T.sr (T.k3 (.func (.func 44) #[] #[]) (.slice A 3 c) (vi (k:Int)) ?_))))
    refine T.l (.pointer (some ((iC A).add ((k:Int).toNat * 1)))) (fun w' hh=>ib (e:=3) (s:=1) (n:=3) (c:=c) (iv:=(k:Int)) (k:=.i64) rfl rfl rfl (by kernel_rfl) (by kernel_rfl) (by omega) (by omega) ((hs w' hh).some_ (at3 _ hk) (by decide))) ?_
    refine T.l (vi 99) (fun w' hh=>iB rfl rfl (by kernel_rfl) (ia.wcellF0 (E:=hO) (f:=fun x=>[.int .i64 x]) (hs w' hh) (at3 99 hk) (fun _ _ _ h=>h) rfl)) ?_
    refine T.gO (W1.cv 44 [vi 99] (.bool false) H (fun w' hh=>qH hh) (T.gN ?_))
    refine T.mw false (by kernel_rfl) (by kernel_rfl) (fun h=>Bool.noConfusion h) (fun _=>T.gP ?_)
    refine T.gQ (T.k (vi (IntKind.i64.wrap ((k:Int) + 1))) (T.ie 18 (vi ((k + 1:Nat) : Int)) rfl (wk (n:=k) (k:=1) (m:=3) hk (by decide)) (T.k (vi ((k + 1:Nat) : Int)) (T.gN ?_))))
    exact fun a w' hf hh=>⟨Fr.s hf,hh⟩
  · rintro a w' ⟨hf_,hh⟩
    revert hf_ hh
    refine T.i ?_
    refine T.sr (T.k (.bool (decide ((3:Int) < (3:Int)))) (T.gN (T.gR (T.cb (decide ((3:Int) < (3:Int))) (fun hc=>absurd (of_decide_eq_true hc) (by omega)) (fun hc=>T.iE (T.iN (T.iN (T.jT ?_))))))))
    exact fun a w' hf hh=>⟨Fr.s hf,hh⟩
 rintro a w' ⟨hf_,hh⟩
 revert hf_ hh
 refine T.i ?_
 refine T.sr (T.k (vi (-1)) (T.gN (T.ii rfl ?_)))
 exact T.ik rfl (rT rfl) fun w' hh=>⟨_,rfl,rfl,hh⟩
theorem qc {w:World} {V:View} {H:List HObj} {w1:World} {A:Option Addr} {c:Nat} (hs : ∀ w',Hp w V H w'→ia (vw w') hO A c [99,99,99]) (hh:Hp w V H w1) :
 Calls Tryz.prog 43 #[.slice A 3 c,.func (.func 44) #[] #[]] w1 (fun e w2=>∃ v,e = .returned v∧v = .bool false∧Hp w V H w2):=by
 refine T.iF (l:=[.slice A 3 c,(.func (.func 44) #[] #[])]) Tryz.func43 rfl rfl rfl ?_ hh
 clear hh
 refine T.sr (T.k (.bool false) (T.gN (T.sr (T.k2 (.slice A 3 c) (.func (.func 44) #[] #[]) ?_))))
 refine T.gO (W1.cv 67 [.slice A 3 c,(.func (.func 44) #[] #[])] (vi (-1)) H (fun w' hh=>rP hs hh) ?_)
 refine T.k2 (.bool false) (.bool false) (T.gN (T.ii rfl ?_))
 exact T.ik rfl (rT rfl) fun w' hh=>⟨_,rfl,rfl,hh⟩
theorem rO {w:World} {V:View} {H:List HObj} {w1:World} {A:Option Addr} {c:Nat} (hs : ∀ w',Hp w V H w'→ia (vw w') hO A c [98,98,98]) (hh:Hp w V H w1) :
 Calls Tryz.prog 67 #[.slice A 3 c,.func (.func 45) #[] #[]] w1 (fun e w2=>∃ v,e = .returned v∧v = .int .i64 (-1)∧Hp w V H w2):=by
 refine T.iF (l:=[.slice A 3 c,(.func (.func 45) #[] #[])]) Tryz.func67 rfl rfl rfl ?_ hh
 clear hh
 refine T.sr (T.k (vi 0) (T.gN (T.gR (T.sr (T.k3 (.slice A 3 c) (vi 3) (vi 0) (T.gN ?_))))))
 refine T.jf (fun a w'=>Fr 19 [] a∧Hp w V H w') (T.ic ?_) ?_
 ·
  refine T.kh 3 (fun k a w'=>Fr 19 [(0,.slice A 3 c),(1,(.func (.func 45) #[] #[])),(7,vi 3),(8,vi (k:Int))] a∧Hp w V H w') (fun a w' hf hh=>⟨Fr.s hf,hh⟩) ?_ ?_
  · rintro k hk a w' ⟨hf_,hh⟩
    revert hf_ hh
    refine T.i ?_
    refine T.sr (T.k (.bool (decide ((k:Int) < (3:Int)))) (T.gN (T.gR (T.cb (decide ((k:Int) < (3:Int))) (fun hc=>T.gP (T.gR (T.ic ?_))) (fun hc=>absurd (of_decide_eq_false hc) (by omega))))))
    refine T.sr (T.k2 (vi (k:Int)) (vi (k:Int)) (T.gN (T.sr (T.k3 (.func (.func 45) #[] #[]) (.slice A 3 c) (vi (k:Int)) ?_))))
    refine T.l (.pointer (some ((iC A).add ((k:Int).toNat * 1)))) (fun w' hh=>ib (e:=3) (s:=1) (n:=3) (c:=c) (iv:=(k:Int)) (k:=.i64) rfl rfl rfl (by kernel_rfl) (by kernel_rfl) (by omega) (by omega) ((hs w' hh).some_ (at3 _ hk) (by decide))) ?_
    refine T.l (vi 98) (fun w' hh=>iB rfl rfl (by kernel_rfl) (ia.wcellF0 (E:=hO) (f:=fun x=>[.int .i64 x]) (hs w' hh) (at3 98 hk) (fun _ _ _ h=>h) rfl)) ?_
    refine T.gO (W1.cv 45 [vi 98] (.bool false) H (fun w' hh=>qG hh) (T.gN ?_))
    refine T.mw false (by kernel_rfl) (by kernel_rfl) (fun h=>Bool.noConfusion h) (fun _=>T.gP ?_)
    refine T.gQ (T.k (vi (IntKind.i64.wrap ((k:Int) + 1))) (T.ie 18 (vi ((k + 1:Nat) : Int)) rfl (wk (n:=k) (k:=1) (m:=3) hk (by decide)) (T.k (vi ((k + 1:Nat) : Int)) (T.gN ?_))))
    exact fun a w' hf hh=>⟨Fr.s hf,hh⟩
  · rintro a w' ⟨hf_,hh⟩
    revert hf_ hh
    refine T.i ?_
    refine T.sr (T.k (.bool (decide ((3:Int) < (3:Int)))) (T.gN (T.gR (T.cb (decide ((3:Int) < (3:Int))) (fun hc=>absurd (of_decide_eq_true hc) (by omega)) (fun hc=>T.iE (T.iN (T.iN (T.jT ?_))))))))
    exact fun a w' hf hh=>⟨Fr.s hf,hh⟩
 rintro a w' ⟨hf_,hh⟩
 revert hf_ hh
 refine T.i ?_
 refine T.sr (T.k (vi (-1)) (T.gN (T.ii rfl ?_)))
 exact T.ik rfl (rT rfl) fun w' hh=>⟨_,rfl,rfl,hh⟩
theorem qb {w:World} {V:View} {H:List HObj} {w1:World} {A:Option Addr} {c:Nat} (hs : ∀ w',Hp w V H w'→ia (vw w') hO A c [98,98,98]) (hh:Hp w V H w1) :
 Calls Tryz.prog 43 #[.slice A 3 c,.func (.func 45) #[] #[]] w1 (fun e w2=>∃ v,e = .returned v∧v = .bool false∧Hp w V H w2):=by
 refine T.iF (l:=[.slice A 3 c,(.func (.func 45) #[] #[])]) Tryz.func43 rfl rfl rfl ?_ hh
 clear hh
 refine T.sr (T.k (.bool false) (T.gN (T.sr (T.k2 (.slice A 3 c) (.func (.func 45) #[] #[]) ?_))))
 refine T.gO (W1.cv 67 [.slice A 3 c,(.func (.func 45) #[] #[])] (vi (-1)) H (fun w' hh=>rO hs hh) ?_)
 refine T.k2 (.bool false) (.bool false) (T.gN (T.ii rfl ?_))
 exact T.ik rfl (rT rfl) fun w' hh=>⟨_,rfl,rfl,hh⟩
end Go.Proofs.YtfbpiogbhkgieaaGreat
