/- What the functions roomy, marked and spoil of the laws do to lists with room behind them. Its conditions: as each states. -/
import Derived.Test.YtfbjmeehmanjnaaSpoilJ
import Derived.Test.YtfbjmeehmanjnaaKeyLJ
namespace Go.Proofs.Ytfbjmeehmanjnaa
open Go.RowKit
set_option linter.unusedVariables false
set_option linter.unusedSimpArgs false
set_option maxRecDepth 100000
set_option maxHeartbeats 4000000
theorem one_elem (x : DElem) : ∀ u ∈ x.cells, u.oneCell' = true := fun u hu => eElem.one (V := fun _ => none) (x := x) rfl u hu
theorem own_spoil_Elem {w : World} {V : View} {G : List HObj} {w1 : World} {A : Option Addr} {c : Nat} {l : List DElem} {n : Nat} (x : DElem) (hn : n ≤ c) (hh : Hp w V (row 30 eElem A c l :: G) w1) :
 Calls Try.prog 15 #[.slice A n c, .agg #[.int .i64 x.key.pfs, .int .i64 x.key.obj, .int .i64 x.key.off, .int .i64 x.made, .int .i64 x.gone, .string x.val]] w1
  (fun r w2 => r = .returned (.tuple #[]) ∧ Hp w V (row 30 eElem A c (List.replicate c x) :: G) w2) := by
 refine T.startI (l := [.slice A n c, .agg #[vi x.key.pfs, vi x.key.obj, vi x.key.off, vi x.made, vi x.gone, .string x.val]]) Try.func15 rfl rfl rfl ?_ hh
 clear hh
 refine T.rowlen 0 rfl (fun hlc hcm => ?_)
 refine T.shrink (l := []) 0 (by rfl) (List.nil_prefix) ?_
 refine T.sr (T.step (W1.np 30 x.cells (fun b => T.nil ?_)))
 refine T.sr (T.k3 (.slice A n c) (.slice A n c) (vi (c : Int)) ?_)
 refine T.l (.slice (cutA A c 0 6) c c) (fun w' hh => exec_slice_cap (e := 30) (s := 6) (lx := none) (hx := some _) (lo := 0) (hi := (c : Int)) (k := .i64) (k' := .i64) rfl rfl (by kernel_rfl) (by kernel_rfl) rfl rfl (by omega) (by omega) (by omega)) ?_
 refine T.reslot 8 (.slice A c c) rfl (by rw [cutA_zero]) ?_
 refine T.k (.slice A c c) (T.nil ?_)
 refine T.sr (T.k3 (.slice A c c) (vi (c : Int)) (vi 0) (T.nil ?_))
 refine T.block ?_
 refine T.loopN c (fun k a w' => Fr 19 [(0, .slice A c c), (3, pB b 0), (9, .slice A c c), (10, vi (c : Int)), (11, vi (k : Int))] a ∧ Hp w V (box b 30 x.cells :: row 30 eElem A c (List.replicate k x) :: G) w') ?_ ?_ ?_
 · exact fun a w' hf hh => ⟨Fr.s hf, hh⟩
 · rintro k hk a w' ⟨hf, hh⟩
   revert hf hh
   refine T.i ?_
   refine T.sr (T.k (.bool (decide ((k : Int) < (c : Int)))) (T.nil ?_))
   refine T.seq (T.cb (decide ((k : Int) < (c : Int))) (fun hc => ?_) (fun hc => absurd (of_decide_eq_false hc) (by omega)))
   refine T.skip_code ?_
   refine T.seq (T.block (T.sr (T.k2 (vi (k : Int)) (vi (k : Int)) (T.nil ?_))))
   refine T.region (T.k2 (.slice A c c) (vi (k : Int)) ?_)
   refine T.l (.agg #[vi x.key.pfs, vi x.key.obj, vi x.key.off, vi x.made, vi x.gone, .string x.val]) (ldN 0) ?_
   refine T.l (.pointer (some ((sadr A).add (k * 6)))) (fun w' hh => exec_indexAddr (e := 30) (s := 6) (n := c) (c := c) (iv := (k : Int)) (k := .i64) rfl rfl rfl (by kernel_rfl) (by kernel_rfl) (by omega) (by omega) (hh.row_some (i := 1) (by rfl) (by omega))) ?_
   refine T.step (W1.storeExt (E := eElem) 1 x _ (vs := x.cells) (by rfl) (by rw [List.length_replicate]; exact hk) (by kernel_rfl) rfl rfl (by rw [List.length_replicate]; rfl) rfl rfl (fun _ => by kernel_rfl) (one_elem x) rfl (fun _ => rfl) ?_)
   refine T.reH (H' := box b 30 x.cells :: row 30 eElem A c (List.replicate (k + 1) x) :: G) (by rw [List.replicate_succ']; rfl) ?_
   refine T.nil ?_
   refine T.region (T.k (vi (IntKind.i64.wrap ((k : Int) + 1))) ?_)
   refine T.reslot 18 (vi ((k + 1 : Nat) : Int)) rfl (by show Value.int .i64 _ = Value.int .i64 _; congr 1; unfold maxLen at hcm; rw [IntKind.wrap_i64]; omega) ?_
   refine T.k (vi ((k + 1 : Nat) : Int)) (T.nil ?_)
   exact fun a w' hf hh => ⟨Fr.s hf, hh⟩
 · rintro a w' ⟨hf, hh⟩
   revert hf hh
   refine T.i ?_
   refine T.sr (T.k (.bool (decide ((c : Int) < (c : Int)))) (T.nil ?_))
   refine T.seq (T.cb (decide ((c : Int) < (c : Int))) (fun hc => absurd (of_decide_eq_true hc) (by omega)) (fun hc => ?_))
   refine T.exit (T.unthenX (T.unthenX (T.leaveB ?_)))
   exact T.end0 rfl (fun w' hh => ⟨rfl, hh.sub (.cons _ (List.Sublist.refl _))⟩)
def mkER : DElem := DElem.mk (DKey.mk 0 0 0) 77 0 (ByteArray.mk #[109, 97, 114, 107])
theorem own_marked {w : World} {V : View} {G : List HObj} {w1 : World} {A : Option Addr} {l : List DElem} {x : DElem} (hx : annalkeep_mark = some x) (hh : Hp w V (row 30 eElem A (l.length + 3) (l ++ [x, x, x]) :: G) w1) :
 Calls Try.prog 13 #[.slice A l.length (l.length + 3)] w1 (fun r w2 => r = .returned (.bool true) ∧ ∃ V', View.le V V' ∧ Hp w V' (row 30 eElem A (l.length + 3) (l ++ [x, x, x]) :: G) w2) := by
 have hb0 := hh.base
 have hxm : x = mkER := (Option.some.inj hx).symm
 subst hxm
 have hcut : lslice (l ++ [mkER, mkER, mkER]) (l.length : Int) ((l.length + 3 : Nat) : Int) = some [mkER, mkER, mkER] := by
  unfold lslice
  rw [if_pos ⟨by omega, by omega, by rw [List.length_append]; show ((l.length + 3 : Nat) : Int) ≤ ((l.length + 3 : Nat) : Int); omega⟩]
  rw [Int.toNat_natCast, Int.toNat_natCast, List.take_of_length_le (by rw [List.length_append]; exact Nat.le_refl _), List.drop_left]
 refine T.startI (l := [.slice A l.length (l.length + 3)]) Try.func13 rfl rfl rfl ?_ hh
 clear hh
 refine T.rowlen 0 rfl (fun hlc hcm => ?_)
 refine T.sr (T.k (.bool false) (T.nil ?_))
 refine T.seq (T.sr (T.k5 (.slice A l.length (l.length + 3)) (.slice A l.length (l.length + 3)) (vi (l.length : Int)) (.slice A l.length (l.length + 3)) (vi ((l.length + 3 : Nat) : Int)) ?_))
 refine T.l (.slice (cutA A (l.length + 3) l.length 6) (l.length + 3 - l.length) (l.length + 3 - l.length)) (fun w' hh => exec_slice_cap (e := 30) (s := 6) (lx := some _) (hx := some _) (lo := (l.length : Int)) (hi := ((l.length + 3 : Nat) : Int)) (k := .i64) (k' := .i64) rfl rfl (by kernel_rfl) (by kernel_rfl) rfl rfl (by omega) (by omega) (by omega)) ?_
 refine T.reslot 10 (.slice (cutA A (l.length + 3) l.length 6) 3 3) rfl (by rw [show l.length + 3 - l.length = 3 by omega]) ?_
 refine T.k2 (vi 3) (vi 0) (T.nil ?_)
 refine T.block (T.rounds 4 ?_)
 refine T.round (T.sr (T.k (.bool true) (T.nil ?_)))
 refine T.seq (T.cond true (by kernel_rfl) (by kernel_rfl) (fun _ => ?_) (fun h => Bool.noConfusion h))
 refine T.skip_code ?_
 refine T.seq (T.block (T.sr ?_))
 refine T.l (.pointer (some ((sadr (cutA A (l.length + 3) l.length 6)).add ((0 : Int).toNat * 6)))) (fun w' hh => exec_indexAddr (e := 30) (s := 6) (n := 3) (c := 3) (iv := (0 : Int)) (k := .i64) rfl rfl rfl (by kernel_rfl) (by kernel_rfl) (by decide) (by decide) ((SlOk.cut (hh.row_slOk (i := 0) (by rfl)) hcut).some_ (k := 0) rfl (by decide))) ?_
 refine T.l (.agg #[vi 0, vi 0, vi 0, vi 77, vi 0, .string (ByteArray.mk #[109, 97, 114, 107])]) (fun w' hh => exec_loadN (cs := [vi 0, vi 0, vi 0, vi 77, vi 0, .string (ByteArray.mk #[109, 97, 114, 107])]) rfl rfl (by kernel_rfl) (by kernel_rfl) (fun j u hj => SlOk.wcellF (E := eElem) (SlOk.cut (hh.row_slOk (i := 0) (by rfl)) hcut) (k := 0) (x := mkER) rfl j (fun _ _ _ h => h) hj)) ?_
 refine T.step (W1.np 30 [vi 0, vi 0, vi 0, vi 0, vi 0, .string (ByteArray.mk #[])] (fun b0 => ?_))
 refine T.step (W1.st 0 [vi 0, vi 0, vi 0, vi 77, vi 0, .string (ByteArray.mk #[109, 97, 114, 107])] (box b0 30 [vi 0, vi 0, vi 0, vi 77, vi 0, .string (ByteArray.mk #[109, 97, 114, 107])] :: row 30 eElem A (l.length + 3) (l ++ [mkER, mkER, mkER]) :: G) [vi 0, vi 0, vi 0, vi 77, vi 0, .string (ByteArray.mk #[109, 97, 114, 107])] (T.nil ?_))
 refine T.seq (T.held [box b0 30 [vi 0, vi 0, vi 0, vi 77, vi 0, .string (ByteArray.mk #[109, 97, 114, 107])]] (by kernel_rfl) ?_)
 refine TA.tk 0 (.agg #[vi 0, vi 0, vi 0, vi 77, vi 0, .string (ByteArray.mk #[109, 97, 114, 107])]) rfl (Hp.old vr hb0 (kp1 kp0) (oB1 ol0)) (ldN 0) ?_
 refine TA.j 1 rfl (W1.w1 (vAg eElem) mkER 5 #[] (fun w' hh => annalkeep_mark_l mkER rfl w') ?_)
 intro u V0 hV0 hu
 obtain rfl := sureElem _ _ _ hu
 have hb1 := vt hb0 hV0
 refine TA.on (Hp.old hV0 hb0 (kp1 kp0) (oB1 ol0)) ?_
 refine TA.tp 2 (.bool false) rfl (Hp.old hV0 hb0 (kp1 kp0) (oB1 ol0)) ?_
 refine TA.d ?_
 refine T.cond false (by kernel_rfl) (by kernel_rfl) (fun h => Bool.noConfusion h) (fun _ => ?_)
 refine T.skip_code ?_
 refine T.region (T.k2 (vi 1) (vi 1) (T.nil ?_))
 refine T.round (T.sr (T.k (.bool true) (T.nil ?_)))
 refine T.seq (T.cond true (by kernel_rfl) (by kernel_rfl) (fun _ => ?_) (fun h => Bool.noConfusion h))
 refine T.skip_code ?_
 refine T.seq (T.block (T.sr ?_))
 refine T.l (.pointer (some ((sadr (cutA A (l.length + 3) l.length 6)).add ((1 : Int).toNat * 6)))) (fun w' hh => exec_indexAddr (e := 30) (s := 6) (n := 3) (c := 3) (iv := (1 : Int)) (k := .i64) rfl rfl rfl (by kernel_rfl) (by kernel_rfl) (by decide) (by decide) ((SlOk.cut (hh.row_slOk (i := 1) (by rfl)) hcut).some_ (k := 1) rfl (by decide))) ?_
 refine T.l (.agg #[vi 0, vi 0, vi 0, vi 77, vi 0, .string (ByteArray.mk #[109, 97, 114, 107])]) (fun w' hh => exec_loadN (cs := [vi 0, vi 0, vi 0, vi 77, vi 0, .string (ByteArray.mk #[109, 97, 114, 107])]) rfl rfl (by kernel_rfl) (by kernel_rfl) (fun j u hj => SlOk.wcellF (E := eElem) (SlOk.cut (hh.row_slOk (i := 1) (by rfl)) hcut) (k := 1) (x := mkER) rfl j (fun _ _ _ h => h) hj)) ?_
 refine T.step (W1.np 30 [vi 0, vi 0, vi 0, vi 0, vi 0, .string (ByteArray.mk #[])] (fun b1 => ?_))
 refine T.step (W1.st 0 [vi 0, vi 0, vi 0, vi 77, vi 0, .string (ByteArray.mk #[109, 97, 114, 107])] (box b1 30 [vi 0, vi 0, vi 0, vi 77, vi 0, .string (ByteArray.mk #[109, 97, 114, 107])] :: box b0 30 [vi 0, vi 0, vi 0, vi 77, vi 0, .string (ByteArray.mk #[109, 97, 114, 107])] :: row 30 eElem A (l.length + 3) (l ++ [mkER, mkER, mkER]) :: G) [vi 0, vi 0, vi 0, vi 77, vi 0, .string (ByteArray.mk #[109, 97, 114, 107])] (T.nil ?_))
 refine T.seq (T.held [box b1 30 [vi 0, vi 0, vi 0, vi 77, vi 0, .string (ByteArray.mk #[109, 97, 114, 107])]] (by kernel_rfl) ?_)
 refine TA.tk 0 (.agg #[vi 0, vi 0, vi 0, vi 77, vi 0, .string (ByteArray.mk #[109, 97, 114, 107])]) rfl (Hp.old vr hb1 (kp1 kp0) (oB1 ol0)) (ldN 0) ?_
 refine TA.j 1 rfl (W1.w1 (vAg eElem) mkER 5 #[] (fun w' hh => annalkeep_mark_l mkER rfl w') ?_)
 intro u V1 hV1 hu
 obtain rfl := sureElem _ _ _ hu
 have hb2 := vt hb1 hV1
 refine TA.on (Hp.old hV1 hb1 (kp1 kp0) (oB1 ol0)) ?_
 refine TA.tp 2 (.bool false) rfl (Hp.old hV1 hb1 (kp1 kp0) (oB1 ol0)) ?_
 refine TA.d ?_
 refine T.cond false (by kernel_rfl) (by kernel_rfl) (fun h => Bool.noConfusion h) (fun _ => ?_)
 refine T.skip_code ?_
 refine T.region (T.k2 (vi 2) (vi 2) (T.nil ?_))
 refine T.round (T.sr (T.k (.bool true) (T.nil ?_)))
 refine T.seq (T.cond true (by kernel_rfl) (by kernel_rfl) (fun _ => ?_) (fun h => Bool.noConfusion h))
 refine T.skip_code ?_
 refine T.seq (T.block (T.sr ?_))
 refine T.l (.pointer (some ((sadr (cutA A (l.length + 3) l.length 6)).add ((2 : Int).toNat * 6)))) (fun w' hh => exec_indexAddr (e := 30) (s := 6) (n := 3) (c := 3) (iv := (2 : Int)) (k := .i64) rfl rfl rfl (by kernel_rfl) (by kernel_rfl) (by decide) (by decide) ((SlOk.cut (hh.row_slOk (i := 2) (by rfl)) hcut).some_ (k := 2) rfl (by decide))) ?_
 refine T.l (.agg #[vi 0, vi 0, vi 0, vi 77, vi 0, .string (ByteArray.mk #[109, 97, 114, 107])]) (fun w' hh => exec_loadN (cs := [vi 0, vi 0, vi 0, vi 77, vi 0, .string (ByteArray.mk #[109, 97, 114, 107])]) rfl rfl (by kernel_rfl) (by kernel_rfl) (fun j u hj => SlOk.wcellF (E := eElem) (SlOk.cut (hh.row_slOk (i := 2) (by rfl)) hcut) (k := 2) (x := mkER) rfl j (fun _ _ _ h => h) hj)) ?_
 refine T.step (W1.np 30 [vi 0, vi 0, vi 0, vi 0, vi 0, .string (ByteArray.mk #[])] (fun b2 => ?_))
 refine T.step (W1.st 0 [vi 0, vi 0, vi 0, vi 77, vi 0, .string (ByteArray.mk #[109, 97, 114, 107])] (box b2 30 [vi 0, vi 0, vi 0, vi 77, vi 0, .string (ByteArray.mk #[109, 97, 114, 107])] :: box b1 30 [vi 0, vi 0, vi 0, vi 77, vi 0, .string (ByteArray.mk #[109, 97, 114, 107])] :: box b0 30 [vi 0, vi 0, vi 0, vi 77, vi 0, .string (ByteArray.mk #[109, 97, 114, 107])] :: row 30 eElem A (l.length + 3) (l ++ [mkER, mkER, mkER]) :: G) [vi 0, vi 0, vi 0, vi 77, vi 0, .string (ByteArray.mk #[109, 97, 114, 107])] (T.nil ?_))
 refine T.seq (T.held [box b2 30 [vi 0, vi 0, vi 0, vi 77, vi 0, .string (ByteArray.mk #[109, 97, 114, 107])]] (by kernel_rfl) ?_)
 refine TA.tk 0 (.agg #[vi 0, vi 0, vi 0, vi 77, vi 0, .string (ByteArray.mk #[109, 97, 114, 107])]) rfl (Hp.old vr hb2 (kp1 kp0) (oB1 ol0)) (ldN 0) ?_
 refine TA.j 1 rfl (W1.w1 (vAg eElem) mkER 5 #[] (fun w' hh => annalkeep_mark_l mkER rfl w') ?_)
 intro u V2 hV2 hu
 obtain rfl := sureElem _ _ _ hu
 have hb3 := vt hb2 hV2
 refine TA.on (Hp.old hV2 hb2 (kp1 kp0) (oB1 ol0)) ?_
 refine TA.tp 2 (.bool false) rfl (Hp.old hV2 hb2 (kp1 kp0) (oB1 ol0)) ?_
 refine TA.d ?_
 refine T.cond false (by kernel_rfl) (by kernel_rfl) (fun h => Bool.noConfusion h) (fun _ => ?_)
 refine T.skip_code ?_
 refine T.region (T.k2 (vi 3) (vi 3) (T.nil ?_))
 refine T.round (T.sr (T.k (.bool false) (T.nil ?_)))
 refine T.seq (T.cond false (by kernel_rfl) (by kernel_rfl) (fun h => Bool.noConfusion h) (fun _ => ?_))
 refine T.exit ?_
 refine T.sr (T.k (.bool true) (T.nil ?_))
 refine T.ret rfl ?_
 exact T.ret1 rfl (rT rfl) fun w' hh => ⟨rfl, V2, vt (vt hV0 hV1) hV2, hh.sub (dr3 kpr)⟩
theorem set_app {α : Type} (l m : List α) (k : Nat) (x : α) : (l ++ m).set (l.length + k) x = l ++ m.set k x := by
 rw [List.set_append_right _ _ (Nat.le_add_right _ _), Nat.add_sub_cancel_left]
theorem own_roomy_Elem (l : List DElem) (x : DElem) (A : Option Addr) (c : Nat) (w : World) (hs : SlOk (vw w) eElem A c l) (hr : room ((l.length : Int) + 3).toNat 56 = true) (hm : ((l.length : Int) + 3).toNat ≤ maxLen) :
 Calls Try.prog 4 #[.slice A l.length c, .agg #[.int .i64 x.key.pfs, .int .i64 x.key.obj, .int .i64 x.key.off, .int .i64 x.made, .int .i64 x.gone, .string x.val]] w
  (fun e w' => ∃ p : Option Addr, e = .returned (.slice p l.length (l.length + 3)) ∧ True ∧ Gives w w' [row 30 eElem p (l.length + 3) (l ++ [x, x, x])]) := by
 have hN : ((l.length : Int) + 3).toNat = l.length + 3 := by omega
 rw [hN] at hr hm
 have hM : l.length + 3 ≤ 9223372036854775807 := Nat.le_trans hm (by decide)
 have hw3 : IntKind.i64.wrap ((l.length : Int) + 3) = ((l.length + 3 : Nat) : Int) := by rw [IntKind.wrap_i64]; omega
 refine T.start (l := [.slice A l.length c, .agg #[vi x.key.pfs, vi x.key.obj, vi x.key.off, vi x.made, vi x.gone, .string x.val]]) Try.func4 rfl rfl rfl ?_
 refine T.sr (T.step (W1.np 30 x.cells (fun b => T.k sN (T.nil ?_))))
 refine T.sr (T.k3 (.slice A l.length c) (vi (l.length : Int)) (vi (IntKind.i64.wrap ((l.length : Int) + 3))) ?_)
 refine T.reslot 9 (vi ((l.length + 3 : Nat) : Int)) rfl (by rw [hw3]) ?_
 obtain ⟨ti, hti, hz1, hz2, hz3⟩ := info_parts (P := Try.prog) (e := 30) (z := .agg #[vi 0, vi 0, vi 0, vi 0, vi 0, .string (ByteArray.mk #[])]) (size := 6) (bytes := 56) (by kernel_rfl)
 refine T.step (W1.makeC (E := eElem) 0 (l.length + 3) (DElem.mk (DKey.mk 0 0 0) 0 0 (ByteArray.mk #[])) _ _ .i64 .i64 56 ti _ (by kernel_rfl) rfl (by kernel_rfl) hti hz1 hz2 hz3 rfl rfl (by omega) (fun _ => rfl) rfl hr hm (fun g => ?_))
 refine T.k (.slice A l.length c) ?_
 refine T.step (W1.appendIn (E := eElem) (l := List.replicate (l.length + 3) (DElem.mk (DKey.mk 0 0 0) 0 0 (ByteArray.mk #[]))) (m := l) 0 0 _ _ ti (by rfl) (by rw [List.length_replicate]; omega) (by kernel_rfl) rfl (by kernel_rfl) hti hz2 (by decide) rfl rfl (fun w' hh => SlOk.sF (SlOk.mono hs hh.view)) ?_)
 refine T.reH (H' := (row 30 eElem (some ⟨g, 0, none⟩) (l.length + 3) (l ++ [(DElem.mk (DKey.mk 0 0 0) 0 0 (ByteArray.mk #[])), (DElem.mk (DKey.mk 0 0 0) 0 0 (ByteArray.mk #[])), (DElem.mk (DKey.mk 0 0 0) 0 0 (ByteArray.mk #[]))]) :: box b 30 x.cells :: [])) (by
  have e : over (List.replicate (l.length + 3) (DElem.mk (DKey.mk 0 0 0) 0 0 (ByteArray.mk #[]))) 0 l = (l ++ [(DElem.mk (DKey.mk 0 0 0) 0 0 (ByteArray.mk #[])), (DElem.mk (DKey.mk 0 0 0) 0 0 (ByteArray.mk #[])), (DElem.mk (DKey.mk 0 0 0) 0 0 (ByteArray.mk #[]))]) := by
   unfold over
   rw [List.take_zero, List.nil_append, Nat.zero_add, List.drop_replicate, Nat.add_sub_cancel_left]; rfl
  rw [← e]; rfl) ?_
 refine T.reslot 12 (.slice (some ⟨g, 0, none⟩) l.length (l.length + 3)) rfl (by rw [Nat.zero_add]) ?_
 refine T.k (.slice (some ⟨g, 0, none⟩) l.length (l.length + 3)) (T.nil ?_)
 refine T.seq (T.sr (T.k (vi 0) (T.nil ?_)))
 refine T.block (T.rounds 4 ?_)
 have hwk0 : IntKind.i64.wrap ((l.length : Int) + 0) = ((l.length + 0 : Nat) : Int) := by rw [IntKind.wrap_i64]; omega
 refine T.round (T.sr (T.k (.bool true) (T.nil ?_)))
 refine T.seq (T.cond true (by kernel_rfl) (by kernel_rfl) (fun _ => ?_) (fun h => Bool.noConfusion h))
 refine T.skip_code ?_
 refine T.seq (T.block (T.sr (T.k2 (vi 0) (vi 0) (T.nil ?_))))
 refine T.held [box b 30 x.cells] (by kernel_rfl) ?_
 refine TA.tp 0 (.slice (some ⟨g, 0, none⟩) l.length (l.length + 3)) rfl (Hp.old vr vr (dr1 (kp1 kp0)) (oB1 ol0)) ?_
 refine TA.tp 1 (.slice A l.length c) rfl (Hp.old vr vr (dr1 (kp1 kp0)) (oB1 ol0)) ?_
 refine TA.tp 2 (vi (l.length : Int)) rfl (Hp.old vr vr (dr1 (kp1 kp0)) (oB1 ol0)) ?_
 refine TA.tp 3 (vi (IntKind.i64.wrap ((l.length : Int) + 3))) rfl (Hp.old vr vr (dr1 (kp1 kp0)) (oB1 ol0)) ?_
 refine T.reslot 19 (vi ((l.length + 3 : Nat) : Int)) rfl (by rw [hw3]) ?_
 refine TA.tk 4 (.slice (cutA (some ⟨g, 0, none⟩) (l.length + 3) 0 6) (l.length + 3) (l.length + 3)) rfl (Hp.old vr vr (dr1 (kp1 kp0)) (oB1 ol0)) (fun w' hh => exec_slice_cap (e := 30) (s := 6) (lx := none) (hx := some _) (lo := 0) (hi := ((l.length + 3 : Nat) : Int)) (k := .i64) (k' := .i64) rfl rfl (by kernel_rfl) (by kernel_rfl) rfl rfl (by omega) (by omega) (by omega)) ?_
 refine T.reslot 20 (.slice (some ⟨g, 0, none⟩) (l.length + 3) (l.length + 3)) rfl (by rw [cutA_zero]) ?_
 refine TA.tp 5 (.slice A l.length c) rfl (Hp.old vr vr (dr1 (kp1 kp0)) (oB1 ol0)) ?_
 refine TA.tp 6 (vi (l.length : Int)) rfl (Hp.old vr vr (dr1 (kp1 kp0)) (oB1 ol0)) ?_
 refine TA.tp 7 (vi 0) rfl (Hp.old vr vr (dr1 (kp1 kp0)) (oB1 ol0)) ?_
 refine TA.tp 8 (vi (IntKind.i64.wrap ((l.length : Int) + 0))) rfl (Hp.old vr vr (dr1 (kp1 kp0)) (oB1 ol0)) ?_
 refine T.reslot 24 (vi ((l.length + 0 : Nat) : Int)) rfl (by rw [hwk0]) ?_
 refine TA.tk 9 (.agg #[vi x.key.pfs, vi x.key.obj, vi x.key.off, vi x.made, vi x.gone, .string x.val]) rfl (Hp.old vr vr (dr1 (kp1 kp0)) (oB1 ol0)) (ldN 0) ?_
 refine TA.tk 10 (.pointer (some ((sadr (some ⟨g, 0, none⟩)).add ((((l.length + 0 : Nat) : Int)).toNat * 6)))) rfl (Hp.old vr vr (dr1 (kp1 kp0)) (oB1 ol0)) (fun w' hh => exec_indexAddr (e := 30) (s := 6) (n := l.length + 3) (c := l.length + 3) (iv := ((l.length + 0 : Nat) : Int)) (k := .i64) rfl rfl rfl (by kernel_rfl) (by kernel_rfl) (by omega) (by omega) rfl) ?_
 refine TA.j 11 rfl (W1.storeRow (E := eElem) 0 (l.length + 0) 0 (DElem.mk (DKey.mk 0 0 0) 0 0 (ByteArray.mk #[])) x _ (vs := x.cells) (by rfl) (by kernel_rfl) rfl rfl (by rw [addr_add0]; rfl) rfl rfl (fun _ => by kernel_rfl) (one_elem x) (by rw [List.getElem?_append_right (Nat.le_add_right _ _), Nat.add_sub_cancel_left]; rfl) (Nat.le_of_ble_eq_true rfl) (fun V cs h => by
  have h' : cs = DElem.cells (DElem.mk (DKey.mk 0 0 0) 0 0 (ByteArray.mk #[])) := h
  subst h'; rfl) ?_)
 refine T.reH (H' := (row 30 eElem (some ⟨g, 0, none⟩) (l.length + 3) (l ++ [x, (DElem.mk (DKey.mk 0 0 0) 0 0 (ByteArray.mk #[])), (DElem.mk (DKey.mk 0 0 0) 0 0 (ByteArray.mk #[]))]) :: box b 30 x.cells :: [])) (by
  have e : (l ++ [(DElem.mk (DKey.mk 0 0 0) 0 0 (ByteArray.mk #[])), (DElem.mk (DKey.mk 0 0 0) 0 0 (ByteArray.mk #[])), (DElem.mk (DKey.mk 0 0 0) 0 0 (ByteArray.mk #[]))]).set (l.length + 0) x = (l ++ [x, (DElem.mk (DKey.mk 0 0 0) 0 0 (ByteArray.mk #[])), (DElem.mk (DKey.mk 0 0 0) 0 0 (ByteArray.mk #[]))]) := set_app _ _ _ _
  rw [← e]; rfl) ?_
 refine TA.on (Hp.old vr vr (dr1 (kp1 kp0)) (oB1 ol0)) ?_
 refine TA.d ?_
 refine T.region (T.k2 (vi 1) (vi 1) (T.nil ?_))
 have hwk1 : IntKind.i64.wrap ((l.length : Int) + 1) = ((l.length + 1 : Nat) : Int) := by rw [IntKind.wrap_i64]; omega
 refine T.round (T.sr (T.k (.bool true) (T.nil ?_)))
 refine T.seq (T.cond true (by kernel_rfl) (by kernel_rfl) (fun _ => ?_) (fun h => Bool.noConfusion h))
 refine T.skip_code ?_
 refine T.seq (T.block (T.sr (T.k2 (vi 1) (vi 1) (T.nil ?_))))
 refine T.held [box b 30 x.cells] (by kernel_rfl) ?_
 refine TA.tp 0 (.slice (some ⟨g, 0, none⟩) l.length (l.length + 3)) rfl (Hp.old vr vr (dr1 (kp1 kp0)) (oB1 ol0)) ?_
 refine TA.tp 1 (.slice A l.length c) rfl (Hp.old vr vr (dr1 (kp1 kp0)) (oB1 ol0)) ?_
 refine TA.tp 2 (vi (l.length : Int)) rfl (Hp.old vr vr (dr1 (kp1 kp0)) (oB1 ol0)) ?_
 refine TA.tp 3 (vi (IntKind.i64.wrap ((l.length : Int) + 3))) rfl (Hp.old vr vr (dr1 (kp1 kp0)) (oB1 ol0)) ?_
 refine T.reslot 19 (vi ((l.length + 3 : Nat) : Int)) rfl (by rw [hw3]) ?_
 refine TA.tk 4 (.slice (cutA (some ⟨g, 0, none⟩) (l.length + 3) 0 6) (l.length + 3) (l.length + 3)) rfl (Hp.old vr vr (dr1 (kp1 kp0)) (oB1 ol0)) (fun w' hh => exec_slice_cap (e := 30) (s := 6) (lx := none) (hx := some _) (lo := 0) (hi := ((l.length + 3 : Nat) : Int)) (k := .i64) (k' := .i64) rfl rfl (by kernel_rfl) (by kernel_rfl) rfl rfl (by omega) (by omega) (by omega)) ?_
 refine T.reslot 20 (.slice (some ⟨g, 0, none⟩) (l.length + 3) (l.length + 3)) rfl (by rw [cutA_zero]) ?_
 refine TA.tp 5 (.slice A l.length c) rfl (Hp.old vr vr (dr1 (kp1 kp0)) (oB1 ol0)) ?_
 refine TA.tp 6 (vi (l.length : Int)) rfl (Hp.old vr vr (dr1 (kp1 kp0)) (oB1 ol0)) ?_
 refine TA.tp 7 (vi 1) rfl (Hp.old vr vr (dr1 (kp1 kp0)) (oB1 ol0)) ?_
 refine TA.tp 8 (vi (IntKind.i64.wrap ((l.length : Int) + 1))) rfl (Hp.old vr vr (dr1 (kp1 kp0)) (oB1 ol0)) ?_
 refine T.reslot 24 (vi ((l.length + 1 : Nat) : Int)) rfl (by rw [hwk1]) ?_
 refine TA.tk 9 (.agg #[vi x.key.pfs, vi x.key.obj, vi x.key.off, vi x.made, vi x.gone, .string x.val]) rfl (Hp.old vr vr (dr1 (kp1 kp0)) (oB1 ol0)) (ldN 0) ?_
 refine TA.tk 10 (.pointer (some ((sadr (some ⟨g, 0, none⟩)).add ((((l.length + 1 : Nat) : Int)).toNat * 6)))) rfl (Hp.old vr vr (dr1 (kp1 kp0)) (oB1 ol0)) (fun w' hh => exec_indexAddr (e := 30) (s := 6) (n := l.length + 3) (c := l.length + 3) (iv := ((l.length + 1 : Nat) : Int)) (k := .i64) rfl rfl rfl (by kernel_rfl) (by kernel_rfl) (by omega) (by omega) rfl) ?_
 refine TA.j 11 rfl (W1.storeRow (E := eElem) 0 (l.length + 1) 0 (DElem.mk (DKey.mk 0 0 0) 0 0 (ByteArray.mk #[])) x _ (vs := x.cells) (by rfl) (by kernel_rfl) rfl rfl (by rw [addr_add0]; rfl) rfl rfl (fun _ => by kernel_rfl) (one_elem x) (by rw [List.getElem?_append_right (Nat.le_add_right _ _), Nat.add_sub_cancel_left]; rfl) (Nat.le_of_ble_eq_true rfl) (fun V cs h => by
  have h' : cs = DElem.cells (DElem.mk (DKey.mk 0 0 0) 0 0 (ByteArray.mk #[])) := h
  subst h'; rfl) ?_)
 refine T.reH (H' := (row 30 eElem (some ⟨g, 0, none⟩) (l.length + 3) (l ++ [x, x, (DElem.mk (DKey.mk 0 0 0) 0 0 (ByteArray.mk #[]))]) :: box b 30 x.cells :: [])) (by
  have e : (l ++ [x, (DElem.mk (DKey.mk 0 0 0) 0 0 (ByteArray.mk #[])), (DElem.mk (DKey.mk 0 0 0) 0 0 (ByteArray.mk #[]))]).set (l.length + 1) x = (l ++ [x, x, (DElem.mk (DKey.mk 0 0 0) 0 0 (ByteArray.mk #[]))]) := set_app _ _ _ _
  rw [← e]; rfl) ?_
 refine TA.on (Hp.old vr vr (dr1 (kp1 kp0)) (oB1 ol0)) ?_
 refine TA.d ?_
 refine T.region (T.k2 (vi 2) (vi 2) (T.nil ?_))
 have hwk2 : IntKind.i64.wrap ((l.length : Int) + 2) = ((l.length + 2 : Nat) : Int) := by rw [IntKind.wrap_i64]; omega
 refine T.round (T.sr (T.k (.bool true) (T.nil ?_)))
 refine T.seq (T.cond true (by kernel_rfl) (by kernel_rfl) (fun _ => ?_) (fun h => Bool.noConfusion h))
 refine T.skip_code ?_
 refine T.seq (T.block (T.sr (T.k2 (vi 2) (vi 2) (T.nil ?_))))
 refine T.held [box b 30 x.cells] (by kernel_rfl) ?_
 refine TA.tp 0 (.slice (some ⟨g, 0, none⟩) l.length (l.length + 3)) rfl (Hp.old vr vr (dr1 (kp1 kp0)) (oB1 ol0)) ?_
 refine TA.tp 1 (.slice A l.length c) rfl (Hp.old vr vr (dr1 (kp1 kp0)) (oB1 ol0)) ?_
 refine TA.tp 2 (vi (l.length : Int)) rfl (Hp.old vr vr (dr1 (kp1 kp0)) (oB1 ol0)) ?_
 refine TA.tp 3 (vi (IntKind.i64.wrap ((l.length : Int) + 3))) rfl (Hp.old vr vr (dr1 (kp1 kp0)) (oB1 ol0)) ?_
 refine T.reslot 19 (vi ((l.length + 3 : Nat) : Int)) rfl (by rw [hw3]) ?_
 refine TA.tk 4 (.slice (cutA (some ⟨g, 0, none⟩) (l.length + 3) 0 6) (l.length + 3) (l.length + 3)) rfl (Hp.old vr vr (dr1 (kp1 kp0)) (oB1 ol0)) (fun w' hh => exec_slice_cap (e := 30) (s := 6) (lx := none) (hx := some _) (lo := 0) (hi := ((l.length + 3 : Nat) : Int)) (k := .i64) (k' := .i64) rfl rfl (by kernel_rfl) (by kernel_rfl) rfl rfl (by omega) (by omega) (by omega)) ?_
 refine T.reslot 20 (.slice (some ⟨g, 0, none⟩) (l.length + 3) (l.length + 3)) rfl (by rw [cutA_zero]) ?_
 refine TA.tp 5 (.slice A l.length c) rfl (Hp.old vr vr (dr1 (kp1 kp0)) (oB1 ol0)) ?_
 refine TA.tp 6 (vi (l.length : Int)) rfl (Hp.old vr vr (dr1 (kp1 kp0)) (oB1 ol0)) ?_
 refine TA.tp 7 (vi 2) rfl (Hp.old vr vr (dr1 (kp1 kp0)) (oB1 ol0)) ?_
 refine TA.tp 8 (vi (IntKind.i64.wrap ((l.length : Int) + 2))) rfl (Hp.old vr vr (dr1 (kp1 kp0)) (oB1 ol0)) ?_
 refine T.reslot 24 (vi ((l.length + 2 : Nat) : Int)) rfl (by rw [hwk2]) ?_
 refine TA.tk 9 (.agg #[vi x.key.pfs, vi x.key.obj, vi x.key.off, vi x.made, vi x.gone, .string x.val]) rfl (Hp.old vr vr (dr1 (kp1 kp0)) (oB1 ol0)) (ldN 0) ?_
 refine TA.tk 10 (.pointer (some ((sadr (some ⟨g, 0, none⟩)).add ((((l.length + 2 : Nat) : Int)).toNat * 6)))) rfl (Hp.old vr vr (dr1 (kp1 kp0)) (oB1 ol0)) (fun w' hh => exec_indexAddr (e := 30) (s := 6) (n := l.length + 3) (c := l.length + 3) (iv := ((l.length + 2 : Nat) : Int)) (k := .i64) rfl rfl rfl (by kernel_rfl) (by kernel_rfl) (by omega) (by omega) rfl) ?_
 refine TA.j 11 rfl (W1.storeRow (E := eElem) 0 (l.length + 2) 0 (DElem.mk (DKey.mk 0 0 0) 0 0 (ByteArray.mk #[])) x _ (vs := x.cells) (by rfl) (by kernel_rfl) rfl rfl (by rw [addr_add0]; rfl) rfl rfl (fun _ => by kernel_rfl) (one_elem x) (by rw [List.getElem?_append_right (Nat.le_add_right _ _), Nat.add_sub_cancel_left]; rfl) (Nat.le_of_ble_eq_true rfl) (fun V cs h => by
  have h' : cs = DElem.cells (DElem.mk (DKey.mk 0 0 0) 0 0 (ByteArray.mk #[])) := h
  subst h'; rfl) ?_)
 refine T.reH (H' := (row 30 eElem (some ⟨g, 0, none⟩) (l.length + 3) (l ++ [x, x, x]) :: box b 30 x.cells :: [])) (by
  have e : (l ++ [x, x, (DElem.mk (DKey.mk 0 0 0) 0 0 (ByteArray.mk #[]))]).set (l.length + 2) x = (l ++ [x, x, x]) := set_app _ _ _ _
  rw [← e]; rfl) ?_
 refine TA.on (Hp.old vr vr (dr1 (kp1 kp0)) (oB1 ol0)) ?_
 refine TA.d ?_
 refine T.region (T.k2 (vi 3) (vi 3) (T.nil ?_))
 refine T.round (T.sr (T.k (.bool false) (T.nil ?_)))
 refine T.seq (T.cond false (by kernel_rfl) (by kernel_rfl) (fun h => Bool.noConfusion h) (fun _ => ?_))
 refine T.exit ?_
 refine T.sr (T.k2 (.slice (some ⟨g, 0, none⟩) l.length (l.length + 3)) (.slice (some ⟨g, 0, none⟩) l.length (l.length + 3)) (T.nil ?_))
 refine T.ret rfl ?_
 exact T.ret1 rfl (rT rfl) fun w' hh => ⟨(some ⟨g, 0, none⟩), rfl, trivial, gives_of (hh.sub (kp1 kp0)) ⟨flat_row (fun _ _ _ _ h => h), trivial⟩⟩
end Go.Proofs.Ytfbjmeehmanjnaa
