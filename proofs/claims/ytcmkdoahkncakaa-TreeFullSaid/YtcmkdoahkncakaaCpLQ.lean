/- The Go functions of group Cp compute the pure functions of that group: written by walkgen.py. Condition of each: the pure function yields a result. -/
import Derived.Test.YtcmkdoahkncakaaSh2Q
import Derived.Test.YtcmkdoahkncakaaKeyLQ
import Derived.Test.YtcmkdoahkncakaaAnyLQ
import Derived.Test.YtcmkdoahkncakaaTreeOQ
import Derived.Test.YtcmkdoahkncakaaCpFQ
import Derived.Test.YtcmkdoahkncakaaEqLQ
namespace Go.Proofs.Ytcmkdoahkncakaa
set_option linter.unusedVariables false
set_option linter.defProp false
def ipCpL_1 := info_parts (P := Try.prog) (e := 28) (z := .agg #[.int .i64 0, .int .i64 0, .int .i64 0, .int .i64 0, .int .i64 0, .string (ByteArray.mk #[])]) (size := 6) (bytes := 56) (by kernel_rfl)
def ipCpL_2 := info_parts (P := Try.prog) (e := 3) (z := .int .i64 0) (size := 1) (bytes := 8) (by kernel_rfl)
def ipCpL_3 := info_parts (P := Try.prog) (e := 43) (z := .agg #[.int .i64 0, .int .i64 0, .int .i64 0, .int .i64 0]) (size := 4) (bytes := 32) (by kernel_rfl)
def ipCpL_4 := info_parts (P := Try.prog) (e := 97) (z := .agg #[.int .i64 0, .slice none 0 0, .slice none 0 0, .slice none 0 0, .slice none 0 0]) (size := 5) (bytes := 104) (by kernel_rfl)
set_option maxRecDepth 100000 in
set_option maxHeartbeats 4000000 in
theorem node_Copy_l (p0 : DNode) (r : DNode) (hF : node_Copy p0 = some r) (w : World) (A1 : Option Addr) (c1 : Nat) (hs1 : SlOk (vw w) eElem A1 c1 p0.elems) (A2 : Option Addr) (c2 : Nat) (hs2 : SlOk (vw w) eInt A2 c2 p0.kids) (A3 : Option Addr) (c3 : Nat) (hs3 : SlOk (vw w) eSpot A3 c3 p0.seps) (A4 : Option Addr) (c4 : Nat) (hs4 : SlOk (vw w) eInt A4 c4 p0.tids) :
 Calls Try.prog 70 #[.agg #[.int .i64 p0.kind, .slice A1 p0.elems.length c1, .slice A2 p0.kids.length c2, .slice A3 p0.seps.length c3, .slice A4 p0.tids.length c4]] w (OwnNode (TreeTy.mk 28 3 43) r w) := by
 unfold node_Copy at hF
 refine T.start (l := [.agg #[vi p0.kind, .slice A1 p0.elems.length c1, .slice A2 p0.kids.length c2, .slice A3 p0.seps.length c3, .slice A4 p0.tids.length c4]]) Try.func70 rfl rfl rfl ?_
 refine T.seq (T.region ?_)
 let v2_ : List Value := [vi p0.kind, .slice A1 p0.elems.length c1, .slice A2 p0.kids.length c2, .slice A3 p0.seps.length c3, .slice A4 p0.tids.length c4]
 refine T.step (W1.np 97 v2_ (fun _ => by kernel_rfl) (fun b1 => ?_))
 let v3_ : List Value := [vi 0, sN, sN, sN, sN]
 refine T.step (W1.np 97 v3_ (fun _ => by kernel_rfl) (fun b2 => ?_))
 refine T.nil (T.seq ?_)
 let i1_ : HObj := box b1 97 v2_
 refine T.heldL 15 ((box b2 97 v3_) :: i1_ :: []) (by kernel_rfl) ?_
 refine TL.keep (Hp.old vr vr (kp1 (kp1 kp0)) (oB1 (oB1 ol0))) fun o5_ => ?_
 refine TL.tv 0 (pB b1 0) rfl (fun _ => by kernel_rfl) (fun _ _ _ h => h) o5_ ?_
 refine TL.tk 1 (vi p0.kind) [] rfl (by kernel_rfl) (fun _ _ _ h => h) o5_ (ld1 1 rfl rfl (fun _ => by kernel_rfl) (by rfl) rfl) ?_
 refine TL.tv 2 (pB b1 1) rfl (fun _ => by kernel_rfl) (fun _ _ _ h => h) o5_ ?_
 refine TL.tk 3 (.slice A1 p0.elems.length c1) [] rfl (by kernel_rfl) (fun _ _ _ h => h) o5_ (ld1 1 rfl rfl (fun _ => by kernel_rfl) (by rfl) rfl) ?_
 refine TL.tv 5 (pB b1 2) rfl (fun _ => by kernel_rfl) (fun _ _ _ h => h) o5_ ?_
 refine TL.tk 6 (.slice A2 p0.kids.length c2) [] rfl (by kernel_rfl) (fun _ _ _ h => h) o5_ (ld1 1 rfl rfl (fun _ => by kernel_rfl) (by rfl) rfl) ?_
 refine TL.tv 8 (pB b1 3) rfl (fun _ => by kernel_rfl) (fun _ _ _ h => h) o5_ ?_
 refine TL.tk 9 (.slice A3 p0.seps.length c3) [] rfl (by kernel_rfl) (fun _ _ _ h => h) o5_ (ld1 1 rfl rfl (fun _ => by kernel_rfl) (by rfl) rfl) ?_
 refine TL.tv 11 (pB b1 4) rfl (fun _ => by kernel_rfl) (fun _ _ _ h => h) o5_ ?_
 refine TL.tk 12 (.slice A4 p0.tids.length c4) [] rfl (by kernel_rfl) (fun _ _ _ h => h) o5_ (ld1 1 rfl rfl (fun _ => by kernel_rfl) (by rfl) rfl) ?_
 refine TL.all [4] (by kernel_rfl) rfl ⟨?_, trivial⟩
 refine TL.br rfl (W1.rownil 28 eElem ?_)
 obtain ⟨y1, hb1, hF⟩ := ob hF
 obtain ⟨hb1_r, hb1_m, rfl⟩ := grow_some hb1
 obtain ⟨ti, hti, hz1, hz2, hz3⟩ := ipCpL_1
 refine  (W1.append (E := eElem) (l := ([] : List DElem)) (m := p0.elems) 0 _ _ 56 ti _ (by rfl) (by kernel_rfl) rfl (by kernel_rfl) hti hz1 hz2 hz3 rfl (by decide) rfl rfl (fun w' hh => (SlOk.srcF (SlOk.mono hs1 hh.view) (fun _ _ _ _ h => h))) hb1_r hb1_m (fun A5 c5 => ?_))
 refine TL.on (Hp.old vr vr (dr1 (kp1 (kp1 kp0))) (oB1 (oB1 ol0))) ?_
 refine TL.all [7] (by kernel_rfl) rfl ⟨?_, trivial⟩
 refine TL.br rfl (W1.rownil 3 eInt ?_)
 obtain ⟨y2, hb2, hF⟩ := ob hF
 obtain ⟨hb2_r, hb2_m, rfl⟩ := grow_some hb2
 obtain ⟨ti, hti, hz1, hz2, hz3⟩ := ipCpL_2
 refine  (W1.append (E := eInt) (l := ([] : List Int)) (m := p0.kids) 0 _ _ 8 ti _ (by rfl) (by kernel_rfl) rfl (by kernel_rfl) hti hz1 hz2 hz3 rfl (by decide) rfl rfl (fun w' hh => (SlOk.srcF (SlOk.mono hs2 hh.view) (fun _ _ _ _ h => h))) hb2_r hb2_m (fun A6 c6 => ?_))
 refine TL.on (Hp.old vr vr (dr2 (kp1 (kp1 kp0))) (oB1 (oB1 ol0))) ?_
 refine TL.all [10] (by kernel_rfl) rfl ⟨?_, trivial⟩
 refine TL.br rfl (W1.rownil 43 eSpot ?_)
 obtain ⟨y3, hb3, hF⟩ := ob hF
 obtain ⟨hb3_r, hb3_m, rfl⟩ := grow_some hb3
 obtain ⟨ti, hti, hz1, hz2, hz3⟩ := ipCpL_3
 refine  (W1.append (E := eSpot) (l := ([] : List DSpot)) (m := p0.seps) 0 _ _ 32 ti _ (by rfl) (by kernel_rfl) rfl (by kernel_rfl) hti hz1 hz2 hz3 rfl (by decide) rfl rfl (fun w' hh => (SlOk.srcF (SlOk.mono hs3 hh.view) (fun _ _ _ _ h => h))) hb3_r hb3_m (fun A7 c7 => ?_))
 refine TL.on (Hp.old vr vr (dr3 (kp1 (kp1 kp0))) (oB1 (oB1 ol0))) ?_
 refine TL.all [13] (by kernel_rfl) rfl ⟨?_, trivial⟩
 refine TL.br rfl (W1.rownil 3 eInt ?_)
 obtain ⟨y4, hb4, hF⟩ := ob hF
 obtain ⟨hb4_r, hb4_m, rfl⟩ := grow_some hb4
 obtain ⟨ti, hti, hz1, hz2, hz3⟩ := ipCpL_2
 refine  (W1.append (E := eInt) (l := ([] : List Int)) (m := p0.tids) 0 _ _ 8 ti _ (by rfl) (by kernel_rfl) rfl (by kernel_rfl) hti hz1 hz2 hz3 rfl (by decide) rfl rfl (fun w' hh => (SlOk.srcF (SlOk.mono hs4 hh.view) (fun _ _ _ _ h => h))) hb4_r hb4_m (fun A8 c8 => ?_))
 refine TL.onk (Hp.old vr vr (dr4 (kp1 (kp1 kp0))) (oB1 (oB1 ol0))) fun o6_ => ?_
 refine TL.tv 14 (.agg #[vi p0.kind, .slice A5 ((([] : List DElem) ++ p0.elems).length) c5, .slice A6 ((([] : List Int) ++ p0.kids).length) c6, .slice A7 ((([] : List DSpot) ++ p0.seps).length) c7, .slice A8 ((([] : List Int) ++ p0.tids).length) c8]) rfl (fun _ => by kernel_rfl) (fun _ _ _ h => h) o6_ ?_
 refine TL.all [15] (by kernel_rfl) rfl ⟨?_, trivial⟩
 let v4_ : List Value := [vi p0.kind, .slice A5 ((([] : List DElem) ++ p0.elems).length) c5, .slice A6 ((([] : List Int) ++ p0.kids).length) c6, .slice A7 ((([] : List DSpot) ++ p0.seps).length) c7, .slice A8 ((([] : List Int) ++ p0.tids).length) c8]
 refine TL.br rfl (W1.st 4 v4_ ((row 3 eInt A8 c8 (([] : List Int) ++ p0.tids)) :: (row 43 eSpot A7 c7 (([] : List DSpot) ++ p0.seps)) :: (row 3 eInt A6 c6 (([] : List Int) ++ p0.kids)) :: (row 28 eElem A5 c5 (([] : List DElem) ++ p0.elems)) :: (box b2 97 v4_) :: i1_ :: []) v4_ (by rfl) rfl rfl rfl rfl rfl rfl (fun _ => by kernel_rfl) ?_)
 refine TL.onW (by kernel_rfl) ?_
 refine TL.done (by kernel_rfl) ?_
 cases hF
 refine T.ret rfl ?_
 exact T.ret1 rfl (ResIs.cellN 4 rfl (by rfl) (fun _ => by kernel_rfl) (fun _ => by kernel_rfl)) fun w' hh => ⟨(DHdr.mk p0.kind A5 ((([] : List DElem) ++ p0.elems).length) c5 A6 ((([] : List Int) ++ p0.kids).length) c6 A7 ((([] : List DSpot) ++ p0.seps).length) c7 A8 ((([] : List Int) ++ p0.tids).length) c8), rfl, ⟨rfl, rfl, rfl, rfl, rfl⟩, gives_of ((hh.sub (kp4 (dr1 (dr1 kp0)))).perm (pt sw2 (pt sw1 (pt sw0 (pc1 (pt sw1 (pt sw0 (pc1 (pt sw0 pz))))))))) ⟨flat_row (fun _ _ _ _ h => h), flat_row (fun _ _ _ _ h => h), flat_row (fun _ _ _ _ h => h), flat_row (fun _ _ _ _ h => h), trivial⟩⟩
set_option maxRecDepth 100000 in
set_option maxHeartbeats 4000000 in
theorem tree_Copy_l (F : Nat) (p0 : DTree) (r : DTree) (hF : tree_Copy F p0 = some r) (w : World) (A1 : Option Addr) (c1 : Nat) (hs1 : SlOk (vw w) eNode A1 c1 p0.nodes) :
 Calls Try.prog 44 #[.agg #[.int .i64 p0.root, .slice A1 p0.nodes.length c1]] w (OwnTree (TreeTy.mk 28 3 43) 97 r w) := by
 unfold tree_Copy at hF
 refine T.start (l := [.agg #[vi p0.root, .slice A1 p0.nodes.length c1]]) Try.func44 rfl rfl rfl ?_
 refine T.seq (T.region (T.step (W1.np 24 [vi p0.root, .slice A1 p0.nodes.length c1] (fun _ => by kernel_rfl) (fun b1 => ?_))))
 let v22_ : List Value := [vi 0, sN]
 refine T.step (W1.np 24 v22_ (fun _ => by kernel_rfl) (fun b2 => ?_))
 refine T.nil (T.seq (T.region (T.pk (pB b1 0) (fun _ => by kernel_rfl) (T.look (vi p0.root) (by kernel_rfl) (ld1 1 rfl rfl (fun _ => by kernel_rfl) (by rfl) rfl) ?_))))
 refine T.pk (.agg #[vi p0.root, sN]) (fun _ => by kernel_rfl) (T.step (W1.np 24 v22_ (fun _ => by kernel_rfl) (fun b3 => ?_)))
 let i7_ : HObj := box b2 24 v22_
 let v23_ : List Value := [vi p0.root, sN]
 refine T.step (W1.st 0 v23_ ((box b3 24 v23_) :: i7_ :: (box b1 24 [vi p0.root, .slice A1 p0.nodes.length c1]) :: []) v23_ (by rfl) rfl rfl rfl rfl rfl rfl (fun _ => by kernel_rfl) ?_)
 refine T.nil (T.seq (T.seq (T.region (T.pk (pB b1 1) (fun _ => by kernel_rfl) (T.look (.slice A1 p0.nodes.length c1) (by kernel_rfl) (ld1 2 rfl rfl (fun _ => by kernel_rfl) (by rfl) rfl) ?_)))))
 refine T.p2 (vi (p0.nodes.length : Int)) (vi 0) (fun _ => by kernel_rfl) (T.nil ?_)
 refine T.rownil 97 eHdr ?_
 refine T.treeNil (TreeTy.mk 28 3 43) ?_
 obtain ⟨z1, hz1, hF⟩ := ob hF
 refine T.mid (fun a w' => ∃ (hs3 : List DHdr) (A3 : Option Addr) (c3 : Nat), Fr 25 [(2, pB b2 0), (3, pB b3 0)] a ∧ Hp w (vw w) ((treeo (TreeTy.mk 28 3 43) hs3 z1) :: (row 97 eHdr A3 c3 hs3) :: (box b3 24 [vi p0.root, .slice A3 hs3.length c3]) :: i7_ :: []) w') ?_ ?_
 ·
  refine T.block ?_
  refine T.iter (fun s1 a w' => ∃ (x1 : List (Int ⊕ DNode)) (x2 : Int), s1 = (x1, x2) ∧ ∃ (hs2 : List DHdr) (A2 : Option Addr) (c2 : Nat), Fr 25 [(2, pB b2 0), (3, pB b3 0), (10, .slice A1 p0.nodes.length c1), (11, vi (p0.nodes.length : Int)), (12, vi x2)] a ∧ Hp w (vw w) ((treeo (TreeTy.mk 28 3 43) hs2 x1) :: (row 97 eHdr A2 c2 hs2) :: (box b3 24 [vi p0.root, .slice A2 hs2.length c2]) :: i7_ :: []) w') hz1 ?_ ?_
  ·
   exact fun a w' hf hh => ⟨[], 0, rfl, [], none, 0, (Fr.sel hf rfl), (hh.sub (kp4 (dr1 kp0)))⟩
  rintro s1 y1 hY1 hr1 a w' ⟨x1, x2, rfl, hs2, A2, c2, hf, hh⟩
  let i8_ : HObj := treeo (TreeTy.mk 28 3 43) hs2 x1
  let i9_ : HObj := box b3 24 [vi p0.root, .slice A2 hs2.length c2]
  let t10_ : List HObj := i9_ :: i7_ :: []
  let t11_ : List HObj := (row 97 eHdr A2 c2 hs2) :: t10_
  let t12_ : List HObj := i8_ :: t11_
  refine (?_ : T 25 w (vw w) t12_ [(2, pB b2 0), (3, pB b3 0), (10, .slice A1 p0.nodes.length c1), (11, vi (p0.nodes.length : Int)), (12, vi x2)] _) a w' hf hh
  clear hf hh
  try dsimp only at hY1
  refine T.seq (T.region (T.pk (.bool (decide (x2 < (p0.nodes.length : Int)))) (fun _ => by kernel_rfl) (T.nil (T.seq ?_))))
  refine T.cond (decide (x2 < (p0.nodes.length : Int))) (by kernel_rfl) (by kernel_rfl) (fun hc1 => ?_) (fun hc1 => ?_)
  ·
   rw [hc1, cond_true] at hY1
   refine T.skip_code ?_
   refine T.seq (T.block (T.seq ?_))
   refine T.tree 0 (by rfl) (fun ht1 => ?_)
   refine T.region ?_
   obtain ⟨e1, hb1, hY1⟩ := ob hY1
   obtain ⟨hi1, hi2, hi3⟩ := idx_some hb1
   obtain ⟨cs1, hr2, hc2⟩ := SlOk.elem hs1 hi3
   obtain ⟨A4, c4, A5, c5, A6, c6, A7, c7, rfl, hs4, hs5, hs6, hs7⟩ := hr2
   refine T.look (.pointer (some ((sadr A1).add (x2.toNat * 5)))) (by kernel_rfl) (fun w' hh => exec_indexAddr (e := 97) (s := 5) rfl rfl rfl (by kernel_rfl) (by kernel_rfl) hi1 hi2 (hs1.some_ hi3 (by decide))) ?_
   let v24_ : List Value := [vi e1.kind, .slice A4 e1.elems.length c4, .slice A5 e1.kids.length c5, .slice A6 e1.seps.length c6, .slice A7 e1.tids.length c7]
   let a28_ : Value := .agg #[vi e1.kind, .slice A4 e1.elems.length c4, .slice A5 e1.kids.length c5, .slice A6 e1.seps.length c6, .slice A7 e1.tids.length c7]
   refine T.look a28_ (by kernel_rfl) (fun w' hh => exec_loadN (cs := v24_) rfl rfl (by kernel_rfl) (by kernel_rfl) (fun j u hj => hh.cell_view (View.cell_mono vr (hc2 j u hj).2))) ?_
   refine T.step (W1.np 97 [vi 0, sN, sN, sN, sN] (fun _ => by kernel_rfl) (fun b4 => ?_))
   let i13_ : HObj := box b4 97 v24_
   refine T.step (W1.st 0 v24_ (i13_ :: t12_) v24_ (by rfl) rfl rfl rfl rfl rfl rfl (fun _ => by kernel_rfl) ?_)
   refine T.nil ?_
   refine T.heldL 5 (i13_ :: t11_) (by kernel_rfl) ?_
   refine TL.keep (Hp.old vr vr (kp1 (dr1 (kp2 (kp1 kp0)))) (oB1 (oR1 (oB1 (oB1 ol0))))) fun o30_ => ?_
   refine TL.tv 0 (pB b3 1) rfl (fun _ => by kernel_rfl) (fun _ _ _ h => h) o30_ ?_
   refine TL.tk 1 (.slice A2 hs2.length c2) [] rfl (by kernel_rfl) (fun _ _ _ h => h) o30_ (ld1 2 rfl rfl (fun _ => by kernel_rfl) (by rfl) rfl) ?_
   refine TL.tk 2 a28_ [3] rfl (by kernel_rfl) (fun _ _ _ h => h) o30_ (ldN 0 rfl rfl (fun _ => by kernel_rfl) (by rfl) rfl) ?_
   refine TL.all [3] (by kernel_rfl) rfl ⟨?_, trivial⟩
   obtain ⟨r2, hb2, hY1⟩ := ob hY1
   refine TL.br rfl (W1.callG 70 #[a28_] (fun p : DHdr => .agg p.cells.toArray) (fun p => nodeRows (TreeTy.mk 28 3 43) p r2) (fun p => Fits p r2) (by kernel_rfl) (fun _ => by kernel_rfl) (fun w' hh => node_Copy_l e1 r2 hb2 w' A4 c4 (SlOk.mono hs4 hh.view) A5 c5 (SlOk.mono hs5 hh.view) A6 c6 (SlOk.mono hs6 hh.view) A7 c7 (SlOk.mono hs7 hh.view)) ?_)
   rintro ⟨k1, A8, n1, c8, A9, n2, c9, A10, n3, c10, A11, n4, c11⟩ ⟨hn1, hn2, hn3, hn4, hn5⟩
   dsimp only at hn1 hn2 hn3 hn4 hn5
   subst hn1 hn2 hn3 hn4 hn5
   refine T.reH (H' := ((row 28 eElem A8 c8 r2.elems) :: (row 3 eInt A9 c9 r2.kids) :: (row 43 eSpot A10 c10 r2.seps) :: (row 3 eInt A11 c11 r2.tids) :: i13_ :: t12_)) (by rfl) ?_
   refine TL.on (Hp.old vr vr (dr4 (kp1 (dr1 (kp2 (kp1 kp0))))) (oB1 (oR1 (oB1 (oB1 ol0))))) ?_
   refine TL.all [4] (by kernel_rfl) rfl ⟨?_, trivial⟩
   let v25_ : List Value := [vi r2.kind, .slice A8 r2.elems.length c8, .slice A9 r2.kids.length c9, .slice A10 r2.seps.length c10, .slice A11 r2.tids.length c11]
   refine TL.br rfl (W1.ns 97 v25_ (fun _ => by kernel_rfl) (fun b5 => ?_))
   refine TL.on (Hp.old vr vr (dr5 (kp1 (dr1 (kp2 (kp1 kp0))))) (oB1 (oR1 (oB1 (oB1 ol0))))) ?_
   refine TL.all [5] (by kernel_rfl) rfl ⟨?_, trivial⟩
   obtain ⟨u1, hb3, hY1⟩ := ob hY1
   obtain ⟨hb3_r, hb3_m⟩ := roomN_some hb3
   rw [show x1.length = hs2.length from ht1.len.symm] at hb3_r hb3_m
   obtain ⟨ti, hti, hz1, hz2, hz3⟩ := ipCpL_4
   let d29_ : DHdr := DHdr.mk r2.kind A8 r2.elems.length c8 A9 r2.kids.length c9 A10 r2.seps.length c10 A11 r2.tids.length c11
   refine TL.br rfl (W1.append (E := eHdr) (l := hs2) (m := [d29_]) 7 _ _ 104 ti _ (by rfl) (by kernel_rfl) rfl (by kernel_rfl) hti hz1 hz2 hz3 rfl (by decide) rfl rfl (fun w' hh => (SlOk.srcF (slok_lit (E := eHdr) (f := DHdr.cells) [d29_] (fun _ _ => rfl) (Nat.le_of_ble_eq_true (by rfl)) (fun j => hh.cellBox (i := 0) (by rfl) j)) (fun _ _ _ _ h => h))) hb3_r hb3_m (fun A12 c12 => ?_))
   refine TL.onW (by kernel_rfl) ?_
   refine TL.takeQ 6 (pB b3 1) rfl (by kernel_rfl) (by kernel_rfl) (by kernel_rfl) (fun _ _ _ h => h) (by kernel_rfl) (by kernel_rfl) (by kernel_rfl) (fun _ => by kernel_rfl) ?_
   refine TL.all [7] (by kernel_rfl) rfl ⟨?_, trivial⟩
   let i14_ : HObj := box b5 97 v25_
   let i15_ : HObj := row 97 eHdr A12 c12 (hs2 ++ [d29_])
   let v26_ : List Value := [vi p0.root, .slice A12 ((hs2 ++ [d29_]).length) c12]
   let i16_ : HObj := box b3 24 v26_
   let t17_ : List HObj := i16_ :: i7_ :: []
   let t18_ : List HObj := i15_ :: t17_
   refine TL.br rfl (W1.st 8 v26_ (i14_ :: (row 28 eElem A8 c8 r2.elems) :: (row 3 eInt A9 c9 r2.kids) :: (row 43 eSpot A10 c10 r2.seps) :: (row 3 eInt A11 c11 r2.tids) :: i13_ :: i8_ :: t18_) [.slice A12 ((hs2 ++ [d29_]).length) c12] (by rfl) rfl rfl rfl rfl rfl rfl (fun _ => by kernel_rfl) ?_)
   refine TL.onW (by kernel_rfl) ?_
   refine TL.done (by kernel_rfl) ?_
   refine T.pushN (ty := (TreeTy.mk 28 3 43)) (h := d29_) (n := r2) (X := (i14_ :: i13_ :: t18_)) (pt sw0 (pc1 (pt sw0 (pc1 (pt sw0 (pc1 (pt sw0 (pc1 (pt sw1 (pt sw0 pz)))))))))) ⟨rfl, rfl, rfl, rfl, rfl⟩ ?_
   refine T.reH (H' := ((treeo (TreeTy.mk 28 3 43) (hs2 ++ [d29_]) (x1 ++ [.inr r2])) :: i14_ :: i13_ :: t18_)) (by rfl) ?_
   refine T.region (T.p2 (vi (IntKind.i64.wrap (x2 + 1))) (vi (IntKind.i64.wrap (x2 + 1))) (fun _ => by kernel_rfl) (T.nil ?_))
   cases hY1
   exact fun a w' hf hh => ⟨((x1 ++ [.inr r2]), IntKind.i64.wrap (x2 + 1)), rfl, (x1 ++ [.inr r2]), (IntKind.i64.wrap (x2 + 1)), rfl, (hs2 ++ [d29_]), A12, c12, (Fr.sel hf rfl), (hh.sub (kp1 (dr2 (kp2 (kp1 kp0)))))⟩
  rw [hc1, cond_false] at hY1
  refine T.exit ?_
  cases hY1
  cases (hr1 _ rfl)
  exact fun a w' hf hh => ⟨hs2, A2, c2, (Fr.sel hf rfl), (hh.sub (kp3 (kp1 kp0)))⟩
 rintro a w' ⟨hs3, A3, c3, hf, hh⟩
 let i19_ : HObj := treeo (TreeTy.mk 28 3 43) hs3 z1
 let v27_ : List Value := [vi p0.root, .slice A3 hs3.length c3]
 let i20_ : HObj := box b3 24 v27_
 refine (?_ : T 25 w (vw w) (i19_ :: (row 97 eHdr A3 c3 hs3) :: i20_ :: i7_ :: []) [(2, pB b2 0), (3, pB b3 0)] _) a w' hf hh
 clear hf hh
 refine T.seq (T.region (T.look (.agg #[vi p0.root, .slice A3 hs3.length c3]) (by kernel_rfl) (ldN 2 rfl rfl (fun _ => by kernel_rfl) (by rfl) rfl) ?_))
 let i21_ : HObj := box b2 24 v27_
 refine T.step (W1.st 3 v27_ (i19_ :: (row 97 eHdr A3 c3 hs3) :: i20_ :: i21_ :: []) v27_ (by rfl) rfl rfl rfl rfl rfl rfl (fun _ => by kernel_rfl) ?_)
 refine T.nil ?_
 obtain ⟨l1, hb4, hF⟩ := ob hF
 refine T.tree 0 (by rfl) (fun ht2 => ?_)
 have hl1 : hs3.length = l1.length := by have := ht2.len; rwa [allN_some hb4, List.length_map] at this
 refine T.reH (H' := ((treeo (TreeTy.mk 28 3 43) hs3 (l1.map Sum.inr)) :: (row 97 eHdr A3 c3 hs3) :: i20_ :: i21_ :: [])) (by simp +zetaDelta only [allN_some hb4]) ?_
 cases hF
 refine T.ret rfl ?_
 exact T.ret1 rfl (ResIs.cellN 3 rfl (by rfl) (fun _ => by kernel_rfl) (fun _ => by kernel_rfl)) fun w' hh => ⟨(A3, c3, hs3), rfl, hl1, gives_of ((hh.sub (kp2 (dr1 (dr1 kp0)))).perm (pt sw0 pz)) ⟨flat_row (fun _ _ _ _ h => h), flat_tree _ _ _, trivial⟩⟩
end Go.Proofs.Ytcmkdoahkncakaa
