/- The Go functions of group Build compute the pure functions of that group: written by walkgen.py. Condition of each: the pure function yields a result. -/
import Derived.Test.YtcmkdoahkncakaaSh2Q
import Derived.Test.YtcmkdoahkncakaaNodeLQ
import Derived.Test.YtcmkdoahkncakaaLocalQ
import Derived.Test.YtcmkdoahkncakaaBuildFQ
import Derived.Test.YtcmkdoahkncakaaEqLQ
namespace Go.Proofs.Ytcmkdoahkncakaa
set_option linter.unusedVariables false
set_option linter.defProp false
def ipBuildL_1 := info_parts (P := Try.prog) (e := 3) (z := .int .i64 0) (size := 1) (bytes := 8) (by kernel_rfl)
def ipBuildL_2 := info_parts (P := Try.prog) (e := 28) (z := .agg #[.int .i64 0, .int .i64 0, .int .i64 0, .int .i64 0, .int .i64 0, .string (ByteArray.mk #[])]) (size := 6) (bytes := 56) (by kernel_rfl)
def ipBuildL_3 := info_parts (P := Try.prog) (e := 97) (z := .agg #[.int .i64 0, .slice none 0 0, .slice none 0 0, .slice none 0 0, .slice none 0 0]) (size := 5) (bytes := 104) (by kernel_rfl)
def ipBuildL_4 := info_parts (P := Try.prog) (e := 123) (z := .agg #[.int .i64 0, .int .i64 0, .int .i64 0, .int .i64 0, .int .i64 0]) (size := 5) (bytes := 40) (by kernel_rfl)
def ipBuildL_5 := info_parts (P := Try.prog) (e := 43) (z := .agg #[.int .i64 0, .int .i64 0, .int .i64 0, .int .i64 0]) (size := 4) (bytes := 32) (by kernel_rfl)
set_option maxRecDepth 100000 in
set_option maxHeartbeats 4000000 in
theorem build_shares_l (F : Nat) (p0 : Int) (r : ((List Int))) (hF : build_shares F p0 = some r) (w : World)  :
 Calls Try.prog 72 #[.int .i64 p0] w (Post (vSc (eList eInt)) r w) := by
 unfold build_shares at hF
 refine T.start (l := [vi p0]) Try.func72 rfl rfl rfl ?_
 refine T.seq (T.region (T.pk sN (fun _ => by kernel_rfl) (T.nil (T.seq (T.region (T.p6 (vi p0) (vi (IntKind.i64.wrap (p0 + 8))) (vi (IntKind.i64.wrap ((IntKind.i64.wrap (p0 + 8)) - 1))) (vi (IntKind.i64.wrap ((IntKind.i64.wrap ((IntKind.i64.wrap (p0 + 8)) - 1) : Int).tdiv 8))) (vi (if (1 : Int) < (IntKind.i64.wrap ((IntKind.i64.wrap ((IntKind.i64.wrap (p0 + 8)) - 1) : Int).tdiv 8)) then IntKind.i64.wrap ((IntKind.i64.wrap ((IntKind.i64.wrap (p0 + 8)) - 1) : Int).tdiv 8) else 1)) (vi (if (1 : Int) < (IntKind.i64.wrap ((IntKind.i64.wrap ((IntKind.i64.wrap (p0 + 8)) - 1) : Int).tdiv 8)) then IntKind.i64.wrap ((IntKind.i64.wrap ((IntKind.i64.wrap (p0 + 8)) - 1) : Int).tdiv 8) else 1)) (fun _ => by kernel_rfl) (T.nil (T.seq (T.region (T.pk sN (fun _ => by kernel_rfl) (T.nil (T.seq (T.seq (T.region (T.p2 (vi (if (1 : Int) < (IntKind.i64.wrap ((IntKind.i64.wrap ((IntKind.i64.wrap (p0 + 8)) - 1) : Int).tdiv 8)) then IntKind.i64.wrap ((IntKind.i64.wrap ((IntKind.i64.wrap (p0 + 8)) - 1) : Int).tdiv 8) else 1)) (vi 0) (fun _ => by kernel_rfl) (T.nil ?_))))))))))))))))
 refine T.rownil 3 eInt ?_
 obtain ⟨z1, hz1, hF⟩ := ob hF
 refine T.mid (fun a w' => ∃ (A2 : Option Addr) (c2 : Nat), Fr 32 [(4, .slice A2 z1.length c2)] a ∧ Hp w (vw w) ((row 3 eInt A2 c2 z1) :: []) w') ?_ ?_
 ·
  refine T.block ?_
  refine T.iter (fun s1 a w' => ∃ (x1 : List Int) (x2 : Int), s1 = (x1, x2) ∧ ∃ (A1 : Option Addr) (c1 : Nat), Fr 32 [(0, vi p0), (3, vi (if (1 : Int) < (IntKind.i64.wrap ((IntKind.i64.wrap ((IntKind.i64.wrap (p0 + 8)) - 1) : Int).tdiv 8)) then IntKind.i64.wrap ((IntKind.i64.wrap ((IntKind.i64.wrap (p0 + 8)) - 1) : Int).tdiv 8) else 1)), (4, .slice A1 x1.length c1), (11, vi (if (1 : Int) < (IntKind.i64.wrap ((IntKind.i64.wrap ((IntKind.i64.wrap (p0 + 8)) - 1) : Int).tdiv 8)) then IntKind.i64.wrap ((IntKind.i64.wrap ((IntKind.i64.wrap (p0 + 8)) - 1) : Int).tdiv 8) else 1)), (12, vi x2)] a ∧ Hp w (vw w) ((row 3 eInt A1 c1 x1) :: []) w') hz1 ?_ ?_
  ·
   exact fun a w' hf hh => ⟨[], 0, rfl, none, 0, (Fr.sel hf rfl), (hh.sub (kp1 kp0))⟩
  rintro s1 y1 hY1 hr1 a w' ⟨x1, x2, rfl, A1, c1, hf, hh⟩
  refine (?_ : T 32 w (vw w) ((row 3 eInt A1 c1 x1) :: []) [(0, vi p0), (3, vi (if (1 : Int) < (IntKind.i64.wrap ((IntKind.i64.wrap ((IntKind.i64.wrap (p0 + 8)) - 1) : Int).tdiv 8)) then IntKind.i64.wrap ((IntKind.i64.wrap ((IntKind.i64.wrap (p0 + 8)) - 1) : Int).tdiv 8) else 1)), (4, .slice A1 x1.length c1), (11, vi (if (1 : Int) < (IntKind.i64.wrap ((IntKind.i64.wrap ((IntKind.i64.wrap (p0 + 8)) - 1) : Int).tdiv 8)) then IntKind.i64.wrap ((IntKind.i64.wrap ((IntKind.i64.wrap (p0 + 8)) - 1) : Int).tdiv 8) else 1)), (12, vi x2)] _) a w' hf hh
  clear hf hh
  try dsimp only at hY1
  refine T.seq (T.region (T.pk (.bool (decide (x2 < (if (1 : Int) < (IntKind.i64.wrap ((IntKind.i64.wrap ((IntKind.i64.wrap (p0 + 8)) - 1) : Int).tdiv 8)) then IntKind.i64.wrap ((IntKind.i64.wrap ((IntKind.i64.wrap (p0 + 8)) - 1) : Int).tdiv 8) else 1)))) (fun _ => by kernel_rfl) (T.nil (T.seq ?_))))
  refine T.cond (decide (x2 < (if (1 : Int) < (IntKind.i64.wrap ((IntKind.i64.wrap ((IntKind.i64.wrap (p0 + 8)) - 1) : Int).tdiv 8)) then IntKind.i64.wrap ((IntKind.i64.wrap ((IntKind.i64.wrap (p0 + 8)) - 1) : Int).tdiv 8) else 1))) (by kernel_rfl) (by kernel_rfl) (fun hc1 => ?_) (fun hc1 => ?_)
  ·
   rw [hc1, cond_true] at hY1
   refine T.skip_code ?_
   refine T.seq (T.block (T.seq (T.region (T.p2 (vi x2) (vi x2) (fun _ => by kernel_rfl) (T.nil ?_)))))
   refine T.held [] (by kernel_rfl) ?_
   refine TA.keep (Hp.old vr vr (dr1 kp0) ol0) fun o1_ => ?_
   refine TA.tp 0 (.slice A1 x1.length c1) rfl (fun _ => by kernel_rfl) (fun _ _ _ h => h) o1_ ?_
   refine TA.tp 1 (vi p0) rfl (fun _ => by kernel_rfl) (fun _ _ _ h => h) o1_ ?_
   refine TA.tp 2 (vi x2) rfl (fun _ => by kernel_rfl) (fun _ _ _ h => h) o1_ ?_
   refine TA.tp 3 (vi (IntKind.i64.wrap (x2 + 1))) rfl (fun _ => by kernel_rfl) (fun _ _ _ h => h) o1_ ?_
   refine TA.tp 4 (vi (IntKind.i64.wrap (p0 * (IntKind.i64.wrap (x2 + 1))))) rfl (fun _ => by kernel_rfl) (fun _ _ _ h => h) o1_ ?_
   refine TA.tp 5 (vi (if (1 : Int) < (IntKind.i64.wrap ((IntKind.i64.wrap ((IntKind.i64.wrap (p0 + 8)) - 1) : Int).tdiv 8)) then IntKind.i64.wrap ((IntKind.i64.wrap ((IntKind.i64.wrap (p0 + 8)) - 1) : Int).tdiv 8) else 1)) rfl (fun _ => by kernel_rfl) (fun _ _ _ h => h) o1_ ?_
   obtain ⟨d1, hb1, hY1⟩ := ob hY1
   refine TA.tk 6 (vi (IntKind.i64.wrap ((IntKind.i64.wrap (p0 * (IntKind.i64.wrap (x2 + 1)))).tdiv d1))) rfl (by kernel_rfl) (fun _ _ _ h => h) o1_ (fun w' hh => exec_quo rfl rfl rfl hb1) ?_
   refine TA.tp 7 (vi p0) rfl (fun _ => by kernel_rfl) (fun _ _ _ h => h) o1_ ?_
   refine TA.tp 8 (vi x2) rfl (fun _ => by kernel_rfl) (fun _ _ _ h => h) o1_ ?_
   refine TA.tp 9 (vi (IntKind.i64.wrap (p0 * x2))) rfl (fun _ => by kernel_rfl) (fun _ _ _ h => h) o1_ ?_
   refine TA.tp 10 (vi (if (1 : Int) < (IntKind.i64.wrap ((IntKind.i64.wrap ((IntKind.i64.wrap (p0 + 8)) - 1) : Int).tdiv 8)) then IntKind.i64.wrap ((IntKind.i64.wrap ((IntKind.i64.wrap (p0 + 8)) - 1) : Int).tdiv 8) else 1)) rfl (fun _ => by kernel_rfl) (fun _ _ _ h => h) o1_ ?_
   obtain ⟨d2, hb2, hY1⟩ := ob hY1
   refine TA.tk 11 (vi (IntKind.i64.wrap ((IntKind.i64.wrap (p0 * x2)).tdiv d2))) rfl (by kernel_rfl) (fun _ _ _ h => h) o1_ (fun w' hh => exec_quo rfl rfl rfl hb2) ?_
   refine TA.tp 12 (vi (IntKind.i64.wrap ((IntKind.i64.wrap ((IntKind.i64.wrap (p0 * (IntKind.i64.wrap (x2 + 1)))).tdiv d1)) - (IntKind.i64.wrap ((IntKind.i64.wrap (p0 * x2)).tdiv d2))))) rfl (fun _ => by kernel_rfl) (fun _ _ _ h => h) o1_ ?_
   refine TA.all [13] (by kernel_rfl) rfl ⟨?_, trivial⟩
   refine TA.br rfl (W1.ns 3 [vi (IntKind.i64.wrap ((IntKind.i64.wrap ((IntKind.i64.wrap (p0 * (IntKind.i64.wrap (x2 + 1)))).tdiv d1)) - (IntKind.i64.wrap ((IntKind.i64.wrap (p0 * x2)).tdiv d2))))] (fun _ => by kernel_rfl) (fun b1 => ?_))
   refine TA.on (Hp.old vr vr (dr1 (dr1 kp0)) ol0) ?_
   refine TA.all [14] (by kernel_rfl) rfl ⟨?_, trivial⟩
   obtain ⟨y2, hb3, hY1⟩ := ob hY1
   obtain ⟨hb3_r, hb3_m, rfl⟩ := grow_some hb3
   obtain ⟨ti, hti, hz1, hz2, hz3⟩ := ipBuildL_1
   refine TA.br rfl (W1.append (E := eInt) (l := x1) (m := [IntKind.i64.wrap ((IntKind.i64.wrap ((IntKind.i64.wrap (p0 * (IntKind.i64.wrap (x2 + 1)))).tdiv d1)) - (IntKind.i64.wrap ((IntKind.i64.wrap (p0 * x2)).tdiv d2)))]) 1 _ _ 8 ti _ (by rfl) (by kernel_rfl) rfl (by kernel_rfl) hti hz1 hz2 hz3 rfl (by decide) rfl rfl (fun w' hh => (SlOk.srcF (slok_lit (E := eInt) (f := (fun x => [vi x])) [IntKind.i64.wrap ((IntKind.i64.wrap ((IntKind.i64.wrap (p0 * (IntKind.i64.wrap (x2 + 1)))).tdiv d1)) - (IntKind.i64.wrap ((IntKind.i64.wrap (p0 * x2)).tdiv d2)))] (fun _ _ => rfl) (Nat.le_of_ble_eq_true (by rfl)) (fun j => hh.cellBox (i := 0) (by rfl) j)) (fun _ _ _ _ h => h))) hb3_r hb3_m (fun A3 c3 => ?_))
   refine TA.onk (Hp.old vr vr (dr1 (dr1 kp0)) ol0) fun o2_ => ?_
   refine TA.tp 15 (.slice A3 ((x1 ++ [IntKind.i64.wrap ((IntKind.i64.wrap ((IntKind.i64.wrap (p0 * (IntKind.i64.wrap (x2 + 1)))).tdiv d1)) - (IntKind.i64.wrap ((IntKind.i64.wrap (p0 * x2)).tdiv d2)))]).length) c3) rfl (fun _ => by kernel_rfl) (fun _ _ _ h => h) o2_ ?_
   refine TA.done (by kernel_rfl) ?_
   refine T.region (T.p2 (vi (IntKind.i64.wrap (x2 + 1))) (vi (IntKind.i64.wrap (x2 + 1))) (fun _ => by kernel_rfl) (T.nil ?_))
   cases hY1
   exact fun a w' hf hh => ⟨((x1 ++ [IntKind.i64.wrap ((IntKind.i64.wrap ((IntKind.i64.wrap (p0 * (IntKind.i64.wrap (x2 + 1)))).tdiv d1)) - (IntKind.i64.wrap ((IntKind.i64.wrap (p0 * x2)).tdiv d2)))]), IntKind.i64.wrap (x2 + 1)), rfl, (x1 ++ [IntKind.i64.wrap ((IntKind.i64.wrap ((IntKind.i64.wrap (p0 * (IntKind.i64.wrap (x2 + 1)))).tdiv d1)) - (IntKind.i64.wrap ((IntKind.i64.wrap (p0 * x2)).tdiv d2)))]), (IntKind.i64.wrap (x2 + 1)), rfl, A3, c3, (Fr.sel hf rfl), (hh.sub (dr1 (kp1 kp0)))⟩
  rw [hc1, cond_false] at hY1
  refine T.exit ?_
  cases hY1
  cases (hr1 _ rfl)
  exact fun a w' hf hh => ⟨A1, c1, (Fr.sel hf rfl), (hh.sub (kp1 kp0))⟩
 rintro a w' ⟨A2, c2, hf, hh⟩
 refine (?_ : T 32 w (vw w) ((row 3 eInt A2 c2 z1) :: []) [(4, .slice A2 z1.length c2)] _) a w' hf hh
 clear hf hh
 refine T.seq (T.region (T.p2 (.slice A2 z1.length c2) (.slice A2 z1.length c2) (fun _ => by kernel_rfl) (T.nil ?_)))
 cases hF
 refine T.ret rfl ?_
 exact T.ret1 rfl (ResIs.tmp rfl) fun w' hh => ⟨_, rfl, hh.below, ⟨_, _, rfl, (hh.row_fresh (i := 0) (by rfl) (fun _ h => h))⟩⟩
set_option maxRecDepth 100000 in
set_option maxHeartbeats 4000000 in
theorem build_Of_l (F : Nat) (p0 : (List DElem)) (r : DTree × Int) (hF : build_Of F p0 = some r) (w : World) (A1 : Option Addr) (c1 : Nat) (hs1 : SlOk (vw w) eElem A1 c1 p0) :
 Calls Try.prog 46 #[.slice A1 p0.length c1] w (Post (vT2 (vAg eTree) (vSc eInt)) r w) := by
 unfold build_Of at hF
 refine T.start (l := [.slice A1 p0.length c1]) Try.func46 rfl rfl rfl ?_
 refine T.seq (T.region ?_)
 let v38_ : List Value := [vi 0, sN]
 refine T.step (W1.np 24 v38_ (fun _ => by kernel_rfl) (fun b1 => ?_))
 refine T.pk (vi 0) (fun _ => by kernel_rfl) (T.nil (T.seq (T.seq (T.region (T.p3 (.slice A1 p0.length c1) (vi (p0.length : Int)) (.bool (decide ((400 : Int) < (p0.length : Int)))) (fun _ => by kernel_rfl) (T.nil ?_))))))
 refine T.cond (decide ((400 : Int) < (p0.length : Int))) (by kernel_rfl) (by kernel_rfl) (fun hc1 => ?_) (fun hc1 => ?_)
 ·
  rw [hc1, cond_true] at hF
  refine T.seq (T.region (T.pk (.agg #[vi 0, sN]) (fun _ => by kernel_rfl) (T.step (W1.st 0 v38_ ((box b1 24 v38_) :: []) v38_ (by rfl) rfl rfl rfl rfl rfl rfl (fun _ => by kernel_rfl) ?_))))
  refine T.pk (vi 2) (fun _ => by kernel_rfl) (T.nil ?_)
  cases hF
  refine T.ret rfl ?_
  exact T.ret2 rfl (ResIs.cellN 0 rfl (by rfl) (fun _ => by kernel_rfl) (fun _ => by kernel_rfl)) (ResIs.tmp rfl) fun w' hh => ⟨_, rfl, hh.below, (vT2.mk (vAg.mk ⟨_, _, rfl, (SlOk.nil _ _)⟩) (show _ from rfl))⟩
 rw [hc1, cond_false] at hF
 refine T.skip_code ?_
 refine T.seq (T.seq (T.region (T.p3 (.slice A1 p0.length c1) (vi (p0.length : Int)) (vi 0) (fun _ => by kernel_rfl) (T.nil ?_))))
 obtain ⟨q1, hz1, hF⟩ := ob hF
 let i3_ : HObj := box b1 24 v38_
 refine T.mid (fun a w' => q1 = Sum.inl () ∧ ∃ (V2 : View), View.le (vw w) V2 ∧ Fr 166 [(0, .slice A1 p0.length c1), (2, pB b1 0)] a ∧ Hp w V2 (i3_ :: []) w') ?_ ?_
 ·
  refine T.block ?_
  refine T.iter (fun x1 a w' => ∃ (V1 : View), View.le (vw w) V1 ∧ Fr 166 [(0, .slice A1 p0.length c1), (2, pB b1 0), (22, .slice A1 p0.length c1), (23, vi (p0.length : Int)), (24, vi x1)] a ∧ Hp w V1 (i3_ :: []) w') hz1 ?_ ?_
  ·
   exact fun a w' hf hh => ⟨(vw w), vr, (Fr.sel hf rfl), (hh.sub (kp1 kp0))⟩
  rintro x1 y1 hY1 hr1 a w' ⟨V1, hV1, hf, hh⟩
  refine (?_ : T 166 w V1 (i3_ :: []) [(0, .slice A1 p0.length c1), (2, pB b1 0), (22, .slice A1 p0.length c1), (23, vi (p0.length : Int)), (24, vi x1)] _) a w' hf hh
  clear hf hh
  try dsimp only at hY1
  refine T.seq (T.region (T.pk (.bool (decide (x1 < (p0.length : Int)))) (fun _ => by kernel_rfl) (T.nil (T.seq ?_))))
  refine T.cond (decide (x1 < (p0.length : Int))) (by kernel_rfl) (by kernel_rfl) (fun hc2 => ?_) (fun hc2 => ?_)
  ·
   rw [hc2, cond_true] at hY1
   refine T.skip_code ?_
   refine T.seq (T.block (T.seq (T.region (T.pk (vi x1) (fun _ => by kernel_rfl) ?_))))
   obtain ⟨e1, hb1, hY1⟩ := ob hY1
   obtain ⟨hi1, hi2, hi3⟩ := idx_some hb1
   refine T.look (.pointer (some ((sadr A1).add (x1.toNat * 6)))) (by kernel_rfl) (fun w' hh => exec_indexAddr (e := 28) (s := 6) rfl rfl rfl (by kernel_rfl) (by kernel_rfl) hi1 hi2 ((SlOk.mono hs1 hV1).some_ hi3 (by decide))) ?_
   let v39_ : List Value := [vi e1.key.pfs, vi e1.key.obj, vi e1.key.off, vi e1.made, vi e1.gone, .string e1.val]
   let a63_ : Value := .agg #[vi e1.key.pfs, vi e1.key.obj, vi e1.key.off, vi e1.made, vi e1.gone, .string e1.val]
   refine T.look a63_ (by kernel_rfl) (fun w' hh => exec_loadN (cs := v39_) rfl rfl (by kernel_rfl) (by kernel_rfl) (fun j u hj => (hh.cell_view (SlOk.cellF (E := eElem) (SlOk.mono hs1 hV1) hi3 j (fun _ _ _ h => h) hj)))) ?_
   refine T.step (W1.np 28 [vi 0, vi 0, vi 0, vi 0, vi 0, .string (ByteArray.mk #[])] (fun _ => by kernel_rfl) (fun b2 => ?_))
   refine T.pk (vi x1) (fun _ => by kernel_rfl) ?_
   let i4_ : HObj := box b2 28 v39_
   refine T.step (W1.st 0 v39_ (i4_ :: i3_ :: []) v39_ (by rfl) rfl rfl rfl rfl rfl rfl (fun _ => by kernel_rfl) ?_)
   refine T.nil (T.seq (T.seq (T.region (T.look a63_ (by kernel_rfl) (ldN 0 rfl rfl (fun _ => by kernel_rfl) (by rfl) rfl) ?_))))
   obtain ⟨r1, hb2, hY1⟩ := ob hY1
   refine T.step (W1.call (vSc eInt) r1 20 #[a63_] (by kernel_rfl) (fun _ => by kernel_rfl) (fun w' hh => elem_Check_l e1 r1 hb2 w' ) ?_)
   intro u V3 hV3 hu
   obtain rfl := sureInt _ _ _ hu
   refine T.pk (vi r1) (fun _ => by kernel_rfl) (T.nil (T.seq (T.region (T.p2 (vi r1) (.bool (r1 != 0)) (fun _ => by kernel_rfl) (T.nil ?_)))))
   refine T.cond (r1 != 0) (by kernel_rfl) (by kernel_rfl) (fun hc3 => ?_) (fun hc3 => ?_)
   ·
    rw [hc3, cond_true] at hY1
    refine T.seq (T.region (T.p2 (.agg #[vi 0, sN]) (vi r1) (fun _ => by kernel_rfl) (T.step (W1.st 1 v38_ (i4_ :: i3_ :: []) v38_ (by rfl) rfl rfl rfl rfl rfl rfl (fun _ => by kernel_rfl) ?_))))
    refine T.pk (vi r1) (fun _ => by kernel_rfl) (T.nil ?_)
    cases hY1
    cases (hr1 _ rfl)
    try dsimp only at hF
    cases hF
    refine T.ret rfl ?_
    exact T.ret2 rfl (ResIs.cellN 1 rfl (by rfl) (fun _ => by kernel_rfl) (fun _ => by kernel_rfl)) (ResIs.tmp rfl) fun w' hh => ⟨_, rfl, hh.below, (vT2.mk (vAg.mk ⟨_, _, rfl, (SlOk.nil _ _)⟩) (show _ from rfl))⟩
   rw [hc3, cond_false] at hY1
   refine T.skip_code ?_
   obtain ⟨z1, hX1, hY1⟩ := ob hY1
   refine T.cut (fun a w' => Fr 166 [(0, .slice A1 p0.length c1), (2, pB b1 0), (22, .slice A1 p0.length c1), (23, vi (p0.length : Int)), (24, vi x1), (48, .bool z1)] a ∧ Hp w V3 (i3_ :: []) w') ?_ ?_
   ·
    refine T.quiet (by kernel_rfl) (by kernel_rfl) ?_
    refine TQ.pure (vi x1) (by kernel_rfl) (fun _ => by kernel_rfl) ?_
    refine TQ.pure (.bool (decide ((0 : Int) < x1))) (by kernel_rfl) (fun _ => by kernel_rfl) ?_
    refine TQ.pure (.bool (decide ((0 : Int) < x1))) (by kernel_rfl) (fun _ => by kernel_rfl) ?_
    cases hg1 : decide ((0 : Int) < x1)
    ·
     skip
     rw [hg1, cond_false] at hX1
     refine TQ.pass (by kernel_rfl) (by kernel_rfl) ?_
     refine TQ.pass (by kernel_rfl) (by kernel_rfl) ?_
     refine TQ.pass (by kernel_rfl) (by kernel_rfl) ?_
     refine TQ.pass (by kernel_rfl) (by kernel_rfl) ?_
     refine TQ.pass (by kernel_rfl) (by kernel_rfl) ?_
     refine TQ.pass (by kernel_rfl) (by kernel_rfl) ?_
     refine TQ.pass (by kernel_rfl) (by kernel_rfl) ?_
     refine TQ.pass (by kernel_rfl) (by kernel_rfl) ?_
     refine TQ.pass (by kernel_rfl) (by kernel_rfl) ?_
     refine TQ.pass (by kernel_rfl) (by kernel_rfl) ?_
     refine TQ.pure (.bool false) (by kernel_rfl) (fun _ => by kernel_rfl) ?_
     refine TQ.nil ?_
     cases hX1
     exact fun a w' hf hh => ⟨(Fr.sel hf rfl), (hh.sub (dr1 (kp1 kp0)))⟩
    skip
    rw [hg1, cond_true] at hX1
    refine TQ.pure (.slice A1 p0.length c1) (by kernel_rfl) (fun _ => by kernel_rfl) ?_
    refine TQ.pure (vi x1) (by kernel_rfl) (fun _ => by kernel_rfl) ?_
    refine TQ.pure (vi (IntKind.i64.wrap (x1 - 1))) (by kernel_rfl) (fun _ => by kernel_rfl) ?_
    obtain ⟨e2, hb3, hX1⟩ := ob hX1
    obtain ⟨hi4, hi5, hi6⟩ := idx_some hb3
    refine TQ.look (.pointer (some ((sadr A1).add (((IntKind.i64.wrap (x1 - 1)).toNat) * 6)))) (by kernel_rfl) (fun w' hh => exec_indexAddr (e := 28) (s := 6) rfl rfl rfl (by kernel_rfl) (by kernel_rfl) hi4 hi5 ((SlOk.mono hs1 (vt hV1 hV3)).some_ hi6 (by decide))) ?_
    let a64_ : Value := .agg #[vi e2.key.pfs, vi e2.key.obj, vi e2.key.off, vi e2.made, vi e2.gone, .string e2.val]
    refine TQ.look a64_ (by kernel_rfl) (fun w' hh => exec_loadN (cs := [vi e2.key.pfs, vi e2.key.obj, vi e2.key.off, vi e2.made, vi e2.gone, .string e2.val]) rfl rfl (by kernel_rfl) (by kernel_rfl) (fun j u hj => (hh.cell_view (SlOk.cellF (E := eElem) (SlOk.mono hs1 (vt hV1 hV3)) hi6 j (fun _ _ _ h => h) hj)))) ?_
    obtain ⟨r2, hb4, hX1⟩ := ob hX1
    let a65_ : Value := .agg #[vi r2.key.pfs, vi r2.key.obj, vi r2.key.off, vi r2.made]
    refine TQ.call (vAg eSpot) r2 22 #[a64_] a65_ (fun V u hu => sureSpot V u _ hu) (by kernel_rfl) (fun _ => by kernel_rfl) (fun w' hh => elem_Spot_l e2 r2 hb4 w' ) ?_
    refine TQ.look a63_ (by kernel_rfl) (ldN 0 rfl rfl (fun _ => by kernel_rfl) (by rfl) rfl) ?_
    obtain ⟨r3, hb5, hX1⟩ := ob hX1
    let a66_ : Value := .agg #[vi r3.key.pfs, vi r3.key.obj, vi r3.key.off, vi r3.made]
    refine TQ.call (vAg eSpot) r3 22 #[a63_] a66_ (fun V u hu => sureSpot V u _ hu) (by kernel_rfl) (fun _ => by kernel_rfl) (fun w' hh => elem_Spot_l e1 r3 hb5 w' ) ?_
    obtain ⟨r4, hb6, hX1⟩ := ob hX1
    refine TQ.call (vSc eInt) r4 62 #[a65_, a66_] (vi r4) (fun V u hu => sureInt V u _ hu) (by kernel_rfl) (fun _ => by kernel_rfl) (fun w' hh => key_CmpSpot_l r2 r3 r4 hb6 w' ) ?_
    refine TQ.pure (.bool (decide ((0 : Int) ≤ r4))) (by kernel_rfl) (fun _ => by kernel_rfl) ?_
    refine TQ.pure (.bool (decide ((0 : Int) ≤ r4))) (by kernel_rfl) (fun _ => by kernel_rfl) ?_
    refine TQ.nil ?_
    cases hX1
    exact fun a w' hf hh => ⟨(Fr.sel hf rfl), (hh.sub (dr1 (kp1 kp0)))⟩
   rintro a w' ⟨hf, hh⟩
   refine (?_ : T 166 w V3 (i3_ :: []) [(0, .slice A1 p0.length c1), (2, pB b1 0), (22, .slice A1 p0.length c1), (23, vi (p0.length : Int)), (24, vi x1), (48, .bool z1)] _) a w' hf hh
   clear hf hh
   refine T.cond z1 (by kernel_rfl) (by kernel_rfl) (fun hc4 => ?_) (fun hc4 => ?_)
   ·
    rw [hc4, cond_true] at hY1
    refine T.seq (T.region (T.pk (.agg #[vi 0, sN]) (fun _ => by kernel_rfl) (T.step (W1.st 0 v38_ (i3_ :: []) v38_ (by rfl) rfl rfl rfl rfl rfl rfl (fun _ => by kernel_rfl) ?_))))
    refine T.pk (vi 3) (fun _ => by kernel_rfl) (T.nil ?_)
    cases hY1
    cases (hr1 _ rfl)
    try dsimp only at hF
    cases hF
    refine T.ret rfl ?_
    exact T.ret2 rfl (ResIs.cellN 0 rfl (by rfl) (fun _ => by kernel_rfl) (fun _ => by kernel_rfl)) (ResIs.tmp rfl) fun w' hh => ⟨_, rfl, hh.below, (vT2.mk (vAg.mk ⟨_, _, rfl, (SlOk.nil _ _)⟩) (show _ from rfl))⟩
   rw [hc4, cond_false] at hY1
   refine T.skip_code ?_
   refine T.region (T.p2 (vi (IntKind.i64.wrap (x1 + 1))) (vi (IntKind.i64.wrap (x1 + 1))) (fun _ => by kernel_rfl) (T.nil ?_))
   cases hY1
   exact fun a w' hf hh => ⟨(IntKind.i64.wrap (x1 + 1)), rfl, V3, (vt hV1 hV3), (Fr.sel hf rfl), (hh.sub (kp1 kp0))⟩
  rw [hc2, cond_false] at hY1
  refine T.exit ?_
  cases hY1
  cases (hr1 _ rfl)
  exact fun a w' hf hh => ⟨rfl, V1, hV1, (Fr.sel hf rfl), (hh.sub (kp1 kp0))⟩
 rintro a w' ⟨rfl, V2, hV2, hf, hh⟩
 try dsimp only at hF
 refine (?_ : T 166 w V2 (i3_ :: []) [(0, .slice A1 p0.length c1), (2, pB b1 0)] _) a w' hf hh
 clear hf hh
 refine T.seq (T.region (T.step (W1.np 24 v38_ (fun _ => by kernel_rfl) (fun b3 => ?_))))
 refine T.nil (T.seq (T.region (T.pk sN (fun _ => by kernel_rfl) (T.nil (T.seq (T.seq (T.region (T.p2 (.slice A1 p0.length c1) (vi (p0.length : Int)) (fun _ => by kernel_rfl) ?_))))))))
 obtain ⟨r5, hb7, hF⟩ := ob hF
 refine T.step (W1.call (vSc (eList eInt)) r5 72 #[vi (p0.length : Int)] (by kernel_rfl) (fun _ => by kernel_rfl) (fun w' hh => build_shares_l F (p0.length : Int) r5 hb7 w' ) ?_)
 intro u V4 hV4 hu
 obtain ⟨A2, c2, rfl, hs2⟩ := vlist_elim hu
 refine T.p2 (vi (r5.length : Int)) (vi 0) (fun _ => by kernel_rfl) (T.nil ?_)
 refine T.rownil 123 ebuild_low ?_
 refine T.rownil 97 (eAt w eNode) ?_
 obtain ⟨q2, hz2, hF⟩ := ob hF
 refine T.mid (fun a w' => ∃ (z2 : List DNode) (z3 : List Dbuild_low), q2 = (z2, z3) ∧ ∃ (A6 : Option Addr) (c6 : Nat) (A7 : Option Addr) (c7 : Nat) (V6 : View), View.le V4 V6 ∧ Fr 166 [(2, pB b1 0), (7, pB b3 0), (8, .slice A7 z3.length c7)] a ∧ Hp w V6 ((row 97 (eAt w eNode) A6 c6 z2) :: (row 123 ebuild_low A7 c7 z3) :: (box b3 24 [vi 0, .slice A6 z2.length c6]) :: i3_ :: []) w') ?_ ?_
 ·
  refine T.block ?_
  refine T.iter (fun s1 a w' => ∃ (x2 : List DNode) (x3 : List Dbuild_low) (x4 : List DElem) (x5 : Int), s1 = (x2, x3, x4, x5) ∧ ∃ (A3 : Option Addr) (c3 : Nat) (A4 : Option Addr) (c4 : Nat) (A5 : Option Addr) (c5 : Nat) (V5 : View), View.le V4 V5 ∧ SlOk V5 eElem A5 c5 x4 ∧ Fr 166 [(0, .slice A5 x4.length c5), (2, pB b1 0), (7, pB b3 0), (8, .slice A4 x3.length c4), (53, .slice A2 r5.length c2), (54, vi (r5.length : Int)), (55, vi x5)] a ∧ Hp w V5 ((row 97 (eAt w eNode) A3 c3 x2) :: (row 123 ebuild_low A4 c4 x3) :: (box b3 24 [vi 0, .slice A3 x2.length c3]) :: i3_ :: []) w') hz2 ?_ ?_
  ·
   exact fun a w' hf hh => ⟨[], [], p0, 0, rfl, none, 0, none, 0, A1, c1, V4, vr, (SlOk.mono hs1 (vt hV2 hV4)), (Fr.sel hf rfl), (hh.sub (kp3 (kp1 kp0)))⟩
  rintro s1 y2 hY2 hr2 a w' ⟨x2, x3, x4, x5, rfl, A3, c3, A4, c4, A5, c5, V5, hV5, hs3, hf, hh⟩
  let i5_ : HObj := row 97 (eAt w eNode) A3 c3 x2
  let i6_ : HObj := box b3 24 [vi 0, .slice A3 x2.length c3]
  let t7_ : List HObj := i6_ :: i3_ :: []
  let t8_ : List HObj := (row 123 ebuild_low A4 c4 x3) :: t7_
  let t9_ : List HObj := i5_ :: t8_
  refine (?_ : T 166 w V5 t9_ [(0, .slice A5 x4.length c5), (2, pB b1 0), (7, pB b3 0), (8, .slice A4 x3.length c4), (53, .slice A2 r5.length c2), (54, vi (r5.length : Int)), (55, vi x5)] _) a w' hf hh
  clear hf hh
  try dsimp only at hY2
  refine T.seq (T.region (T.pk (.bool (decide (x5 < (r5.length : Int)))) (fun _ => by kernel_rfl) (T.nil (T.seq ?_))))
  refine T.cond (decide (x5 < (r5.length : Int))) (by kernel_rfl) (by kernel_rfl) (fun hc5 => ?_) (fun hc5 => ?_)
  ·
   rw [hc5, cond_true] at hY2
   refine T.skip_code ?_
   refine T.seq (T.block (T.seq (T.region ?_)))
   obtain ⟨e3, hb8, hY2⟩ := ob hY2
   obtain ⟨hi7, hi8, hi9⟩ := idx_some hb8
   refine T.look (.pointer (some ((sadr A2).add (x5.toNat * 1)))) (by kernel_rfl) (fun w' hh => exec_indexAddr (e := 3) (s := 1) rfl rfl rfl (by kernel_rfl) (by kernel_rfl) hi7 hi8 ((SlOk.mono hs2 (vt (made_le _ _) hV5)).some_ hi9 (by decide))) ?_
   refine T.look (vi e3) (by kernel_rfl) (fun w' hh => exec_load1 rfl rfl (by kernel_rfl) (hh.cell_view (SlOk.cellF0 (E := eInt) (SlOk.mono hs2 (vt (made_le _ _) hV5)) hi9 (fun _ _ _ h => h) rfl))) ?_
   refine T.pk (vi e3) (fun _ => by kernel_rfl) (T.nil (T.seq (T.region (T.pk (pB b3 1) (fun _ => by kernel_rfl) (T.look (.slice A3 x2.length c3) (by kernel_rfl) (ld1 2 rfl rfl (fun _ => by kernel_rfl) (by rfl) rfl) ?_)))))
   refine T.p2 (vi (x2.length : Int)) (.agg #[vi (x2.length : Int), vi 0, vi 0, vi 0, vi 0]) (fun _ => by kernel_rfl) (T.step (W1.np 123 [vi 0, vi 0, vi 0, vi 0, vi 0] (fun _ => by kernel_rfl) (fun b4 => ?_)))
   let v40_ : List Value := [vi (x2.length : Int), vi 0, vi 0, vi 0, vi 0]
   refine T.step (W1.st 0 v40_ ((box b4 123 v40_) :: t9_) v40_ (by rfl) rfl rfl rfl rfl rfl rfl (fun _ => by kernel_rfl) ?_)
   refine T.nil ?_
   obtain ⟨q3, hX2, hY2⟩ := ob hY2
   refine T.cut (fun a w' => ∃ (z4 : Int) (z5 : Int) (z6 : Int) (z7 : Int), q3 = (z4, z5, z6, z7) ∧ ∃ (V7 : View), View.le V5 V7 ∧ Fr 166 [(0, .slice A5 x4.length c5), (2, pB b1 0), (7, pB b3 0), (8, .slice A4 x3.length c4), (10, vi e3), (11, pB b4 0), (53, .slice A2 r5.length c2), (54, vi (r5.length : Int)), (55, vi x5)] a ∧ Hp w V7 ((box b4 123 [vi (x2.length : Int), vi z4, vi z5, vi z6, vi z7]) :: t9_) w') ?_ ?_
   ·
    refine T.seq (T.region (T.p2 (vi e3) (.bool (decide ((0 : Int) < e3))) (fun _ => by kernel_rfl) (T.nil ?_)))
    refine T.cond (decide ((0 : Int) < e3)) (by kernel_rfl) (by kernel_rfl) (fun hc6 => ?_) (fun hc6 => ?_)
    ·
     rw [hc6, cond_true] at hX2
     refine T.region (T.pk (.slice A5 x4.length c5) (fun _ => by kernel_rfl) ?_)
     obtain ⟨e4, hb9, hX2⟩ := ob hX2
     obtain ⟨hi10, hi11, hi12⟩ := idx_some hb9
     refine T.look (.pointer (some ((sadr A5).add (((0 : Int).toNat) * 6)))) (by kernel_rfl) (fun w' hh => exec_indexAddr (e := 28) (s := 6) rfl rfl rfl (by kernel_rfl) (by kernel_rfl) hi10 hi11 (hs3.some_ hi12 (by decide))) ?_
     let a67_ : Value := .agg #[vi e4.key.pfs, vi e4.key.obj, vi e4.key.off, vi e4.made, vi e4.gone, .string e4.val]
     refine T.look a67_ (by kernel_rfl) (fun w' hh => exec_loadN (cs := [vi e4.key.pfs, vi e4.key.obj, vi e4.key.off, vi e4.made, vi e4.gone, .string e4.val]) rfl rfl (by kernel_rfl) (by kernel_rfl) (fun j u hj => (hh.cell_view (SlOk.cellF (E := eElem) hs3 hi12 j (fun _ _ _ h => h) hj)))) ?_
     obtain ⟨r8, hb10, hX2⟩ := ob hX2
     refine T.step (W1.call (vAg eSpot) r8 22 #[a67_] (by kernel_rfl) (fun _ => by kernel_rfl) (fun w' hh => elem_Spot_l e4 r8 hb10 w' ) ?_)
     intro u V8 hV8 hu
     obtain rfl := sureSpot _ _ _ hu
     refine T.pk (pB b4 1) (fun _ => by kernel_rfl) ?_
     let v41_ : List Value := [vi (x2.length : Int), vi r8.key.pfs, vi r8.key.obj, vi r8.key.off, vi r8.made]
     refine T.step (W1.st 0 v41_ ((box b4 123 v41_) :: t9_) [vi r8.key.pfs, vi r8.key.obj, vi r8.key.off, vi r8.made] (by rfl) rfl rfl rfl rfl rfl rfl (fun _ => by kernel_rfl) ?_)
     refine T.nil ?_
     cases hX2
     exact fun a w' hf hh => ⟨r8.key.pfs, r8.key.obj, r8.key.off, r8.made, rfl, V8, hV8, (Fr.sel hf rfl), (hh.sub (kp4 (kp1 kp0)))⟩
    rw [hc6, cond_false] at hX2
    refine T.skip_code ?_
    cases hX2
    exact fun a w' hf hh => ⟨0, 0, 0, 0, rfl, V5, vr, (Fr.sel hf rfl), (hh.sub (kp4 (kp1 kp0)))⟩
   rintro a w' ⟨z4, z5, z6, z7, rfl, V7, hV7, hf, hh⟩
   try dsimp only at hY2
   let v42_ : List Value := [vi (x2.length : Int), vi z4, vi z5, vi z6, vi z7]
   let i10_ : HObj := box b4 123 v42_
   let t11_ : List HObj := i10_ :: t9_
   refine (?_ : T 166 w V7 t11_ [(0, .slice A5 x4.length c5), (2, pB b1 0), (7, pB b3 0), (8, .slice A4 x3.length c4), (10, vi e3), (11, pB b4 0), (53, .slice A2 r5.length c2), (54, vi (r5.length : Int)), (55, vi x5)] _) a w' hf hh
   clear hf hh
   refine T.seq ?_
   obtain ⟨s2, hb11, hY2⟩ := ob hY2
   obtain ⟨y3, hb12, hY2⟩ := ob hY2
   obtain ⟨y4, hb13, hY2⟩ := ob hY2
   refine T.mid (fun a w' => ∃ (A10 : Option Addr) (c10 : Nat) (V10 : View), View.le V7 V10 ∧ Fr 166 [(0, .slice A5 x4.length c5), (2, pB b1 0), (7, pB b3 0), (8, .slice A4 x3.length c4), (10, vi e3), (11, pB b4 0), (53, .slice A2 r5.length c2), (54, vi (r5.length : Int)), (55, vi x5)] a ∧ Hp w V10 (i10_ :: (row 97 (eAt w eNode) A10 c10 (x2 ++ [(DNode.mk 1 (([] : List DElem) ++ s2) [] [] [])])) :: (row 123 ebuild_low A4 c4 x3) :: (box b3 24 [vi 0, .slice A10 ((x2 ++ [(DNode.mk 1 (([] : List DElem) ++ s2) [] [] [])]).length) c10]) :: i3_ :: []) w') ?_ ?_
   ·
    refine T.held (i10_ :: (row 123 ebuild_low A4 c4 x3) :: i3_ :: []) (by kernel_rfl) ?_
    have w68_ := vt (vt (vt hV2 hV4) hV5) hV7
    refine TA.keep (Hp.old vr w68_ (kp1 (dr1 (kp1 (dr1 (kp1 kp0))))) (oB1 (oR1 (oB1 ol0)))) fun o71_ => ?_
    refine TA.tp 0 (pB b3 1) rfl (fun _ => by kernel_rfl) (fun _ _ _ h => h) o71_ ?_
    refine TA.tp 2 (.slice A5 x4.length c5) rfl (fun _ => by kernel_rfl) (fun _ _ _ h => h) o71_ ?_
    refine TA.tp 3 (vi e3) rfl (fun _ => by kernel_rfl) (fun _ _ _ h => h) o71_ ?_
    refine TA.tk 4 (.slice A5 s2.length c5) rfl (by kernel_rfl) (fun _ _ _ h => h) o71_ (fun w' hh => exec_slice_list0 (e := 28) (s := 6) (lx := none) (hx := (some _)) (k := .i64) (k' := .i64) rfl rfl (by kernel_rfl) (by kernel_rfl) ((SlOk.mono hs3 hV7)).1 rfl rfl hb11) ?_
    refine TA.all [1, 5] (by kernel_rfl) rfl ⟨?_, ?_, trivial⟩
    ·
     refine TA.br rfl (W1.look (.slice A3 x2.length c3) (by kernel_rfl) (ld1 3 rfl rfl (fun _ => by kernel_rfl) (by rfl) rfl) ?_)
     refine TA.on (Hp.old vr w68_ (kp1 (dr1 (kp1 (dr1 (kp1 kp0))))) (oB1 (oR1 (oB1 ol0)))) ?_
     refine TA.all [5] (by kernel_rfl) rfl ⟨?_, trivial⟩
     refine TA.br rfl (W1.rownil 28 eElem ?_)
     obtain ⟨hb12_r, hb12_m, rfl⟩ := grow_some hb12
     obtain ⟨ti, hti, hz1, hz2, hz3⟩ := ipBuildL_2
     refine  (W1.append (E := eElem) (l := ([] : List DElem)) (m := s2) 0 _ _ 56 ti _ (by rfl) (by kernel_rfl) rfl (by kernel_rfl) hti hz1 hz2 hz3 rfl (by decide) rfl rfl (fun w' hh => (SlOk.srcF (SlOk.cut0 (SlOk.mono (SlOk.mono hs3 hV7) hh.view) hb11) (fun _ _ _ _ h => h))) hb12_r hb12_m (fun A8 c8 => ?_))
     refine TA.onk (Hp.old vr w68_ (dr1 (kp1 (dr1 (kp1 (dr1 (kp1 kp0)))))) (oB1 (oR1 (oB1 ol0)))) fun o72_ => ?_
     refine TA.tp 6 (.agg #[vi 1, .slice A8 ((([] : List DElem) ++ s2).length) c8, sN, sN, sN]) rfl (fun _ => by kernel_rfl) (fun _ _ _ h => h) o72_ ?_
     refine TA.all [7] (by kernel_rfl) rfl ⟨?_, trivial⟩
     let v43_ : List Value := [vi 1, .slice A8 ((([] : List DElem) ++ s2).length) c8, sN, sN, sN]
     refine TA.br rfl (W1.ns 97 v43_ (fun _ => by kernel_rfl) (fun b5 => ?_))
     refine TA.on (Hp.old vr w68_ (dr2 (kp1 (dr1 (kp1 (dr1 (kp1 kp0)))))) (oB1 (oR1 (oB1 ol0)))) ?_
     refine TA.all [8] (by kernel_rfl) rfl ⟨?_, trivial⟩
     refine TA.br rfl ?_
     refine W1.ofT ?_
     let i12_ : HObj := box b5 97 v43_
     refine T.freezeF (E := eElem) (H' := (i12_ :: t11_)) 1 (by rfl) rfl (fun _ _ _ _ h => h) (fun V9 hV9 hs4 => ?_)
     obtain ⟨hb13_r, hb13_m, rfl⟩ := grow_some hb13
     obtain ⟨ti, hti, hz1, hz2, hz3⟩ := ipBuildL_3
     refine W1.toT (W1.append (E := (eAt w eNode)) (l := x2) (m := [(DNode.mk 1 (([] : List DElem) ++ s2) [] [] [])]) 2 _ _ 104 ti _ (by rfl) (by kernel_rfl) rfl (by kernel_rfl) hti hz1 hz2 hz3 rfl (Nat.le_of_ble_eq_true rfl) rfl rfl (fun w' hh => (src_one (E := (eAt w eNode)) hh (i := 0) (by rfl) ⟨A8, c8, none, 0, none, 0, none, 0, rfl, (SlOk.mono hs4 (made_mono vr)), (SlOk.nil _ _), (SlOk.nil _ _), (SlOk.nil _ _)⟩)) hb13_r hb13_m (fun A9 c9 => ?_))
     refine TA.onk (Hp.old hV9 w68_ (dr1 (kp1 (dr1 (kp1 (dr1 (kp1 kp0)))))) (oB1 (oR1 (oB1 ol0)))) fun o73_ => ?_
     refine TA.tp 9 (pB b3 1) rfl (fun _ => by kernel_rfl) (fun _ _ _ h => h) o73_ ?_
     refine TA.all [10] (by kernel_rfl) rfl ⟨?_, trivial⟩
     let v44_ : List Value := [vi 0, .slice A9 ((x2 ++ [(DNode.mk 1 (([] : List DElem) ++ s2) [] [] [])]).length) c9]
     refine TA.br rfl (W1.st 4 v44_ (i12_ :: i10_ :: (row 97 (eAt w eNode) A9 c9 (x2 ++ [(DNode.mk 1 (([] : List DElem) ++ s2) [] [] [])])) :: (row 123 ebuild_low A4 c4 x3) :: (box b3 24 v44_) :: i3_ :: []) [.slice A9 ((x2 ++ [(DNode.mk 1 (([] : List DElem) ++ s2) [] [] [])]).length) c9] (by rfl) rfl rfl rfl rfl rfl rfl (fun _ => by kernel_rfl) ?_)
     refine TA.on (Hp.old hV9 w68_ (dr1 (kp1 (dr1 (kp1 (dr1 (kp1 kp0)))))) (oB1 (oR1 (oB1 ol0)))) ?_
     refine TA.done (by kernel_rfl) ?_
     exact fun a w' hf hh => ⟨A9, c9, V9, hV9, (Fr.sel hf rfl), (hh.sub (dr1 (kp4 (kp1 kp0))))⟩
    refine TA.br rfl (W1.rownil 28 eElem ?_)
    obtain ⟨hb12_r, hb12_m, rfl⟩ := grow_some hb12
    obtain ⟨ti, hti, hz1, hz2, hz3⟩ := ipBuildL_2
    refine  (W1.append (E := eElem) (l := ([] : List DElem)) (m := s2) 0 _ _ 56 ti _ (by rfl) (by kernel_rfl) rfl (by kernel_rfl) hti hz1 hz2 hz3 rfl (by decide) rfl rfl (fun w' hh => (SlOk.srcF (SlOk.cut0 (SlOk.mono (SlOk.mono hs3 hV7) hh.view) hb11) (fun _ _ _ _ h => h))) hb12_r hb12_m (fun A8 c8 => ?_))
    refine TA.onk (Hp.old vr w68_ (dr1 (kp1 (dr1 (kp1 (dr1 (kp1 kp0)))))) (oB1 (oR1 (oB1 ol0)))) fun o74_ => ?_
    refine TA.tp 6 (.agg #[vi 1, .slice A8 ((([] : List DElem) ++ s2).length) c8, sN, sN, sN]) rfl (fun _ => by kernel_rfl) (fun _ _ _ h => h) o74_ ?_
    refine TA.all [1, 7] (by kernel_rfl) rfl ⟨?_, ?_, trivial⟩
    ·
     refine TA.br rfl (W1.look (.slice A3 x2.length c3) (by kernel_rfl) (ld1 4 rfl rfl (fun _ => by kernel_rfl) (by rfl) rfl) ?_)
     refine TA.on (Hp.old vr w68_ (dr1 (kp1 (dr1 (kp1 (dr1 (kp1 kp0)))))) (oB1 (oR1 (oB1 ol0)))) ?_
     refine TA.all [7] (by kernel_rfl) rfl ⟨?_, trivial⟩
     let v45_ : List Value := [vi 1, .slice A8 ((([] : List DElem) ++ s2).length) c8, sN, sN, sN]
     refine TA.br rfl (W1.ns 97 v45_ (fun _ => by kernel_rfl) (fun b5 => ?_))
     refine TA.on (Hp.old vr w68_ (dr2 (kp1 (dr1 (kp1 (dr1 (kp1 kp0)))))) (oB1 (oR1 (oB1 ol0)))) ?_
     refine TA.all [8] (by kernel_rfl) rfl ⟨?_, trivial⟩
     refine TA.br rfl ?_
     refine W1.ofT ?_
     let i13_ : HObj := box b5 97 v45_
     refine T.freezeF (E := eElem) (H' := (i13_ :: t11_)) 1 (by rfl) rfl (fun _ _ _ _ h => h) (fun V9 hV9 hs4 => ?_)
     obtain ⟨hb13_r, hb13_m, rfl⟩ := grow_some hb13
     obtain ⟨ti, hti, hz1, hz2, hz3⟩ := ipBuildL_3
     refine W1.toT (W1.append (E := (eAt w eNode)) (l := x2) (m := [(DNode.mk 1 (([] : List DElem) ++ s2) [] [] [])]) 2 _ _ 104 ti _ (by rfl) (by kernel_rfl) rfl (by kernel_rfl) hti hz1 hz2 hz3 rfl (Nat.le_of_ble_eq_true rfl) rfl rfl (fun w' hh => (src_one (E := (eAt w eNode)) hh (i := 0) (by rfl) ⟨A8, c8, none, 0, none, 0, none, 0, rfl, (SlOk.mono hs4 (made_mono vr)), (SlOk.nil _ _), (SlOk.nil _ _), (SlOk.nil _ _)⟩)) hb13_r hb13_m (fun A9 c9 => ?_))
     refine TA.onk (Hp.old hV9 w68_ (dr1 (kp1 (dr1 (kp1 (dr1 (kp1 kp0)))))) (oB1 (oR1 (oB1 ol0)))) fun o75_ => ?_
     refine TA.tp 9 (pB b3 1) rfl (fun _ => by kernel_rfl) (fun _ _ _ h => h) o75_ ?_
     refine TA.all [10] (by kernel_rfl) rfl ⟨?_, trivial⟩
     let v46_ : List Value := [vi 0, .slice A9 ((x2 ++ [(DNode.mk 1 (([] : List DElem) ++ s2) [] [] [])]).length) c9]
     refine TA.br rfl (W1.st 4 v46_ (i13_ :: i10_ :: (row 97 (eAt w eNode) A9 c9 (x2 ++ [(DNode.mk 1 (([] : List DElem) ++ s2) [] [] [])])) :: (row 123 ebuild_low A4 c4 x3) :: (box b3 24 v46_) :: i3_ :: []) [.slice A9 ((x2 ++ [(DNode.mk 1 (([] : List DElem) ++ s2) [] [] [])]).length) c9] (by rfl) rfl rfl rfl rfl rfl rfl (fun _ => by kernel_rfl) ?_)
     refine TA.on (Hp.old hV9 w68_ (dr1 (kp1 (dr1 (kp1 (dr1 (kp1 kp0)))))) (oB1 (oR1 (oB1 ol0)))) ?_
     refine TA.done (by kernel_rfl) ?_
     exact fun a w' hf hh => ⟨A9, c9, V9, hV9, (Fr.sel hf rfl), (hh.sub (dr1 (kp4 (kp1 kp0))))⟩
    let v47_ : List Value := [vi 1, .slice A8 ((([] : List DElem) ++ s2).length) c8, sN, sN, sN]
    refine TA.br rfl (W1.ns 97 v47_ (fun _ => by kernel_rfl) (fun b5 => ?_))
    refine TA.on (Hp.old vr w68_ (dr2 (kp1 (dr1 (kp1 (dr1 (kp1 kp0)))))) (oB1 (oR1 (oB1 ol0)))) ?_
    refine TA.all [1] (by kernel_rfl) rfl ⟨?_, trivial⟩
    refine TA.br rfl (W1.look (.slice A3 x2.length c3) (by kernel_rfl) (ld1 5 rfl rfl (fun _ => by kernel_rfl) (by rfl) rfl) ?_)
    refine TA.on (Hp.old vr w68_ (dr2 (kp1 (dr1 (kp1 (dr1 (kp1 kp0)))))) (oB1 (oR1 (oB1 ol0)))) ?_
    refine TA.all [8] (by kernel_rfl) rfl ⟨?_, trivial⟩
    refine TA.br rfl ?_
    refine W1.ofT ?_
    let i14_ : HObj := box b5 97 v47_
    refine T.freezeF (E := eElem) (H' := (i14_ :: t11_)) 1 (by rfl) rfl (fun _ _ _ _ h => h) (fun V9 hV9 hs4 => ?_)
    obtain ⟨hb13_r, hb13_m, rfl⟩ := grow_some hb13
    obtain ⟨ti, hti, hz1, hz2, hz3⟩ := ipBuildL_3
    refine W1.toT (W1.append (E := (eAt w eNode)) (l := x2) (m := [(DNode.mk 1 (([] : List DElem) ++ s2) [] [] [])]) 2 _ _ 104 ti _ (by rfl) (by kernel_rfl) rfl (by kernel_rfl) hti hz1 hz2 hz3 rfl (Nat.le_of_ble_eq_true rfl) rfl rfl (fun w' hh => (src_one (E := (eAt w eNode)) hh (i := 0) (by rfl) ⟨A8, c8, none, 0, none, 0, none, 0, rfl, (SlOk.mono hs4 (made_mono vr)), (SlOk.nil _ _), (SlOk.nil _ _), (SlOk.nil _ _)⟩)) hb13_r hb13_m (fun A9 c9 => ?_))
    refine TA.onk (Hp.old hV9 w68_ (dr1 (kp1 (dr1 (kp1 (dr1 (kp1 kp0)))))) (oB1 (oR1 (oB1 ol0)))) fun o76_ => ?_
    refine TA.tp 9 (pB b3 1) rfl (fun _ => by kernel_rfl) (fun _ _ _ h => h) o76_ ?_
    refine TA.all [10] (by kernel_rfl) rfl ⟨?_, trivial⟩
    let v48_ : List Value := [vi 0, .slice A9 ((x2 ++ [(DNode.mk 1 (([] : List DElem) ++ s2) [] [] [])]).length) c9]
    refine TA.br rfl (W1.st 4 v48_ (i14_ :: i10_ :: (row 97 (eAt w eNode) A9 c9 (x2 ++ [(DNode.mk 1 (([] : List DElem) ++ s2) [] [] [])])) :: (row 123 ebuild_low A4 c4 x3) :: (box b3 24 v48_) :: i3_ :: []) [.slice A9 ((x2 ++ [(DNode.mk 1 (([] : List DElem) ++ s2) [] [] [])]).length) c9] (by rfl) rfl rfl rfl rfl rfl rfl (fun _ => by kernel_rfl) ?_)
    refine TA.on (Hp.old hV9 w68_ (dr1 (kp1 (dr1 (kp1 (dr1 (kp1 kp0)))))) (oB1 (oR1 (oB1 ol0)))) ?_
    refine TA.done (by kernel_rfl) ?_
    exact fun a w' hf hh => ⟨A9, c9, V9, hV9, (Fr.sel hf rfl), (hh.sub (dr1 (kp4 (kp1 kp0))))⟩
   rintro a w' ⟨A10, c10, V10, hV10, hf, hh⟩
   refine (?_ : T 166 w V10 (i10_ :: (row 97 (eAt w eNode) A10 c10 (x2 ++ [(DNode.mk 1 (([] : List DElem) ++ s2) [] [] [])])) :: (row 123 ebuild_low A4 c4 x3) :: (box b3 24 [vi 0, .slice A10 ((x2 ++ [(DNode.mk 1 (([] : List DElem) ++ s2) [] [] [])]).length) c10]) :: i3_ :: []) [(0, .slice A5 x4.length c5), (2, pB b1 0), (7, pB b3 0), (8, .slice A4 x3.length c4), (10, vi e3), (11, pB b4 0), (53, .slice A2 r5.length c2), (54, vi (r5.length : Int)), (55, vi x5)] _) a w' hf hh
   clear hf hh
   refine T.seq (T.region (T.pk (.slice A4 x3.length c4) (fun _ => by kernel_rfl) (T.look (.agg #[vi (x2.length : Int), vi z4, vi z5, vi z6, vi z7]) (by kernel_rfl) (ldN 0 rfl rfl (fun _ => by kernel_rfl) (by rfl) rfl) ?_)))
   refine T.step (W1.ns 123 v42_ (fun _ => by kernel_rfl) (fun b6 => ?_))
   obtain ⟨y5, hb14, hY2⟩ := ob hY2
   obtain ⟨hb14_r, hb14_m, rfl⟩ := grow_some hb14
   obtain ⟨ti, hti, hz1, hz2, hz3⟩ := ipBuildL_4
   refine T.step (W1.append (E := ebuild_low) (l := x3) (m := [(Dbuild_low.mk (x2.length : Int) (DSpot.mk (DKey.mk z4 z5 z6) z7))]) 3 _ _ 40 ti _ (by rfl) (by kernel_rfl) rfl (by kernel_rfl) hti hz1 hz2 hz3 rfl (by decide) rfl rfl (fun w' hh => (SlOk.srcF (slok_lit (E := ebuild_low) (f := Dbuild_low.cells) [(Dbuild_low.mk (x2.length : Int) (DSpot.mk (DKey.mk z4 z5 z6) z7))] (fun _ _ => rfl) (Nat.le_of_ble_eq_true (by rfl)) (fun j => hh.cellBox (i := 0) (by rfl) j)) (fun _ _ _ _ h => h))) hb14_r hb14_m (fun A11 c11 => ?_))
   refine T.pk (.slice A11 ((x3 ++ [(Dbuild_low.mk (x2.length : Int) (DSpot.mk (DKey.mk z4 z5 z6) z7))]).length) c11) (fun _ => by kernel_rfl) (T.nil (T.region (T.p2 (.slice A5 x4.length c5) (vi e3) (fun _ => by kernel_rfl) ?_)))
   obtain ⟨s3, hb15, hY2⟩ := ob hY2
   refine T.look (.slice (cutA A5 c5 e3.toNat 6) s3.length (c5 - e3.toNat)) (by kernel_rfl) (fun w' hh => exec_slice_list (e := 28) (s := 6) (lx := (some _)) (hx := none) (k := .i64) (k' := .i64) rfl rfl (by kernel_rfl) (by kernel_rfl) ((SlOk.mono hs3 (vt hV7 hV10))).1 rfl rfl hb15) ?_
   refine T.pk (.slice (cutA A5 c5 e3.toNat 6) s3.length (c5 - e3.toNat)) (fun _ => by kernel_rfl) (T.nil (T.region (T.p2 (vi (IntKind.i64.wrap (x5 + 1))) (vi (IntKind.i64.wrap (x5 + 1))) (fun _ => by kernel_rfl) (T.nil ?_))))
   cases hY2
   exact fun a w' hf hh => ⟨((x2 ++ [(DNode.mk 1 (([] : List DElem) ++ s2) [] [] [])]), (x3 ++ [(Dbuild_low.mk (x2.length : Int) (DSpot.mk (DKey.mk z4 z5 z6) z7))]), s3, IntKind.i64.wrap (x5 + 1)), rfl, (x2 ++ [(DNode.mk 1 (([] : List DElem) ++ s2) [] [] [])]), (x3 ++ [(Dbuild_low.mk (x2.length : Int) (DSpot.mk (DKey.mk z4 z5 z6) z7))]), s3, (IntKind.i64.wrap (x5 + 1)), rfl, A10, c10, A11, c11, (cutA A5 c5 e3.toNat 6), (c5 - e3.toNat), V10, (vt (vt hV5 hV7) hV10), (SlOk.cut (SlOk.mono hs3 (vt hV7 hV10)) hb15), (Fr.sel hf rfl), (hh.sub (dr2 (kp3 (kp1 kp0))))⟩
  rw [hc5, cond_false] at hY2
  refine T.exit ?_
  cases hY2
  cases (hr2 _ rfl)
  exact fun a w' hf hh => ⟨x2, x3, rfl, A3, c3, A4, c4, V5, hV5, (Fr.sel hf rfl), (hh.sub (kp3 (kp1 kp0)))⟩
 rintro a w' ⟨z2, z3, rfl, A6, c6, A7, c7, V6, hV6, hf, hh⟩
 try dsimp only at hF
 let i15_ : HObj := row 97 (eAt w eNode) A6 c6 z2
 let i16_ : HObj := box b3 24 [vi 0, .slice A6 z2.length c6]
 refine (?_ : T 166 w V6 (i15_ :: (row 123 ebuild_low A7 c7 z3) :: i16_ :: i3_ :: []) [(2, pB b1 0), (7, pB b3 0), (8, .slice A7 z3.length c7)] _) a w' hf hh
 clear hf hh
 refine T.freezeF (E := ebuild_low) (H' := (i15_ :: i16_ :: i3_ :: [])) 1 (by rfl) rfl (fun _ _ _ _ h => h) (fun V11 hV11 hs5 => ?_)
 obtain ⟨q4, hz3, hF⟩ := ob hF
 refine T.cut (fun a w' => ∃ (z8 : List DNode) (z9 : List Dbuild_low), q4 = (z8, z9) ∧ ∃ (A14 : Option Addr) (c14 : Nat) (A15 : Option Addr) (c15 : Nat) (V13 : View), View.le V11 V13 ∧ SlOk (made w V13) ebuild_low A15 c15 z9 ∧ Fr 166 [(2, pB b1 0), (7, pB b3 0), (8, .slice A15 z9.length c15)] a ∧ Hp w V13 ((row 97 (eAt w eNode) A14 c14 z8) :: (box b3 24 [vi 0, .slice A14 z8.length c14]) :: i3_ :: []) w') ?_ ?_
 ·
  refine T.block ?_
  refine T.iter (fun s4 a w' => ∃ (x6 : List DNode) (x7 : List Dbuild_low), s4 = (x6, x7) ∧ ∃ (A12 : Option Addr) (c12 : Nat) (A13 : Option Addr) (c13 : Nat) (V12 : View), View.le V11 V12 ∧ SlOk (made w V12) ebuild_low A13 c13 x7 ∧ Fr 166 [(2, pB b1 0), (7, pB b3 0), (8, .slice A13 x7.length c13)] a ∧ Hp w V12 ((row 97 (eAt w eNode) A12 c12 x6) :: (box b3 24 [vi 0, .slice A12 x6.length c12]) :: i3_ :: []) w') hz3 ?_ ?_
  ·
   exact fun a w' hf hh => ⟨z2, z3, rfl, A6, c6, A7, c7, V11, vr, (SlOk.mono hs5 (made_mono vr)), (Fr.sel hf rfl), (hh.sub (kp2 (kp1 kp0)))⟩
  rintro s4 y6 hY3 hr3 a w' ⟨x6, x7, rfl, A12, c12, A13, c13, V12, hV12, hs6, hf, hh⟩
  refine (?_ : T 166 w V12 ((row 97 (eAt w eNode) A12 c12 x6) :: (box b3 24 [vi 0, .slice A12 x6.length c12]) :: i3_ :: []) [(2, pB b1 0), (7, pB b3 0), (8, .slice A13 x7.length c13)] _) a w' hf hh
  clear hf hh
  try dsimp only at hY3
  refine T.seq (T.seq (T.region (T.p3 (.slice A13 x7.length c13) (vi (x7.length : Int)) (.bool (decide ((1 : Int) < (x7.length : Int)))) (fun _ => by kernel_rfl) (T.nil ?_))))
  refine T.cond (decide ((1 : Int) < (x7.length : Int))) (by kernel_rfl) (by kernel_rfl) (fun hc7 => ?_) (fun hc7 => ?_)
  ·
   rw [hc7, cond_true] at hY3
   refine T.skip_code ?_
   refine T.block (T.seq (T.region (T.pk sN (fun _ => by kernel_rfl) (T.nil (T.seq (T.seq (T.region (T.p2 (.slice A13 x7.length c13) (vi (x7.length : Int)) (fun _ => by kernel_rfl) ?_))))))))
   obtain ⟨r10, hb16, hY3⟩ := ob hY3
   refine T.step (W1.call (vSc (eList eInt)) r10 72 #[vi (x7.length : Int)] (by kernel_rfl) (fun _ => by kernel_rfl) (fun w' hh => build_shares_l F (x7.length : Int) r10 hb16 w' ) ?_)
   intro u V14 hV14 hu
   obtain ⟨A16, c16, rfl, hs8⟩ := vlist_elim hu
   refine T.p2 (vi (r10.length : Int)) (vi 0) (fun _ => by kernel_rfl) (T.nil ?_)
   refine T.rownil 123 ebuild_low ?_
   obtain ⟨q5, hz4, hY3⟩ := ob hY3
   refine T.mid (fun a w' => ∃ (z10 : List Dbuild_low) (z11 : List DNode), q5 = (z10, z11) ∧ ∃ (A20 : Option Addr) (c20 : Nat) (A21 : Option Addr) (c21 : Nat) (V16 : View), View.le V14 V16 ∧ Fr 166 [(2, pB b1 0), (7, pB b3 0), (12, .slice A20 z10.length c20)] a ∧ Hp w V16 ((row 123 ebuild_low A20 c20 z10) :: (row 97 (eAt w eNode) A21 c21 z11) :: (box b3 24 [vi 0, .slice A21 z11.length c21]) :: i3_ :: []) w') ?_ ?_
   ·
    refine T.block ?_
    refine T.iter (fun s5 a w' => ∃ (x8 : List Dbuild_low) (x9 : List DNode) (x10 : List Dbuild_low) (x11 : Int), s5 = (x8, x9, x10, x11) ∧ ∃ (A17 : Option Addr) (c17 : Nat) (A18 : Option Addr) (c18 : Nat) (A19 : Option Addr) (c19 : Nat) (V15 : View), View.le V14 V15 ∧ SlOk (made w V15) ebuild_low A19 c19 x10 ∧ Fr 166 [(2, pB b1 0), (7, pB b3 0), (8, .slice A19 x10.length c19), (12, .slice A17 x8.length c17), (93, .slice A16 r10.length c16), (94, vi (r10.length : Int)), (95, vi x11)] a ∧ Hp w V15 ((row 123 ebuild_low A17 c17 x8) :: (row 97 (eAt w eNode) A18 c18 x9) :: (box b3 24 [vi 0, .slice A18 x9.length c18]) :: i3_ :: []) w') hz4 ?_ ?_
    ·
     exact fun a w' hf hh => ⟨[], x6, x7, 0, rfl, none, 0, A12, c12, A13, c13, V14, vr, (SlOk.mono hs6 (made_mono hV14)), (Fr.sel hf rfl), (hh.sub (kp3 (kp1 kp0)))⟩
    rintro s5 y7 hY4 hr4 a w' ⟨x8, x9, x10, x11, rfl, A17, c17, A18, c18, A19, c19, V15, hV15, hs9, hf, hh⟩
    let i17_ : HObj := row 123 ebuild_low A17 c17 x8
    let i18_ : HObj := row 97 (eAt w eNode) A18 c18 x9
    let i19_ : HObj := box b3 24 [vi 0, .slice A18 x9.length c18]
    let t20_ : List HObj := i19_ :: i3_ :: []
    let t21_ : List HObj := i18_ :: t20_
    let t22_ : List HObj := i17_ :: t21_
    refine (?_ : T 166 w V15 t22_ [(2, pB b1 0), (7, pB b3 0), (8, .slice A19 x10.length c19), (12, .slice A17 x8.length c17), (93, .slice A16 r10.length c16), (94, vi (r10.length : Int)), (95, vi x11)] _) a w' hf hh
    clear hf hh
    try dsimp only at hY4
    refine T.seq (T.region (T.pk (.bool (decide (x11 < (r10.length : Int)))) (fun _ => by kernel_rfl) (T.nil (T.seq ?_))))
    refine T.cond (decide (x11 < (r10.length : Int))) (by kernel_rfl) (by kernel_rfl) (fun hc8 => ?_) (fun hc8 => ?_)
    ·
     rw [hc8, cond_true] at hY4
     refine T.skip_code ?_
     refine T.seq (T.block (T.seq (T.region ?_)))
     obtain ⟨e5, hb17, hY4⟩ := ob hY4
     obtain ⟨hi13, hi14, hi15⟩ := idx_some hb17
     refine T.look (.pointer (some ((sadr A16).add (x11.toNat * 1)))) (by kernel_rfl) (fun w' hh => exec_indexAddr (e := 3) (s := 1) rfl rfl rfl (by kernel_rfl) (by kernel_rfl) hi13 hi14 ((SlOk.mono hs8 (vt (made_le _ _) hV15)).some_ hi15 (by decide))) ?_
     refine T.look (vi e5) (by kernel_rfl) (fun w' hh => exec_load1 rfl rfl (by kernel_rfl) (hh.cell_view (SlOk.cellF0 (E := eInt) (SlOk.mono hs8 (vt (made_le _ _) hV15)) hi15 (fun _ _ _ h => h) rfl))) ?_
     refine T.pk (vi e5) (fun _ => by kernel_rfl) (T.nil (T.seq (T.region (T.pk (.agg #[vi 2, sN, sN, sN, sN]) (fun _ => by kernel_rfl) (T.step (W1.np 97 [vi 0, sN, sN, sN, sN] (fun _ => by kernel_rfl) (fun b7 => ?_)))))))
     let v49_ : List Value := [vi 2, sN, sN, sN, sN]
     refine T.step (W1.st 0 v49_ ((box b7 97 v49_) :: t22_) v49_ (by rfl) rfl rfl rfl rfl rfl rfl (fun _ => by kernel_rfl) ?_)
     refine T.nil (T.seq (T.seq (T.region (T.p2 (.slice A19 x10.length c19) (vi e5) (fun _ => by kernel_rfl) ?_))))
     obtain ⟨s6, hb18, hY4⟩ := ob hY4
     refine T.look (.slice A19 s6.length c19) (by kernel_rfl) (fun w' hh => exec_slice_list0 (e := 123) (s := 5) (lx := none) (hx := (some _)) (k := .i64) (k' := .i64) rfl rfl (by kernel_rfl) (by kernel_rfl) ((SlOk.mono hs9 (vt (made_le _ _) vr))).1 rfl rfl hb18) ?_
     refine T.p2 (vi (s6.length : Int)) (vi 0) (fun _ => by kernel_rfl) (T.nil ?_)
     refine T.rownil 3 eInt ?_
     refine T.rownil 3 eInt ?_
     refine T.rownil 43 eSpot ?_
     obtain ⟨q6, hz5, hY4⟩ := ob hY4
     refine T.mid (fun a w' => ∃ (z12 : List DSpot) (z13 : List Int) (z14 : List Int), q6 = (z12, z13, z14) ∧ ∃ (A26 : Option Addr) (c26 : Nat) (A27 : Option Addr) (c27 : Nat) (A28 : Option Addr) (c28 : Nat) (V18 : View), View.le V15 V18 ∧ Fr 166 [(2, pB b1 0), (7, pB b3 0), (8, .slice A19 x10.length c19), (12, .slice A17 x8.length c17), (14, vi e5), (15, pB b7 0), (93, .slice A16 r10.length c16), (94, vi (r10.length : Int)), (95, vi x11)] a ∧ Hp w V18 ((row 43 eSpot A26 c26 z12) :: (row 3 eInt A27 c27 z13) :: (row 3 eInt A28 c28 z14) :: (box b7 97 [vi 2, sN, .slice A28 z14.length c28, .slice A26 z12.length c26, .slice A27 z13.length c27]) :: t22_) w') ?_ ?_
     ·
      refine T.block ?_
      refine T.iter (fun s7 a w' => ∃ (x12 : List DSpot) (x13 : List Int) (x14 : List Int) (x15 : Int), s7 = (x12, x13, x14, x15) ∧ ∃ (A22 : Option Addr) (c22 : Nat) (A23 : Option Addr) (c23 : Nat) (A24 : Option Addr) (c24 : Nat) (A25 : Option Addr) (c25 : Nat) (V17 : View), View.le V15 V17 ∧ SlOk (made w V17) ebuild_low A25 c25 s6 ∧ Fr 166 [(2, pB b1 0), (7, pB b3 0), (8, .slice A19 x10.length c19), (12, .slice A17 x8.length c17), (14, vi e5), (15, pB b7 0), (93, .slice A16 r10.length c16), (94, vi (r10.length : Int)), (95, vi x11), (102, .slice A25 s6.length c25), (103, vi (s6.length : Int)), (104, vi x15)] a ∧ Hp w V17 ((row 43 eSpot A22 c22 x12) :: (row 3 eInt A23 c23 x13) :: (row 3 eInt A24 c24 x14) :: (box b7 97 [vi 2, sN, .slice A24 x14.length c24, .slice A22 x12.length c22, .slice A23 x13.length c23]) :: t22_) w') hz5 ?_ ?_
      ·
       exact fun a w' hf hh => ⟨[], [], [], 0, rfl, none, 0, none, 0, none, 0, A19, c19, V15, vr, (SlOk.cut0 (SlOk.mono hs9 (made_mono vr)) hb18), (Fr.sel hf rfl), (hh.sub (kp7 (kp1 kp0)))⟩
      rintro s7 y8 hY5 hr5 a w' ⟨x12, x13, x14, x15, rfl, A22, c22, A23, c23, A24, c24, A25, c25, V17, hV17, hs10, hf, hh⟩
      let i23_ : HObj := box b7 97 [vi 2, sN, .slice A24 x14.length c24, .slice A22 x12.length c22, .slice A23 x13.length c23]
      refine (?_ : T 166 w V17 ((row 43 eSpot A22 c22 x12) :: (row 3 eInt A23 c23 x13) :: (row 3 eInt A24 c24 x14) :: i23_ :: t22_) [(2, pB b1 0), (7, pB b3 0), (8, .slice A19 x10.length c19), (12, .slice A17 x8.length c17), (14, vi e5), (15, pB b7 0), (93, .slice A16 r10.length c16), (94, vi (r10.length : Int)), (95, vi x11), (102, .slice A25 s6.length c25), (103, vi (s6.length : Int)), (104, vi x15)] _) a w' hf hh
      clear hf hh
      try dsimp only at hY5
      refine T.seq (T.region (T.pk (.bool (decide (x15 < (s6.length : Int)))) (fun _ => by kernel_rfl) (T.nil (T.seq ?_))))
      refine T.cond (decide (x15 < (s6.length : Int))) (by kernel_rfl) (by kernel_rfl) (fun hc9 => ?_) (fun hc9 => ?_)
      ·
       rw [hc9, cond_true] at hY5
       refine T.skip_code ?_
       obtain ⟨q7, hX3, hY5⟩ := ob hY5
       refine T.cut (fun a w' => ∃ (z15 : List DSpot) (z16 : List Int) (z17 : List Int), q7 = (z15, z16, z17) ∧ ∃ (A29 : Option Addr) (c29 : Nat) (A30 : Option Addr) (c30 : Nat) (A31 : Option Addr) (c31 : Nat) (V19 : View), View.le V17 V19 ∧ Fr 166 [(2, pB b1 0), (7, pB b3 0), (8, .slice A19 x10.length c19), (12, .slice A17 x8.length c17), (14, vi e5), (15, pB b7 0), (93, .slice A16 r10.length c16), (94, vi (r10.length : Int)), (95, vi x11), (102, .slice A25 s6.length c25), (103, vi (s6.length : Int)), (104, vi x15)] a ∧ Hp w V19 ((row 43 eSpot A29 c29 z15) :: (row 3 eInt A30 c30 z16) :: (row 3 eInt A31 c31 z17) :: (box b7 97 [vi 2, sN, .slice A31 z17.length c31, .slice A29 z15.length c29, .slice A30 z16.length c30]) :: t22_) w') ?_ ?_
       ·
        refine T.block (T.seq (T.region (T.pk (vi x15) (fun _ => by kernel_rfl) ?_)))
        obtain ⟨e6, hb19, hX3⟩ := ob hX3
        obtain ⟨hi16, hi17, hi18⟩ := idx_some hb19
        refine T.look (.pointer (some ((sadr A25).add (x15.toNat * 5)))) (by kernel_rfl) (fun w' hh => exec_indexAddr (e := 123) (s := 5) rfl rfl rfl (by kernel_rfl) (by kernel_rfl) hi16 hi17 ((SlOk.mono hs10 (vt (made_le _ _) vr)).some_ hi18 (by decide))) ?_
        let v50_ : List Value := [vi e6.i, vi e6.s.key.pfs, vi e6.s.key.obj, vi e6.s.key.off, vi e6.s.made]
        refine T.look (.agg #[vi e6.i, vi e6.s.key.pfs, vi e6.s.key.obj, vi e6.s.key.off, vi e6.s.made]) (by kernel_rfl) (fun w' hh => exec_loadN (cs := v50_) rfl rfl (by kernel_rfl) (by kernel_rfl) (fun j u hj => (hh.cell_view (SlOk.cellF (E := ebuild_low) (SlOk.mono hs10 (vt (made_le _ _) vr)) hi18 j (fun _ _ _ h => h) hj)))) ?_
        refine T.step (W1.np 123 [vi 0, vi 0, vi 0, vi 0, vi 0] (fun _ => by kernel_rfl) (fun b8 => ?_))
        refine T.pk (vi x15) (fun _ => by kernel_rfl) ?_
        let i24_ : HObj := box b8 123 v50_
        refine T.step (W1.st 0 v50_ (i24_ :: (row 43 eSpot A22 c22 x12) :: (row 3 eInt A23 c23 x13) :: (row 3 eInt A24 c24 x14) :: i23_ :: t22_) v50_ (by rfl) rfl rfl rfl rfl rfl rfl (fun _ => by kernel_rfl) ?_)
        refine T.nil (T.seq (T.region (T.pk (pB b7 2) (fun _ => by kernel_rfl) (T.look (.slice A24 x14.length c24) (by kernel_rfl) (ld1 4 rfl rfl (fun _ => by kernel_rfl) (by rfl) rfl) ?_))))
        refine T.pk (pB b8 0) (fun _ => by kernel_rfl) (T.look (vi e6.i) (by kernel_rfl) (ld1 0 rfl rfl (fun _ => by kernel_rfl) (by rfl) rfl) ?_)
        refine T.step (W1.ns 3 [vi e6.i] (fun _ => by kernel_rfl) (fun b9 => ?_))
        obtain ⟨y9, hb20, hX3⟩ := ob hX3
        obtain ⟨hb20_r, hb20_m, rfl⟩ := grow_some hb20
        obtain ⟨ti, hti, hz1, hz2, hz3⟩ := ipBuildL_1
        refine T.step (W1.append (E := eInt) (l := x14) (m := [e6.i]) 4 _ _ 8 ti _ (by rfl) (by kernel_rfl) rfl (by kernel_rfl) hti hz1 hz2 hz3 rfl (by decide) rfl rfl (fun w' hh => (SlOk.srcF (slok_lit (E := eInt) (f := (fun x => [vi x])) [e6.i] (fun _ _ => rfl) (Nat.le_of_ble_eq_true (by rfl)) (fun j => hh.cellBox (i := 0) (by rfl) j)) (fun _ _ _ _ h => h))) hb20_r hb20_m (fun A32 c32 => ?_))
        refine T.pk (pB b7 2) (fun _ => by kernel_rfl) ?_
        let i25_ : HObj := row 3 eInt A32 c32 (x14 ++ [e6.i])
        let v51_ : List Value := [vi 2, sN, .slice A32 ((x14 ++ [e6.i]).length) c32, .slice A22 x12.length c22, .slice A23 x13.length c23]
        refine T.step (W1.st 5 v51_ ((box b9 3 [vi e6.i]) :: i24_ :: (row 43 eSpot A22 c22 x12) :: (row 3 eInt A23 c23 x13) :: i25_ :: (box b7 97 v51_) :: t22_) [.slice A32 ((x14 ++ [e6.i]).length) c32] (by rfl) rfl rfl rfl rfl rfl rfl (fun _ => by kernel_rfl) ?_)
        refine T.nil (T.seq ?_)
        obtain ⟨e7, hb21, hX3⟩ := ob hX3
        obtain ⟨r15, hb22, hX3⟩ := ob hX3
        obtain ⟨y10, hb23, hX3⟩ := ob hX3
        refine T.mid (fun a w' => ∃ (A38 : Option Addr) (c38 : Nat) (V21 : View), View.le V17 V21 ∧ Fr 166 [(2, pB b1 0), (7, pB b3 0), (8, .slice A19 x10.length c19), (12, .slice A17 x8.length c17), (14, vi e5), (15, pB b7 0), (16, vi x15), (17, pB b8 0), (93, .slice A16 r10.length c16), (94, vi (r10.length : Int)), (95, vi x11), (102, .slice A25 s6.length c25), (103, vi (s6.length : Int)), (104, vi x15)] a ∧ Hp w V21 (i24_ :: (row 43 eSpot A22 c22 x12) :: (row 3 eInt A38 c38 (x13 ++ [r15])) :: i25_ :: (box b7 97 [vi 2, sN, .slice A32 ((x14 ++ [e6.i]).length) c32, .slice A22 x12.length c22, .slice A38 ((x13 ++ [r15]).length) c38]) :: t22_) w') ?_ ?_
        ·
         refine T.held ((box b9 3 [vi e6.i]) :: i24_ :: (row 43 eSpot A22 c22 x12) :: i25_ :: i17_ :: t20_) (by kernel_rfl) ?_
         have w69_ := vt (vt (vt (vt (vt (vt (vt hV2 hV4) hV6) hV11) hV12) hV14) hV15) hV17
         refine TA.keep (Hp.old vr w69_ (kp3 (dr1 (kp1 (dr1 (kp1 (dr1 (kp1 (kp1 kp0)))))))) (oB2 (oR3 (oB1 (oB1 ol0))))) fun o77_ => ?_
         refine TA.tp 0 (pB b7 4) rfl (fun _ => by kernel_rfl) (fun _ _ _ h => h) o77_ ?_
         refine TA.tp 2 (pB b3 1) rfl (fun _ => by kernel_rfl) (fun _ _ _ h => h) o77_ ?_
         refine TA.tk 3 (.slice A18 x9.length c18) rfl (by kernel_rfl) (fun _ _ _ h => h) o77_ (ld1 5 rfl rfl (fun _ => by kernel_rfl) (by rfl) rfl) ?_
         refine TA.tp 4 (pB b8 0) rfl (fun _ => by kernel_rfl) (fun _ _ _ h => h) o77_ ?_
         refine TA.tk 5 (vi e6.i) rfl (by kernel_rfl) (fun _ _ _ h => h) o77_ (ld1 1 rfl rfl (fun _ => by kernel_rfl) (by rfl) rfl) ?_
         refine TA.all [1, 6] (by kernel_rfl) rfl ⟨?_, ?_, trivial⟩
         ·
          refine TA.br rfl (W1.look (.slice A23 x13.length c23) (by kernel_rfl) (ld1 5 rfl rfl (fun _ => by kernel_rfl) (by rfl) rfl) ?_)
          refine TA.on (Hp.old vr w69_ (kp3 (dr1 (kp1 (dr1 (kp1 (dr1 (kp1 (kp1 kp0)))))))) (oB2 (oR3 (oB1 (oB1 ol0))))) ?_
          refine TA.all [6] (by kernel_rfl) rfl ⟨?_, trivial⟩
          obtain ⟨hi19, hi20, hi21⟩ := idx_some hb21
          refine TA.br rfl (W1.look (.pointer (some ((sadr A18).add (e6.i.toNat * 5)))) (by kernel_rfl) (fun w' hh => exec_indexAddr (e := 97) (s := 5) rfl rfl rfl (by kernel_rfl) (by kernel_rfl) hi19 hi20 ((hh.row_slOk (i := 7) (by rfl)).some_ hi21 (Nat.le_of_ble_eq_true rfl))) ?_)
          refine TA.on (Hp.old vr w69_ (kp3 (dr1 (kp1 (dr1 (kp1 (dr1 (kp1 (kp1 kp0)))))))) (oB2 (oR3 (oB1 (oB1 ol0))))) ?_
          refine TA.all [7] (by kernel_rfl) rfl ⟨?_, trivial⟩
          refine TA.br rfl (W1.lookE (fun v => ∃ cs : List Value, v = .agg cs.toArray ∧ eNode.rep (made w V17) cs e7) (by kernel_rfl) (fun w' hh => ?_) ?_)
          ·
           obtain ⟨cs, hr, hl⟩ := hh.row_elem (i := 7) (by rfl) hi21
           exact ⟨.agg cs.toArray, exec_loadN (cs := cs) rfl rfl (by kernel_rfl) (by rw [show cs.length = 5 from Enc.len _ hr]; kernel_rfl) hl, cs, rfl, hr⟩
          rintro v ⟨cs1, rfl, hr6⟩
          obtain ⟨A33, c33, A34, c34, A35, c35, A36, c36, rfl, hs11, hs12, hs13, hs14⟩ := hr6
          refine TA.on (Hp.old vr w69_ (kp3 (dr1 (kp1 (dr1 (kp1 (dr1 (kp1 (kp1 kp0)))))))) (oB2 (oR3 (oB1 (oB1 ol0))))) ?_
          refine TA.all [8] (by kernel_rfl) rfl ⟨?_, trivial⟩
          refine TA.br rfl (W1.call (vSc eInt) r15 60 #[.agg #[vi e7.kind, .slice A33 e7.elems.length c33, .slice A34 e7.kids.length c34, .slice A35 e7.seps.length c35, .slice A36 e7.tids.length c36]] (by kernel_rfl) (fun _ => by kernel_rfl) (fun w' hh => node_Greatest_l F e7 r15 hb22 w' A33 c33 (SlOk.mono (SlOk.mono hs11 (vt (made_le _ _) vr)) hh.view) A34 c34 (SlOk.mono (SlOk.mono hs12 (vt (made_le _ _) vr)) hh.view) A35 c35 (SlOk.mono (SlOk.mono hs13 (vt (made_le _ _) vr)) hh.view) A36 c36 (SlOk.mono (SlOk.mono hs14 (vt (made_le _ _) vr)) hh.view)) ?_)
          intro u V20 hV20 hu
          obtain rfl := sureInt _ _ _ hu
          refine TA.on (Hp.old hV20 w69_ (kp3 (dr1 (kp1 (dr1 (kp1 (dr1 (kp1 (kp1 kp0)))))))) (oB2 (oR3 (oB1 (oB1 ol0))))) ?_
          refine TA.all [9] (by kernel_rfl) rfl ⟨?_, trivial⟩
          refine TA.br rfl (W1.ns 3 [vi r15] (fun _ => by kernel_rfl) (fun b10 => ?_))
          refine TA.on (Hp.old hV20 w69_ (dr1 (kp3 (dr1 (kp1 (dr1 (kp1 (dr1 (kp1 (kp1 kp0))))))))) (oB2 (oR3 (oB1 (oB1 ol0))))) ?_
          refine TA.all [10] (by kernel_rfl) rfl ⟨?_, trivial⟩
          obtain ⟨hb23_r, hb23_m, rfl⟩ := grow_some hb23
          obtain ⟨ti, hti, hz1, hz2, hz3⟩ := ipBuildL_1
          refine TA.br rfl (W1.append (E := eInt) (l := x13) (m := [r15]) 4 _ _ 8 ti _ (by rfl) (by kernel_rfl) rfl (by kernel_rfl) hti hz1 hz2 hz3 rfl (by decide) rfl rfl (fun w' hh => (SlOk.srcF (slok_lit (E := eInt) (f := (fun x => [vi x])) [r15] (fun _ _ => rfl) (Nat.le_of_ble_eq_true (by rfl)) (fun j => hh.cellBox (i := 0) (by rfl) j)) (fun _ _ _ _ h => h))) hb23_r hb23_m (fun A37 c37 => ?_))
          refine TA.onk (Hp.old hV20 w69_ (dr1 (kp3 (dr1 (kp1 (dr1 (kp1 (dr1 (kp1 (kp1 kp0))))))))) (oB2 (oR3 (oB1 (oB1 ol0))))) fun o78_ => ?_
          refine TA.tp 11 (pB b7 4) rfl (fun _ => by kernel_rfl) (fun _ _ _ h => h) o78_ ?_
          refine TA.all [12] (by kernel_rfl) rfl ⟨?_, trivial⟩
          let v52_ : List Value := [vi 2, sN, .slice A32 ((x14 ++ [e6.i]).length) c32, .slice A22 x12.length c22, .slice A37 ((x13 ++ [r15]).length) c37]
          refine TA.br rfl (W1.st 6 v52_ ((box b10 3 [vi r15]) :: (box b9 3 [vi e6.i]) :: i24_ :: (row 43 eSpot A22 c22 x12) :: (row 3 eInt A37 c37 (x13 ++ [r15])) :: i25_ :: (box b7 97 v52_) :: t22_) [.slice A37 ((x13 ++ [r15]).length) c37] (by rfl) rfl rfl rfl rfl rfl rfl (fun _ => by kernel_rfl) ?_)
          refine TA.on (Hp.old hV20 w69_ (dr1 (kp3 (dr1 (kp1 (dr1 (kp1 (dr1 (kp1 (kp1 kp0))))))))) (oB2 (oR3 (oB1 (oB1 ol0))))) ?_
          refine TA.done (by kernel_rfl) ?_
          exact fun a w' hf hh => ⟨A37, c37, V20, hV20, (Fr.sel hf rfl), (hh.sub (dr2 (kp8 (kp1 kp0))))⟩
         obtain ⟨hi19, hi20, hi21⟩ := idx_some hb21
         refine TA.br rfl (W1.look (.pointer (some ((sadr A18).add (e6.i.toNat * 5)))) (by kernel_rfl) (fun w' hh => exec_indexAddr (e := 97) (s := 5) rfl rfl rfl (by kernel_rfl) (by kernel_rfl) hi19 hi20 ((hh.row_slOk (i := 7) (by rfl)).some_ hi21 (Nat.le_of_ble_eq_true rfl))) ?_)
         refine TA.on (Hp.old vr w69_ (kp3 (dr1 (kp1 (dr1 (kp1 (dr1 (kp1 (kp1 kp0)))))))) (oB2 (oR3 (oB1 (oB1 ol0))))) ?_
         refine TA.all [1, 7] (by kernel_rfl) rfl ⟨?_, ?_, trivial⟩
         ·
          refine TA.br rfl (W1.look (.slice A23 x13.length c23) (by kernel_rfl) (ld1 5 rfl rfl (fun _ => by kernel_rfl) (by rfl) rfl) ?_)
          refine TA.on (Hp.old vr w69_ (kp3 (dr1 (kp1 (dr1 (kp1 (dr1 (kp1 (kp1 kp0)))))))) (oB2 (oR3 (oB1 (oB1 ol0))))) ?_
          refine TA.all [7] (by kernel_rfl) rfl ⟨?_, trivial⟩
          refine TA.br rfl (W1.lookE (fun v => ∃ cs : List Value, v = .agg cs.toArray ∧ eNode.rep (made w V17) cs e7) (by kernel_rfl) (fun w' hh => ?_) ?_)
          ·
           obtain ⟨cs, hr, hl⟩ := hh.row_elem (i := 7) (by rfl) hi21
           exact ⟨.agg cs.toArray, exec_loadN (cs := cs) rfl rfl (by kernel_rfl) (by rw [show cs.length = 5 from Enc.len _ hr]; kernel_rfl) hl, cs, rfl, hr⟩
          rintro v ⟨cs1, rfl, hr6⟩
          obtain ⟨A33, c33, A34, c34, A35, c35, A36, c36, rfl, hs11, hs12, hs13, hs14⟩ := hr6
          refine TA.on (Hp.old vr w69_ (kp3 (dr1 (kp1 (dr1 (kp1 (dr1 (kp1 (kp1 kp0)))))))) (oB2 (oR3 (oB1 (oB1 ol0))))) ?_
          refine TA.all [8] (by kernel_rfl) rfl ⟨?_, trivial⟩
          refine TA.br rfl (W1.call (vSc eInt) r15 60 #[.agg #[vi e7.kind, .slice A33 e7.elems.length c33, .slice A34 e7.kids.length c34, .slice A35 e7.seps.length c35, .slice A36 e7.tids.length c36]] (by kernel_rfl) (fun _ => by kernel_rfl) (fun w' hh => node_Greatest_l F e7 r15 hb22 w' A33 c33 (SlOk.mono (SlOk.mono hs11 (vt (made_le _ _) vr)) hh.view) A34 c34 (SlOk.mono (SlOk.mono hs12 (vt (made_le _ _) vr)) hh.view) A35 c35 (SlOk.mono (SlOk.mono hs13 (vt (made_le _ _) vr)) hh.view) A36 c36 (SlOk.mono (SlOk.mono hs14 (vt (made_le _ _) vr)) hh.view)) ?_)
          intro u V20 hV20 hu
          obtain rfl := sureInt _ _ _ hu
          refine TA.on (Hp.old hV20 w69_ (kp3 (dr1 (kp1 (dr1 (kp1 (dr1 (kp1 (kp1 kp0)))))))) (oB2 (oR3 (oB1 (oB1 ol0))))) ?_
          refine TA.all [9] (by kernel_rfl) rfl ⟨?_, trivial⟩
          refine TA.br rfl (W1.ns 3 [vi r15] (fun _ => by kernel_rfl) (fun b10 => ?_))
          refine TA.on (Hp.old hV20 w69_ (dr1 (kp3 (dr1 (kp1 (dr1 (kp1 (dr1 (kp1 (kp1 kp0))))))))) (oB2 (oR3 (oB1 (oB1 ol0))))) ?_
          refine TA.all [10] (by kernel_rfl) rfl ⟨?_, trivial⟩
          obtain ⟨hb23_r, hb23_m, rfl⟩ := grow_some hb23
          obtain ⟨ti, hti, hz1, hz2, hz3⟩ := ipBuildL_1
          refine TA.br rfl (W1.append (E := eInt) (l := x13) (m := [r15]) 4 _ _ 8 ti _ (by rfl) (by kernel_rfl) rfl (by kernel_rfl) hti hz1 hz2 hz3 rfl (by decide) rfl rfl (fun w' hh => (SlOk.srcF (slok_lit (E := eInt) (f := (fun x => [vi x])) [r15] (fun _ _ => rfl) (Nat.le_of_ble_eq_true (by rfl)) (fun j => hh.cellBox (i := 0) (by rfl) j)) (fun _ _ _ _ h => h))) hb23_r hb23_m (fun A37 c37 => ?_))
          refine TA.onk (Hp.old hV20 w69_ (dr1 (kp3 (dr1 (kp1 (dr1 (kp1 (dr1 (kp1 (kp1 kp0))))))))) (oB2 (oR3 (oB1 (oB1 ol0))))) fun o79_ => ?_
          refine TA.tp 11 (pB b7 4) rfl (fun _ => by kernel_rfl) (fun _ _ _ h => h) o79_ ?_
          refine TA.all [12] (by kernel_rfl) rfl ⟨?_, trivial⟩
          let v53_ : List Value := [vi 2, sN, .slice A32 ((x14 ++ [e6.i]).length) c32, .slice A22 x12.length c22, .slice A37 ((x13 ++ [r15]).length) c37]
          refine TA.br rfl (W1.st 6 v53_ ((box b10 3 [vi r15]) :: (box b9 3 [vi e6.i]) :: i24_ :: (row 43 eSpot A22 c22 x12) :: (row 3 eInt A37 c37 (x13 ++ [r15])) :: i25_ :: (box b7 97 v53_) :: t22_) [.slice A37 ((x13 ++ [r15]).length) c37] (by rfl) rfl rfl rfl rfl rfl rfl (fun _ => by kernel_rfl) ?_)
          refine TA.on (Hp.old hV20 w69_ (dr1 (kp3 (dr1 (kp1 (dr1 (kp1 (dr1 (kp1 (kp1 kp0))))))))) (oB2 (oR3 (oB1 (oB1 ol0))))) ?_
          refine TA.done (by kernel_rfl) ?_
          exact fun a w' hf hh => ⟨A37, c37, V20, hV20, (Fr.sel hf rfl), (hh.sub (dr2 (kp8 (kp1 kp0))))⟩
         refine TA.br rfl (W1.lookE (fun v => ∃ cs : List Value, v = .agg cs.toArray ∧ eNode.rep (made w V17) cs e7) (by kernel_rfl) (fun w' hh => ?_) ?_)
         ·
          obtain ⟨cs, hr, hl⟩ := hh.row_elem (i := 7) (by rfl) hi21
          exact ⟨.agg cs.toArray, exec_loadN (cs := cs) rfl rfl (by kernel_rfl) (by rw [show cs.length = 5 from Enc.len _ hr]; kernel_rfl) hl, cs, rfl, hr⟩
         rintro v ⟨cs1, rfl, hr6⟩
         obtain ⟨A33, c33, A34, c34, A35, c35, A36, c36, rfl, hs11, hs12, hs13, hs14⟩ := hr6
         refine TA.on (Hp.old vr w69_ (kp3 (dr1 (kp1 (dr1 (kp1 (dr1 (kp1 (kp1 kp0)))))))) (oB2 (oR3 (oB1 (oB1 ol0))))) ?_
         refine TA.all [1, 8] (by kernel_rfl) rfl ⟨?_, ?_, trivial⟩
         ·
          refine TA.br rfl (W1.look (.slice A23 x13.length c23) (by kernel_rfl) (ld1 5 rfl rfl (fun _ => by kernel_rfl) (by rfl) rfl) ?_)
          refine TA.on (Hp.old vr w69_ (kp3 (dr1 (kp1 (dr1 (kp1 (dr1 (kp1 (kp1 kp0)))))))) (oB2 (oR3 (oB1 (oB1 ol0))))) ?_
          refine TA.all [8] (by kernel_rfl) rfl ⟨?_, trivial⟩
          refine TA.br rfl (W1.call (vSc eInt) r15 60 #[.agg #[vi e7.kind, .slice A33 e7.elems.length c33, .slice A34 e7.kids.length c34, .slice A35 e7.seps.length c35, .slice A36 e7.tids.length c36]] (by kernel_rfl) (fun _ => by kernel_rfl) (fun w' hh => node_Greatest_l F e7 r15 hb22 w' A33 c33 (SlOk.mono (SlOk.mono hs11 (vt (made_le _ _) vr)) hh.view) A34 c34 (SlOk.mono (SlOk.mono hs12 (vt (made_le _ _) vr)) hh.view) A35 c35 (SlOk.mono (SlOk.mono hs13 (vt (made_le _ _) vr)) hh.view) A36 c36 (SlOk.mono (SlOk.mono hs14 (vt (made_le _ _) vr)) hh.view)) ?_)
          intro u V20 hV20 hu
          obtain rfl := sureInt _ _ _ hu
          refine TA.on (Hp.old hV20 w69_ (kp3 (dr1 (kp1 (dr1 (kp1 (dr1 (kp1 (kp1 kp0)))))))) (oB2 (oR3 (oB1 (oB1 ol0))))) ?_
          refine TA.all [9] (by kernel_rfl) rfl ⟨?_, trivial⟩
          refine TA.br rfl (W1.ns 3 [vi r15] (fun _ => by kernel_rfl) (fun b10 => ?_))
          refine TA.on (Hp.old hV20 w69_ (dr1 (kp3 (dr1 (kp1 (dr1 (kp1 (dr1 (kp1 (kp1 kp0))))))))) (oB2 (oR3 (oB1 (oB1 ol0))))) ?_
          refine TA.all [10] (by kernel_rfl) rfl ⟨?_, trivial⟩
          obtain ⟨hb23_r, hb23_m, rfl⟩ := grow_some hb23
          obtain ⟨ti, hti, hz1, hz2, hz3⟩ := ipBuildL_1
          refine TA.br rfl (W1.append (E := eInt) (l := x13) (m := [r15]) 4 _ _ 8 ti _ (by rfl) (by kernel_rfl) rfl (by kernel_rfl) hti hz1 hz2 hz3 rfl (by decide) rfl rfl (fun w' hh => (SlOk.srcF (slok_lit (E := eInt) (f := (fun x => [vi x])) [r15] (fun _ _ => rfl) (Nat.le_of_ble_eq_true (by rfl)) (fun j => hh.cellBox (i := 0) (by rfl) j)) (fun _ _ _ _ h => h))) hb23_r hb23_m (fun A37 c37 => ?_))
          refine TA.onk (Hp.old hV20 w69_ (dr1 (kp3 (dr1 (kp1 (dr1 (kp1 (dr1 (kp1 (kp1 kp0))))))))) (oB2 (oR3 (oB1 (oB1 ol0))))) fun o80_ => ?_
          refine TA.tp 11 (pB b7 4) rfl (fun _ => by kernel_rfl) (fun _ _ _ h => h) o80_ ?_
          refine TA.all [12] (by kernel_rfl) rfl ⟨?_, trivial⟩
          let v54_ : List Value := [vi 2, sN, .slice A32 ((x14 ++ [e6.i]).length) c32, .slice A22 x12.length c22, .slice A37 ((x13 ++ [r15]).length) c37]
          refine TA.br rfl (W1.st 6 v54_ ((box b10 3 [vi r15]) :: (box b9 3 [vi e6.i]) :: i24_ :: (row 43 eSpot A22 c22 x12) :: (row 3 eInt A37 c37 (x13 ++ [r15])) :: i25_ :: (box b7 97 v54_) :: t22_) [.slice A37 ((x13 ++ [r15]).length) c37] (by rfl) rfl rfl rfl rfl rfl rfl (fun _ => by kernel_rfl) ?_)
          refine TA.on (Hp.old hV20 w69_ (dr1 (kp3 (dr1 (kp1 (dr1 (kp1 (dr1 (kp1 (kp1 kp0))))))))) (oB2 (oR3 (oB1 (oB1 ol0))))) ?_
          refine TA.done (by kernel_rfl) ?_
          exact fun a w' hf hh => ⟨A37, c37, V20, hV20, (Fr.sel hf rfl), (hh.sub (dr2 (kp8 (kp1 kp0))))⟩
         refine TA.br rfl (W1.call (vSc eInt) r15 60 #[.agg #[vi e7.kind, .slice A33 e7.elems.length c33, .slice A34 e7.kids.length c34, .slice A35 e7.seps.length c35, .slice A36 e7.tids.length c36]] (by kernel_rfl) (fun _ => by kernel_rfl) (fun w' hh => node_Greatest_l F e7 r15 hb22 w' A33 c33 (SlOk.mono (SlOk.mono hs11 (vt (made_le _ _) vr)) hh.view) A34 c34 (SlOk.mono (SlOk.mono hs12 (vt (made_le _ _) vr)) hh.view) A35 c35 (SlOk.mono (SlOk.mono hs13 (vt (made_le _ _) vr)) hh.view) A36 c36 (SlOk.mono (SlOk.mono hs14 (vt (made_le _ _) vr)) hh.view)) ?_)
         intro u V20 hV20 hu
         obtain rfl := sureInt _ _ _ hu
         refine TA.on (Hp.old hV20 w69_ (kp3 (dr1 (kp1 (dr1 (kp1 (dr1 (kp1 (kp1 kp0)))))))) (oB2 (oR3 (oB1 (oB1 ol0))))) ?_
         refine TA.all [1, 9] (by kernel_rfl) rfl ⟨?_, ?_, trivial⟩
         ·
          refine TA.br rfl (W1.look (.slice A23 x13.length c23) (by kernel_rfl) (ld1 5 rfl rfl (fun _ => by kernel_rfl) (by rfl) rfl) ?_)
          refine TA.on (Hp.old hV20 w69_ (kp3 (dr1 (kp1 (dr1 (kp1 (dr1 (kp1 (kp1 kp0)))))))) (oB2 (oR3 (oB1 (oB1 ol0))))) ?_
          refine TA.all [9] (by kernel_rfl) rfl ⟨?_, trivial⟩
          refine TA.br rfl (W1.ns 3 [vi r15] (fun _ => by kernel_rfl) (fun b10 => ?_))
          refine TA.on (Hp.old hV20 w69_ (dr1 (kp3 (dr1 (kp1 (dr1 (kp1 (dr1 (kp1 (kp1 kp0))))))))) (oB2 (oR3 (oB1 (oB1 ol0))))) ?_
          refine TA.all [10] (by kernel_rfl) rfl ⟨?_, trivial⟩
          obtain ⟨hb23_r, hb23_m, rfl⟩ := grow_some hb23
          obtain ⟨ti, hti, hz1, hz2, hz3⟩ := ipBuildL_1
          refine TA.br rfl (W1.append (E := eInt) (l := x13) (m := [r15]) 4 _ _ 8 ti _ (by rfl) (by kernel_rfl) rfl (by kernel_rfl) hti hz1 hz2 hz3 rfl (by decide) rfl rfl (fun w' hh => (SlOk.srcF (slok_lit (E := eInt) (f := (fun x => [vi x])) [r15] (fun _ _ => rfl) (Nat.le_of_ble_eq_true (by rfl)) (fun j => hh.cellBox (i := 0) (by rfl) j)) (fun _ _ _ _ h => h))) hb23_r hb23_m (fun A37 c37 => ?_))
          refine TA.onk (Hp.old hV20 w69_ (dr1 (kp3 (dr1 (kp1 (dr1 (kp1 (dr1 (kp1 (kp1 kp0))))))))) (oB2 (oR3 (oB1 (oB1 ol0))))) fun o81_ => ?_
          refine TA.tp 11 (pB b7 4) rfl (fun _ => by kernel_rfl) (fun _ _ _ h => h) o81_ ?_
          refine TA.all [12] (by kernel_rfl) rfl ⟨?_, trivial⟩
          let v55_ : List Value := [vi 2, sN, .slice A32 ((x14 ++ [e6.i]).length) c32, .slice A22 x12.length c22, .slice A37 ((x13 ++ [r15]).length) c37]
          refine TA.br rfl (W1.st 6 v55_ ((box b10 3 [vi r15]) :: (box b9 3 [vi e6.i]) :: i24_ :: (row 43 eSpot A22 c22 x12) :: (row 3 eInt A37 c37 (x13 ++ [r15])) :: i25_ :: (box b7 97 v55_) :: t22_) [.slice A37 ((x13 ++ [r15]).length) c37] (by rfl) rfl rfl rfl rfl rfl rfl (fun _ => by kernel_rfl) ?_)
          refine TA.on (Hp.old hV20 w69_ (dr1 (kp3 (dr1 (kp1 (dr1 (kp1 (dr1 (kp1 (kp1 kp0))))))))) (oB2 (oR3 (oB1 (oB1 ol0))))) ?_
          refine TA.done (by kernel_rfl) ?_
          exact fun a w' hf hh => ⟨A37, c37, V20, hV20, (Fr.sel hf rfl), (hh.sub (dr2 (kp8 (kp1 kp0))))⟩
         refine TA.br rfl (W1.ns 3 [vi r15] (fun _ => by kernel_rfl) (fun b10 => ?_))
         refine TA.on (Hp.old hV20 w69_ (dr1 (kp3 (dr1 (kp1 (dr1 (kp1 (dr1 (kp1 (kp1 kp0))))))))) (oB2 (oR3 (oB1 (oB1 ol0))))) ?_
         refine TA.all [1] (by kernel_rfl) rfl ⟨?_, trivial⟩
         refine TA.br rfl (W1.look (.slice A23 x13.length c23) (by kernel_rfl) (ld1 6 rfl rfl (fun _ => by kernel_rfl) (by rfl) rfl) ?_)
         refine TA.on (Hp.old hV20 w69_ (dr1 (kp3 (dr1 (kp1 (dr1 (kp1 (dr1 (kp1 (kp1 kp0))))))))) (oB2 (oR3 (oB1 (oB1 ol0))))) ?_
         refine TA.all [10] (by kernel_rfl) rfl ⟨?_, trivial⟩
         obtain ⟨hb23_r, hb23_m, rfl⟩ := grow_some hb23
         obtain ⟨ti, hti, hz1, hz2, hz3⟩ := ipBuildL_1
         refine TA.br rfl (W1.append (E := eInt) (l := x13) (m := [r15]) 4 _ _ 8 ti _ (by rfl) (by kernel_rfl) rfl (by kernel_rfl) hti hz1 hz2 hz3 rfl (by decide) rfl rfl (fun w' hh => (SlOk.srcF (slok_lit (E := eInt) (f := (fun x => [vi x])) [r15] (fun _ _ => rfl) (Nat.le_of_ble_eq_true (by rfl)) (fun j => hh.cellBox (i := 0) (by rfl) j)) (fun _ _ _ _ h => h))) hb23_r hb23_m (fun A37 c37 => ?_))
         refine TA.onk (Hp.old hV20 w69_ (dr1 (kp3 (dr1 (kp1 (dr1 (kp1 (dr1 (kp1 (kp1 kp0))))))))) (oB2 (oR3 (oB1 (oB1 ol0))))) fun o82_ => ?_
         refine TA.tp 11 (pB b7 4) rfl (fun _ => by kernel_rfl) (fun _ _ _ h => h) o82_ ?_
         refine TA.all [12] (by kernel_rfl) rfl ⟨?_, trivial⟩
         let v56_ : List Value := [vi 2, sN, .slice A32 ((x14 ++ [e6.i]).length) c32, .slice A22 x12.length c22, .slice A37 ((x13 ++ [r15]).length) c37]
         refine TA.br rfl (W1.st 6 v56_ ((box b10 3 [vi r15]) :: (box b9 3 [vi e6.i]) :: i24_ :: (row 43 eSpot A22 c22 x12) :: (row 3 eInt A37 c37 (x13 ++ [r15])) :: i25_ :: (box b7 97 v56_) :: t22_) [.slice A37 ((x13 ++ [r15]).length) c37] (by rfl) rfl rfl rfl rfl rfl rfl (fun _ => by kernel_rfl) ?_)
         refine TA.on (Hp.old hV20 w69_ (dr1 (kp3 (dr1 (kp1 (dr1 (kp1 (dr1 (kp1 (kp1 kp0))))))))) (oB2 (oR3 (oB1 (oB1 ol0))))) ?_
         refine TA.done (by kernel_rfl) ?_
         exact fun a w' hf hh => ⟨A37, c37, V20, hV20, (Fr.sel hf rfl), (hh.sub (dr2 (kp8 (kp1 kp0))))⟩
        rintro a w' ⟨A38, c38, V21, hV21, hf, hh⟩
        let i26_ : HObj := row 3 eInt A38 c38 (x13 ++ [r15])
        refine (?_ : T 166 w V21 (i24_ :: (row 43 eSpot A22 c22 x12) :: i26_ :: i25_ :: (box b7 97 [vi 2, sN, .slice A32 ((x14 ++ [e6.i]).length) c32, .slice A22 x12.length c22, .slice A38 ((x13 ++ [r15]).length) c38]) :: t22_) [(2, pB b1 0), (7, pB b3 0), (8, .slice A19 x10.length c19), (12, .slice A17 x8.length c17), (14, vi e5), (15, pB b7 0), (16, vi x15), (17, pB b8 0), (93, .slice A16 r10.length c16), (94, vi (r10.length : Int)), (95, vi x11), (102, .slice A25 s6.length c25), (103, vi (s6.length : Int)), (104, vi x15)] _) a w' hf hh
        clear hf hh
        refine T.seq (T.region (T.p2 (vi x15) (.bool (decide ((0 : Int) < x15))) (fun _ => by kernel_rfl) (T.nil ?_)))
        refine T.cond (decide ((0 : Int) < x15)) (by kernel_rfl) (by kernel_rfl) (fun hc10 => ?_) (fun hc10 => ?_)
        ·
         rw [hc10, cond_true] at hX3
         refine T.region (T.pk (pB b7 3) (fun _ => by kernel_rfl) (T.look (.slice A22 x12.length c22) (by kernel_rfl) (ld1 4 rfl rfl (fun _ => by kernel_rfl) (by rfl) rfl) ?_))
         refine T.pk (pB b8 1) (fun _ => by kernel_rfl) ?_
         let v57_ : List Value := [vi e6.s.key.pfs, vi e6.s.key.obj, vi e6.s.key.off, vi e6.s.made]
         refine T.look (.agg #[vi e6.s.key.pfs, vi e6.s.key.obj, vi e6.s.key.off, vi e6.s.made]) (by kernel_rfl) (ldN 0 rfl rfl (fun _ => by kernel_rfl) (by rfl) rfl) ?_
         refine T.step (W1.ns 43 v57_ (fun _ => by kernel_rfl) (fun b11 => ?_))
         obtain ⟨y11, hb24, hX3⟩ := ob hX3
         obtain ⟨hb24_r, hb24_m, rfl⟩ := grow_some hb24
         obtain ⟨ti, hti, hz1, hz2, hz3⟩ := ipBuildL_5
         refine T.step (W1.append (E := eSpot) (l := x12) (m := [e6.s]) 2 _ _ 32 ti _ (by rfl) (by kernel_rfl) rfl (by kernel_rfl) hti hz1 hz2 hz3 rfl (by decide) rfl rfl (fun w' hh => (SlOk.srcF (slok_lit (E := eSpot) (f := DSpot.cells) [e6.s] (fun _ _ => rfl) (Nat.le_of_ble_eq_true (by rfl)) (fun j => hh.cellBox (i := 0) (by rfl) j)) (fun _ _ _ _ h => h))) hb24_r hb24_m (fun A39 c39 => ?_))
         refine T.pk (pB b7 3) (fun _ => by kernel_rfl) ?_
         let v58_ : List Value := [vi 2, sN, .slice A32 ((x14 ++ [e6.i]).length) c32, .slice A39 ((x12 ++ [e6.s]).length) c39, .slice A38 ((x13 ++ [r15]).length) c38]
         refine T.step (W1.st 5 v58_ ((box b11 43 v57_) :: i24_ :: (row 43 eSpot A39 c39 (x12 ++ [e6.s])) :: i26_ :: i25_ :: (box b7 97 v58_) :: t22_) [.slice A39 ((x12 ++ [e6.s]).length) c39] (by rfl) rfl rfl rfl rfl rfl rfl (fun _ => by kernel_rfl) ?_)
         refine T.nil ?_
         cases hX3
         exact fun a w' hf hh => ⟨(x12 ++ [e6.s]), (x13 ++ [r15]), (x14 ++ [e6.i]), rfl, A39, c39, A38, c38, A32, c32, V21, hV21, (Fr.sel hf rfl), (hh.sub (dr2 (kp7 (kp1 kp0))))⟩
        rw [hc10, cond_false] at hX3
        refine T.skip_code ?_
        cases hX3
        exact fun a w' hf hh => ⟨x12, (x13 ++ [r15]), (x14 ++ [e6.i]), rfl, A22, c22, A38, c38, A32, c32, V21, hV21, (Fr.sel hf rfl), (hh.sub (dr1 (kp7 (kp1 kp0))))⟩
       rintro a w' ⟨z15, z16, z17, rfl, A29, c29, A30, c30, A31, c31, V19, hV19, hf, hh⟩
       try dsimp only at hY5
       refine (?_ : T 166 w V19 ((row 43 eSpot A29 c29 z15) :: (row 3 eInt A30 c30 z16) :: (row 3 eInt A31 c31 z17) :: (box b7 97 [vi 2, sN, .slice A31 z17.length c31, .slice A29 z15.length c29, .slice A30 z16.length c30]) :: t22_) [(2, pB b1 0), (7, pB b3 0), (8, .slice A19 x10.length c19), (12, .slice A17 x8.length c17), (14, vi e5), (15, pB b7 0), (93, .slice A16 r10.length c16), (94, vi (r10.length : Int)), (95, vi x11), (102, .slice A25 s6.length c25), (103, vi (s6.length : Int)), (104, vi x15)] _) a w' hf hh
       clear hf hh
       refine T.region (T.p2 (vi (IntKind.i64.wrap (x15 + 1))) (vi (IntKind.i64.wrap (x15 + 1))) (fun _ => by kernel_rfl) (T.nil ?_))
       cases hY5
       exact fun a w' hf hh => ⟨(z15, z16, z17, IntKind.i64.wrap (x15 + 1)), rfl, z15, z16, z17, (IntKind.i64.wrap (x15 + 1)), rfl, A29, c29, A30, c30, A31, c31, A25, c25, V19, (vt hV17 hV19), (SlOk.mono hs10 (made_mono hV19)), (Fr.sel hf rfl), (hh.sub (kp7 (kp1 kp0)))⟩
      rw [hc9, cond_false] at hY5
      refine T.exit ?_
      cases hY5
      cases (hr5 _ rfl)
      exact fun a w' hf hh => ⟨x12, x13, x14, rfl, A22, c22, A23, c23, A24, c24, V17, hV17, (Fr.sel hf rfl), (hh.sub (kp7 (kp1 kp0)))⟩
     rintro a w' ⟨z12, z13, z14, rfl, A26, c26, A27, c27, A28, c28, V18, hV18, hf, hh⟩
     try dsimp only at hY4
     let v59_ : List Value := [vi 2, sN, .slice A28 z14.length c28, .slice A26 z12.length c26, .slice A27 z13.length c27]
     let i27_ : HObj := box b7 97 v59_
     refine (?_ : T 166 w V18 ((row 43 eSpot A26 c26 z12) :: (row 3 eInt A27 c27 z13) :: (row 3 eInt A28 c28 z14) :: i27_ :: t22_) [(2, pB b1 0), (7, pB b3 0), (8, .slice A19 x10.length c19), (12, .slice A17 x8.length c17), (14, vi e5), (15, pB b7 0), (93, .slice A16 r10.length c16), (94, vi (r10.length : Int)), (95, vi x11)] _) a w' hf hh
     clear hf hh
     refine T.seq ?_
     refine T.held ((row 43 eSpot A26 c26 z12) :: (row 3 eInt A27 c27 z13) :: (row 3 eInt A28 c28 z14) :: i27_ :: t20_) (by kernel_rfl) ?_
     have w70_ := vt (vt (vt (vt (vt (vt (vt hV2 hV4) hV6) hV11) hV12) hV14) hV15) hV18
     refine TA.keep (Hp.old vr w70_ (kp4 (dr2 (kp1 (kp1 kp0)))) (oR3 (oB2 (oB1 ol0)))) fun o83_ => ?_
     refine TA.tp 0 (.slice A17 x8.length c17) rfl (fun _ => by kernel_rfl) (fun _ _ _ h => h) o83_ ?_
     refine TA.tp 1 (pB b3 1) rfl (fun _ => by kernel_rfl) (fun _ _ _ h => h) o83_ ?_
     refine TA.tk 2 (.slice A18 x9.length c18) rfl (by kernel_rfl) (fun _ _ _ h => h) o83_ (ld1 4 rfl rfl (fun _ => by kernel_rfl) (by rfl) rfl) ?_
     refine TA.tp 3 (vi (x9.length : Int)) rfl (fun _ => by kernel_rfl) (fun _ _ _ h => h) o83_ ?_
     refine TA.tp 4 (.slice A19 x10.length c19) rfl (fun _ => by kernel_rfl) (fun _ _ _ h => h) o83_ ?_
     obtain ⟨e8, hb25, hY4⟩ := ob hY4
     obtain ⟨hi22, hi23, hi24⟩ := idx_some hb25
     refine TA.tk 5 (.pointer (some ((sadr A19).add (((0 : Int).toNat) * 5)))) rfl (by kernel_rfl) (fun _ _ _ h => h) o83_ (fun w' hh => exec_indexAddr (e := 123) (s := 5) rfl rfl rfl (by kernel_rfl) (by kernel_rfl) hi22 hi23 ((SlOk.mono hs9 (vt (made_le _ _) hV18)).some_ hi24 (by decide))) ?_
     refine TA.tp 6 (.pointer (some (((sadr A19).add (((0 : Int).toNat) * 5)).add 1))) rfl (fun _ => by kernel_rfl) (fun _ _ _ h => h) o83_ ?_
     refine TA.tk 7 (.agg #[vi e8.s.key.pfs, vi e8.s.key.obj, vi e8.s.key.off, vi e8.s.made]) rfl (by kernel_rfl) (fun _ _ _ h => h) o83_ (fun w' hh => exec_loadN (cs := [vi e8.s.key.pfs, vi e8.s.key.obj, vi e8.s.key.off, vi e8.s.made]) rfl rfl (by kernel_rfl) (by kernel_rfl) (fun j u hj => (hh.cell_view (SlOk.cellFG (E := ebuild_low) (SlOk.mono hs9 (vt (made_le _ _) hV18)) hi24 1 j (fun _ _ _ h => h) (seg_at (n := 4) rfl hj))))) ?_
     refine TA.tp 8 (.agg #[vi (x9.length : Int), vi e8.s.key.pfs, vi e8.s.key.obj, vi e8.s.key.off, vi e8.s.made]) rfl (fun _ => by kernel_rfl) (fun _ _ _ h => h) o83_ ?_
     refine TA.all [9] (by kernel_rfl) rfl ⟨?_, trivial⟩
     let v60_ : List Value := [vi (x9.length : Int), vi e8.s.key.pfs, vi e8.s.key.obj, vi e8.s.key.off, vi e8.s.made]
     refine TA.br rfl (W1.ns 123 v60_ (fun _ => by kernel_rfl) (fun b12 => ?_))
     refine TA.on (Hp.old vr w70_ (dr1 (kp4 (dr2 (kp1 (kp1 kp0))))) (oR3 (oB2 (oB1 ol0)))) ?_
     refine TA.all [10] (by kernel_rfl) rfl ⟨?_, trivial⟩
     obtain ⟨y12, hb26, hY4⟩ := ob hY4
     obtain ⟨hb26_r, hb26_m, rfl⟩ := grow_some hb26
     obtain ⟨ti, hti, hz1, hz2, hz3⟩ := ipBuildL_4
     refine TA.br rfl (W1.append (E := ebuild_low) (l := x8) (m := [(Dbuild_low.mk (x9.length : Int) e8.s)]) 5 _ _ 40 ti _ (by rfl) (by kernel_rfl) rfl (by kernel_rfl) hti hz1 hz2 hz3 rfl (by decide) rfl rfl (fun w' hh => (SlOk.srcF (slok_lit (E := ebuild_low) (f := Dbuild_low.cells) [(Dbuild_low.mk (x9.length : Int) e8.s)] (fun _ _ => rfl) (Nat.le_of_ble_eq_true (by rfl)) (fun j => hh.cellBox (i := 0) (by rfl) j)) (fun _ _ _ _ h => h))) hb26_r hb26_m (fun A40 c40 => ?_))
     refine TA.onk (Hp.old vr w70_ (dr1 (kp4 (dr2 (kp1 (kp1 kp0))))) (oR3 (oB2 (oB1 ol0)))) fun o84_ => ?_
     refine TA.tp 11 (.slice A40 ((x8 ++ [(Dbuild_low.mk (x9.length : Int) e8.s)]).length) c40) rfl (fun _ => by kernel_rfl) (fun _ _ _ h => h) o84_ ?_
     refine TA.done (by kernel_rfl) ?_
     refine T.seq (T.region (T.pk (pB b3 1) (fun _ => by kernel_rfl) (T.look (.slice A18 x9.length c18) (by kernel_rfl) (ld1 7 rfl rfl (fun _ => by kernel_rfl) (by rfl) rfl) ?_)))
     refine T.look (.agg #[vi 2, sN, .slice A28 z14.length c28, .slice A26 z12.length c26, .slice A27 z13.length c27]) (by kernel_rfl) (ldN 4 rfl rfl (fun _ => by kernel_rfl) (by rfl) rfl) ?_
     refine T.step (W1.ns 97 v59_ (fun _ => by kernel_rfl) (fun b13 => ?_))
     let i28_ : HObj := box b13 97 v59_
     let i29_ : HObj := box b12 123 v60_
     let i30_ : HObj := row 123 ebuild_low A40 c40 (x8 ++ [(Dbuild_low.mk (x9.length : Int) e8.s)])
     let t31_ : List HObj := i30_ :: t21_
     let t32_ : List HObj := i27_ :: t31_
     refine T.freezeF (E := eInt) (H' := (i28_ :: i29_ :: (row 43 eSpot A26 c26 z12) :: (row 3 eInt A27 c27 z13) :: t32_)) 4 (by rfl) rfl (fun _ _ _ _ h => h) (fun V22 hV22 hs15 => ?_)
     refine T.freezeF (E := eSpot) (H' := (i28_ :: i29_ :: (row 3 eInt A27 c27 z13) :: t32_)) 2 (by rfl) rfl (fun _ _ _ _ h => h) (fun V23 hV23 hs16 => ?_)
     refine T.freezeF (E := eInt) (H' := (i28_ :: i29_ :: t32_)) 2 (by rfl) rfl (fun _ _ _ _ h => h) (fun V24 hV24 hs17 => ?_)
     obtain ⟨y13, hb27, hY4⟩ := ob hY4
     obtain ⟨hb27_r, hb27_m, rfl⟩ := grow_some hb27
     obtain ⟨ti, hti, hz1, hz2, hz3⟩ := ipBuildL_3
     refine T.step (W1.append (E := (eAt w eNode)) (l := x9) (m := [(DNode.mk 2 [] z14 z12 z13)]) 4 _ _ 104 ti _ (by rfl) (by kernel_rfl) rfl (by kernel_rfl) hti hz1 hz2 hz3 rfl (Nat.le_of_ble_eq_true rfl) rfl rfl (fun w' hh => (src_one (E := (eAt w eNode)) hh (i := 0) (by rfl) ⟨none, 0, A28, c28, A26, c26, A27, c27, rfl, (SlOk.nil _ _), (SlOk.mono hs15 (made_mono (vt hV23 hV24))), (SlOk.mono hs16 (made_mono hV24)), (SlOk.mono hs17 (made_mono vr))⟩)) hb27_r hb27_m (fun A41 c41 => ?_))
     refine T.pk (pB b3 1) (fun _ => by kernel_rfl) ?_
     let v61_ : List Value := [vi 0, .slice A41 ((x9 ++ [(DNode.mk 2 [] z14 z12 z13)]).length) c41]
     refine T.step (W1.st 5 v61_ (i28_ :: i29_ :: i27_ :: i30_ :: (row 97 (eAt w eNode) A41 c41 (x9 ++ [(DNode.mk 2 [] z14 z12 z13)])) :: (box b3 24 v61_) :: i3_ :: []) [.slice A41 ((x9 ++ [(DNode.mk 2 [] z14 z12 z13)]).length) c41] (by rfl) rfl rfl rfl rfl rfl rfl (fun _ => by kernel_rfl) ?_)
     refine T.nil (T.region (T.p2 (.slice A19 x10.length c19) (vi e5) (fun _ => by kernel_rfl) ?_))
     obtain ⟨s8, hb28, hY4⟩ := ob hY4
     refine T.look (.slice (cutA A19 c19 e5.toNat 5) s8.length (c19 - e5.toNat)) (by kernel_rfl) (fun w' hh => exec_slice_list (e := 123) (s := 5) (lx := (some _)) (hx := none) (k := .i64) (k' := .i64) rfl rfl (by kernel_rfl) (by kernel_rfl) ((SlOk.mono hs9 (vt (made_le _ _) (vt (vt (vt hV18 hV22) hV23) hV24)))).1 rfl rfl hb28) ?_
     refine T.pk (.slice (cutA A19 c19 e5.toNat 5) s8.length (c19 - e5.toNat)) (fun _ => by kernel_rfl) (T.nil (T.region (T.p2 (vi (IntKind.i64.wrap (x11 + 1))) (vi (IntKind.i64.wrap (x11 + 1))) (fun _ => by kernel_rfl) (T.nil ?_))))
     cases hY4
     exact fun a w' hf hh => ⟨((x8 ++ [(Dbuild_low.mk (x9.length : Int) e8.s)]), (x9 ++ [(DNode.mk 2 [] z14 z12 z13)]), s8, IntKind.i64.wrap (x11 + 1)), rfl, (x8 ++ [(Dbuild_low.mk (x9.length : Int) e8.s)]), (x9 ++ [(DNode.mk 2 [] z14 z12 z13)]), s8, (IntKind.i64.wrap (x11 + 1)), rfl, A40, c40, A41, c41, (cutA A19 c19 e5.toNat 5), (c19 - e5.toNat), V24, (vt (vt (vt (vt hV15 hV18) hV22) hV23) hV24), (SlOk.cut (SlOk.mono hs9 (made_mono (vt (vt (vt hV18 hV22) hV23) hV24))) hb28), (Fr.sel hf rfl), (hh.sub (dr3 (kp3 (kp1 kp0))))⟩
    rw [hc8, cond_false] at hY4
    refine T.exit ?_
    cases hY4
    cases (hr4 _ rfl)
    exact fun a w' hf hh => ⟨x8, x9, rfl, A17, c17, A18, c18, V15, hV15, (Fr.sel hf rfl), (hh.sub (kp3 (kp1 kp0)))⟩
   rintro a w' ⟨z10, z11, rfl, A20, c20, A21, c21, V16, hV16, hf, hh⟩
   try dsimp only at hY3
   let i33_ : HObj := row 97 (eAt w eNode) A21 c21 z11
   let i34_ : HObj := box b3 24 [vi 0, .slice A21 z11.length c21]
   refine (?_ : T 166 w V16 ((row 123 ebuild_low A20 c20 z10) :: i33_ :: i34_ :: i3_ :: []) [(2, pB b1 0), (7, pB b3 0), (12, .slice A20 z10.length c20)] _) a w' hf hh
   clear hf hh
   refine T.region (T.p2 (.slice A20 z10.length c20) (.slice A20 z10.length c20) (fun _ => by kernel_rfl) (T.nil ?_))
   refine T.freezeF (E := ebuild_low) (H' := (i33_ :: i34_ :: i3_ :: [])) 0 (by rfl) rfl (fun _ _ _ _ h => h) (fun V25 hV25 hs18 => ?_)
   cases hY3
   exact fun a w' hf hh => ⟨(z11, z10), rfl, z11, z10, rfl, A21, c21, A20, c20, V25, (vt (vt (vt hV12 hV14) hV16) hV25), (SlOk.mono hs18 (made_mono vr)), (Fr.sel hf rfl), (hh.sub (kp2 (kp1 kp0)))⟩
  rw [hc7, cond_false] at hY3
  refine T.exit ?_
  cases hY3
  cases (hr3 _ rfl)
  exact fun a w' hf hh => ⟨x6, x7, rfl, A12, c12, A13, c13, V12, hV12, (SlOk.mono hs6 (made_mono vr)), (Fr.sel hf rfl), (hh.sub (kp2 (kp1 kp0)))⟩
 rintro a w' ⟨z8, z9, rfl, A14, c14, A15, c15, V13, hV13, hs7, hf, hh⟩
 try dsimp only at hF
 let i35_ : HObj := row 97 (eAt w eNode) A14 c14 z8
 refine (?_ : T 166 w V13 (i35_ :: (box b3 24 [vi 0, .slice A14 z8.length c14]) :: i3_ :: []) [(2, pB b1 0), (7, pB b3 0), (8, .slice A15 z9.length c15)] _) a w' hf hh
 clear hf hh
 refine T.seq (T.region (T.pk (.slice A15 z9.length c15) (fun _ => by kernel_rfl) ?_))
 obtain ⟨e9, hb29, hF⟩ := ob hF
 obtain ⟨hi25, hi26, hi27⟩ := idx_some hb29
 refine T.look (.pointer (some ((sadr A15).add (((0 : Int).toNat) * 5)))) (by kernel_rfl) (fun w' hh => exec_indexAddr (e := 123) (s := 5) rfl rfl rfl (by kernel_rfl) (by kernel_rfl) hi25 hi26 ((SlOk.mono hs7 (vt (made_le _ _) vr)).some_ hi27 (by decide))) ?_
 refine T.pk (.pointer (some ((sadr A15).add (((0 : Int).toNat) * 5)))) (fun _ => by kernel_rfl) (T.look (vi e9.i) (by kernel_rfl) (fun w' hh => exec_load1 rfl rfl (by kernel_rfl) (hh.cell_view (SlOk.cellF0 (E := ebuild_low) (SlOk.mono hs7 (vt (made_le _ _) vr)) hi27 (fun _ _ _ h => h) rfl))) ?_)
 refine T.pk (pB b3 0) (fun _ => by kernel_rfl) ?_
 let v62_ : List Value := [vi e9.i, .slice A14 z8.length c14]
 let i36_ : HObj := box b3 24 v62_
 refine T.step (W1.st 1 v62_ (i35_ :: i36_ :: i3_ :: []) [vi e9.i] (by rfl) rfl rfl rfl rfl rfl rfl (fun _ => by kernel_rfl) ?_)
 refine T.nil (T.seq (T.region (T.look (.agg #[vi e9.i, .slice A14 z8.length c14]) (by kernel_rfl) (ldN 1 rfl rfl (fun _ => by kernel_rfl) (by rfl) rfl) ?_)))
 let i37_ : HObj := box b1 24 v62_
 refine T.step (W1.st 2 v62_ (i35_ :: i36_ :: i37_ :: []) v62_ (by rfl) rfl rfl rfl rfl rfl rfl (fun _ => by kernel_rfl) ?_)
 refine T.pk (vi 0) (fun _ => by kernel_rfl) (T.nil ?_)
 cases hF
 refine T.freezeM (E := eNode) (H' := (i36_ :: i37_ :: [])) 0 (by rfl) rfl (fun V26 hV26 hs19 => ?_)
 refine T.ret rfl ?_
 exact T.ret2 rfl (ResIs.cellN 1 rfl (by rfl) (fun _ => by kernel_rfl) (fun _ => by kernel_rfl)) (ResIs.tmp rfl) fun w' hh => ⟨_, rfl, hh.below, (vT2.mk (vAg.mk ⟨_, _, rfl, (SlOk.mono hs19 (vt (made_mono vr) (made_fresh hh)))⟩) (show _ from rfl))⟩
set_option maxRecDepth 100000 in
set_option maxHeartbeats 4000000 in
theorem annalkeep_of_l (F : Nat) (p0 : (List DElem)) (r : DTree) (hF : annalkeep_of F p0 = some r) (w : World) (A1 : Option Addr) (c1 : Nat) (hs1 : SlOk (vw w) eElem A1 c1 p0) :
 Calls Try.prog 15 #[.slice A1 p0.length c1] w (Post (vAg eTree) r w) := by
 unfold annalkeep_of at hF
 refine T.start (l := [.slice A1 p0.length c1]) Try.func15 rfl rfl rfl ?_
 refine T.seq (T.region ?_)
 let v86_ : List Value := [vi 0, sN]
 refine T.step (W1.np 24 v86_ (fun _ => by kernel_rfl) (fun b1 => ?_))
 refine T.nil (T.seq (T.region (T.pk (.slice A1 p0.length c1) (fun _ => by kernel_rfl) ?_)))
 obtain ⟨r1, hb1, hF⟩ := ob hF
 refine T.step (W1.call (vT2 (vAg eTree) (vSc eInt)) r1 46 #[.slice A1 p0.length c1] (by kernel_rfl) (fun _ => by kernel_rfl) (fun w' hh => build_Of_l F p0 r1 hb1 w' A1 c1 (SlOk.mono hs1 hh.view)) ?_)
 intro u V1 hV1 hu
 obtain ⟨u1, u2, rfl, hu1, hu2⟩ := vT2_elim hu
 obtain ⟨cs1, rfl, hr1⟩ := vagg_elim hu1
 obtain ⟨A2, c2, rfl, hs2⟩ := hr1
 obtain rfl := sureInt _ _ _ hu2
 refine T.p3 (.tuple #[.agg #[vi r1.1.root, .slice A2 r1.1.nodes.length c2], vi r1.2]) (.agg #[vi r1.1.root, .slice A2 r1.1.nodes.length c2]) (vi r1.2) (fun _ => by kernel_rfl) (T.step (W1.np 24 v86_ (fun _ => by kernel_rfl) (fun b2 => ?_)))
 let v87_ : List Value := [vi r1.1.root, .slice A2 r1.1.nodes.length c2]
 let i85_ : HObj := box b2 24 v87_
 refine T.step (W1.st 0 v87_ (i85_ :: (box b1 24 v86_) :: []) v87_ (by rfl) rfl rfl rfl rfl rfl rfl (fun _ => by kernel_rfl) ?_)
 refine T.pk (vi r1.2) (fun _ => by kernel_rfl) (T.nil (T.seq (T.region (T.look (.agg #[vi r1.1.root, .slice A2 r1.1.nodes.length c2]) (by kernel_rfl) (ldN 0 rfl rfl (fun _ => by kernel_rfl) (by rfl) rfl) ?_))))
 refine T.step (W1.st 1 v87_ (i85_ :: (box b1 24 v87_) :: []) v87_ (by rfl) rfl rfl rfl rfl rfl rfl (fun _ => by kernel_rfl) ?_)
 refine T.nil ?_
 cases hF
 refine T.ret rfl ?_
 exact T.ret1 rfl (ResIs.cellN 1 rfl (by rfl) (fun _ => by kernel_rfl) (fun _ => by kernel_rfl)) fun w' hh => ⟨_, rfl, hh.below, (vAg.mk ⟨_, _, rfl, (SlOk.mono hs2 (vt (made_mono vr) (made_fresh hh)))⟩)⟩
end Go.Proofs.Ytcmkdoahkncakaa
