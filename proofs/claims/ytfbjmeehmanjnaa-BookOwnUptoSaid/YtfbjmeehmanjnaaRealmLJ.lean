/- The Go functions of group Realm compute the pure functions of that group: written by walkgen.py. Condition of each: the pure function yields a result. -/
import Derived.Test.YtfbjmeehmanjnaaRunLJ
import Derived.Test.YtfbjmeehmanjnaaEqsLJ
import Derived.Test.YtfbjmeehmanjnaaSpoilJ
import Derived.Test.YtfbjmeehmanjnaaRealmFJ
import Derived.Test.YtfbjmeehmanjnaaEqLJ
namespace Go.Proofs.Ytfbjmeehmanjnaa
set_option linter.unusedVariables false
set_option maxRecDepth 100000 in
set_option maxHeartbeats 4000000 in
theorem annalkeep_book_l  (r : DBook) (hF : annalkeep_book = some r) (w : World)  :
 Calls Try.prog 17 #[] w (Post (vAg eBook) r w) := by
 unfold annalkeep_book at hF
 refine T.start (l := []) Try.func17 rfl rfl rfl ?_
 refine T.seq ?_
 refine T.region ?_
 refine T.step (W1.new 25 ((.slice none 0 0) :: (DA16.cells (DA16.mk 0 0 0 0 0 0 0 0 0 0 0 0 0 0 0 0) ++ (DA16.cells (DA16.mk 0 0 0 0 0 0 0 0 0 0 0 0 0 0 0 0)))) (fun b => .pointer (some ⟨b, 0, none⟩)) (by kernel_rfl) (fun _ => by kernel_rfl) (fun b1 => ?_))
 refine T.nil ?_
 refine T.seq ?_
 refine T.region ?_
 refine T.step (W1.new 25 ((.slice none 0 0) :: (DA16.cells (DA16.mk 0 0 0 0 0 0 0 0 0 0 0 0 0 0 0 0) ++ (DA16.cells (DA16.mk 0 0 0 0 0 0 0 0 0 0 0 0 0 0 0 0)))) (fun b => .pointer (some ⟨b, 0, none⟩)) (by kernel_rfl) (fun _ => by kernel_rfl) (fun b2 => ?_))
 refine T.nil ?_
 refine T.seq ?_
 refine T.region ?_
 refine T.pure (.pointer (some ⟨b2, 1, none⟩)) (by kernel_rfl) (fun _ => by kernel_rfl) ?_
 refine T.pure (.pointer (some ⟨b2, 1, none⟩)) (by kernel_rfl) (fun _ => by kernel_rfl) ?_
 refine T.step (W1.store 0 ((.slice none 0 0) :: (DA16.cells (DA16.mk 1 0 0 0 0 0 0 0 0 0 0 0 0 0 0 0) ++ (DA16.cells (DA16.mk 0 0 0 0 0 0 0 0 0 0 0 0 0 0 0 0)))) [box b2 25 ((.slice none 0 0) :: (DA16.cells (DA16.mk 1 0 0 0 0 0 0 0 0 0 0 0 0 0 0 0) ++ (DA16.cells (DA16.mk 0 0 0 0 0 0 0 0 0 0 0 0 0 0 0 0)))), box b1 25 ((.slice none 0 0) :: (DA16.cells (DA16.mk 0 0 0 0 0 0 0 0 0 0 0 0 0 0 0 0) ++ (DA16.cells (DA16.mk 0 0 0 0 0 0 0 0 0 0 0 0 0 0 0 0))))] (by rfl) rfl (by kernel_rfl) (fun w' hw => exec_store (vs := [.int .i64 1]) rfl rfl rfl rfl (by kernel_rfl) (one_of rfl) (Nat.le_of_ble_eq_true (by rfl)) rfl hw) ?_)
 refine T.pure (.pointer (some ⟨b2, 1, none⟩)) (by kernel_rfl) (fun _ => by kernel_rfl) ?_
 refine T.pure (.pointer (some ⟨b2, 2, none⟩)) (by kernel_rfl) (fun _ => by kernel_rfl) ?_
 refine T.step (W1.store 0 ((.slice none 0 0) :: (DA16.cells (DA16.mk 1 2 0 0 0 0 0 0 0 0 0 0 0 0 0 0) ++ (DA16.cells (DA16.mk 0 0 0 0 0 0 0 0 0 0 0 0 0 0 0 0)))) [box b2 25 ((.slice none 0 0) :: (DA16.cells (DA16.mk 1 2 0 0 0 0 0 0 0 0 0 0 0 0 0 0) ++ (DA16.cells (DA16.mk 0 0 0 0 0 0 0 0 0 0 0 0 0 0 0 0)))), box b1 25 ((.slice none 0 0) :: (DA16.cells (DA16.mk 0 0 0 0 0 0 0 0 0 0 0 0 0 0 0 0) ++ (DA16.cells (DA16.mk 0 0 0 0 0 0 0 0 0 0 0 0 0 0 0 0))))] (by rfl) rfl (by kernel_rfl) (fun w' hw => exec_store (vs := [.int .i64 2]) rfl rfl rfl rfl (by kernel_rfl) (one_of rfl) (Nat.le_of_ble_eq_true (by rfl)) rfl hw) ?_)
 refine T.nil ?_
 refine T.seq ?_
 refine T.region ?_
 refine T.look (.agg (List.toArray ((.slice none 0 0) :: (DA16.cells (DA16.mk 1 2 0 0 0 0 0 0 0 0 0 0 0 0 0 0) ++ (DA16.cells (DA16.mk 0 0 0 0 0 0 0 0 0 0 0 0 0 0 0 0)))))) (by kernel_rfl) (fun w' hh => exec_loadN (cs := ((.slice none 0 0) :: (DA16.cells (DA16.mk 1 2 0 0 0 0 0 0 0 0 0 0 0 0 0 0) ++ (DA16.cells (DA16.mk 0 0 0 0 0 0 0 0 0 0 0 0 0 0 0 0))))) rfl rfl (by kernel_rfl) (by kernel_rfl) (fun j u hj => (hh.box_at (i := 0) (cs := ((.slice none 0 0) :: (DA16.cells (DA16.mk 1 2 0 0 0 0 0 0 0 0 0 0 0 0 0 0) ++ (DA16.cells (DA16.mk 0 0 0 0 0 0 0 0 0 0 0 0 0 0 0 0))))) (by rfl) 0 j).trans (seg_at (n := 33) (by rfl) hj))) ?_
 refine T.step (W1.store 1 ((.slice none 0 0) :: (DA16.cells (DA16.mk 1 2 0 0 0 0 0 0 0 0 0 0 0 0 0 0) ++ (DA16.cells (DA16.mk 0 0 0 0 0 0 0 0 0 0 0 0 0 0 0 0)))) [box b2 25 ((.slice none 0 0) :: (DA16.cells (DA16.mk 1 2 0 0 0 0 0 0 0 0 0 0 0 0 0 0) ++ (DA16.cells (DA16.mk 0 0 0 0 0 0 0 0 0 0 0 0 0 0 0 0)))), box b1 25 ((.slice none 0 0) :: (DA16.cells (DA16.mk 1 2 0 0 0 0 0 0 0 0 0 0 0 0 0 0) ++ (DA16.cells (DA16.mk 0 0 0 0 0 0 0 0 0 0 0 0 0 0 0 0))))] (by rfl) rfl (by kernel_rfl) (fun w' hw => exec_store (vs := ((.slice none 0 0) :: (DA16.cells (DA16.mk 1 2 0 0 0 0 0 0 0 0 0 0 0 0 0 0) ++ (DA16.cells (DA16.mk 0 0 0 0 0 0 0 0 0 0 0 0 0 0 0 0))))) rfl rfl rfl rfl (by kernel_rfl) (one_of rfl) (Nat.le_of_ble_eq_true (by rfl)) rfl hw) ?_)
 refine T.nil ?_
 cases hF
 refine T.ret rfl ?_
 exact T.ret1 rfl (ResIs.cellN 1 rfl (by rfl) (fun _ => by kernel_rfl) (fun _ => by kernel_rfl)) fun w' hh => ⟨_, rfl, hh.below, (vAg.mk ⟨_, _, rfl, (SlOk.nil _ _)⟩)⟩
set_option maxRecDepth 100000 in
set_option maxHeartbeats 4000000 in
theorem realm_Check_l (F : Nat) (p0 : DBook) (r : Int) (hF : realm_Check F p0 = some r) (w : World) (A1 : Option Addr) (c1 : Nat) (hs1 : SlOk (vw w) eElem A1 c1 p0.run) :
 Calls Try.prog 24 #[.agg (List.toArray ((.slice A1 p0.run.length c1) :: (DA16.cells p0.roles ++ (DA16.cells p0.fed))))] w (Post (vSc eInt) r w) := by
 unfold realm_Check at hF
 refine T.start (l := [.agg (List.toArray ((.slice A1 p0.run.length c1) :: (DA16.cells p0.roles ++ (DA16.cells p0.fed))))]) Try.func24 rfl rfl rfl ?_
 refine T.seq ?_
 refine T.region ?_
 refine T.step (W1.new 25 ((.slice A1 p0.run.length c1) :: (DA16.cells p0.roles ++ (DA16.cells p0.fed))) (fun b => .pointer (some ⟨b, 0, none⟩)) (by kernel_rfl) (fun _ => by kernel_rfl) (fun b1 => ?_))
 refine T.pure (.int .i64 0) (by kernel_rfl) (fun _ => by kernel_rfl) ?_
 refine T.nil ?_
 refine T.seq ?_
 refine T.seq ?_
 refine T.region ?_
 refine T.pure (.pointer (some ⟨b1, 0, none⟩)) (by kernel_rfl) (fun _ => by kernel_rfl) ?_
 refine T.look (.slice A1 p0.run.length c1) (by kernel_rfl) (fun w' hh => exec_load1 rfl rfl (by kernel_rfl) (hh.cellBox (i := 0) (by rfl) 0)) ?_
 obtain ⟨r1, hb1, hF⟩ := Option.bind_eq_some_iff.1 hF
 refine T.step (W1.call (vSc eInt) r1 28 #[.slice A1 p0.run.length c1] (by kernel_rfl) (fun _ => by kernel_rfl) (fun w' hh => run_Check_l F p0.run r1 hb1 w' A1 c1 (SlOk.mono hs1 hh.view)) ?_)
 intro u V1 hV1 hu
 obtain rfl := sureInt _ _ _ hu
 refine T.pure (.int .i64 r1) (by kernel_rfl) (fun _ => by kernel_rfl) ?_
 refine T.nil ?_
 refine T.seq ?_
 refine T.region ?_
 refine T.pure (.int .i64 r1) (by kernel_rfl) (fun _ => by kernel_rfl) ?_
 refine T.pure (.bool (r1 != 0)) (by kernel_rfl) (fun _ => by kernel_rfl) ?_
 refine T.nil ?_
 refine T.cond (r1 != 0) (by kernel_rfl) (by kernel_rfl) (fun hc1 => ?_) (fun hc1 => ?_)
 ·
  rw [hc1, cond_true] at hF
  refine T.seq ?_
  refine T.region ?_
  refine T.pure (.int .i64 r1) (by kernel_rfl) (fun _ => by kernel_rfl) ?_
  refine T.pure (.int .i64 r1) (by kernel_rfl) (fun _ => by kernel_rfl) ?_
  refine T.nil ?_
  cases hF
  refine T.ret rfl ?_
  exact T.ret1 rfl (ResIs.tmp rfl) fun w' hh => ⟨_, rfl, hh.below, (show _ from rfl)⟩
 ·
  rw [hc1, cond_false] at hF
  refine T.skip_code ?_
  refine T.seq ?_
  refine T.seq ?_
  refine T.region ?_
  refine T.pure (.pointer (some ⟨b1, 1, none⟩)) (by kernel_rfl) (fun _ => by kernel_rfl) ?_
  refine T.look (.agg #[.int .i64 p0.roles.x0, .int .i64 p0.roles.x1, .int .i64 p0.roles.x2, .int .i64 p0.roles.x3, .int .i64 p0.roles.x4, .int .i64 p0.roles.x5, .int .i64 p0.roles.x6, .int .i64 p0.roles.x7, .int .i64 p0.roles.x8, .int .i64 p0.roles.x9, .int .i64 p0.roles.x10, .int .i64 p0.roles.x11, .int .i64 p0.roles.x12, .int .i64 p0.roles.x13, .int .i64 p0.roles.x14, .int .i64 p0.roles.x15]) (by kernel_rfl) (fun w' hh => exec_loadN (cs := [.int .i64 p0.roles.x0, .int .i64 p0.roles.x1, .int .i64 p0.roles.x2, .int .i64 p0.roles.x3, .int .i64 p0.roles.x4, .int .i64 p0.roles.x5, .int .i64 p0.roles.x6, .int .i64 p0.roles.x7, .int .i64 p0.roles.x8, .int .i64 p0.roles.x9, .int .i64 p0.roles.x10, .int .i64 p0.roles.x11, .int .i64 p0.roles.x12, .int .i64 p0.roles.x13, .int .i64 p0.roles.x14, .int .i64 p0.roles.x15]) rfl rfl (by kernel_rfl) (by kernel_rfl) (fun j u hj => (hh.box_at (i := 0) (cs := ((.slice A1 p0.run.length c1) :: (DA16.cells p0.roles ++ (DA16.cells p0.fed)))) (by rfl) 1 j).trans (seg_at (n := 16) (by rfl) hj))) ?_
  refine T.pure (.int .i64 0) (by kernel_rfl) (fun _ => by kernel_rfl) ?_
  refine T.nil ?_
  obtain ⟨q1, hz1, hF⟩ := Option.bind_eq_some_iff.1 hF
  refine T.mid (fun a w' => q1 = Sum.inl () ∧ Fr 85 [(1, .pointer (some ⟨b1, 0, none⟩))] a ∧ Hp w V1 [box b1 25 ((.slice A1 p0.run.length c1) :: (DA16.cells p0.roles ++ (DA16.cells p0.fed)))] w') ?_ ?_
  ·
   refine T.block ?_
   refine T.iter (fun x1 a w' => Fr 85 [(1, .pointer (some ⟨b1, 0, none⟩)), (16, .agg #[.int .i64 p0.roles.x0, .int .i64 p0.roles.x1, .int .i64 p0.roles.x2, .int .i64 p0.roles.x3, .int .i64 p0.roles.x4, .int .i64 p0.roles.x5, .int .i64 p0.roles.x6, .int .i64 p0.roles.x7, .int .i64 p0.roles.x8, .int .i64 p0.roles.x9, .int .i64 p0.roles.x10, .int .i64 p0.roles.x11, .int .i64 p0.roles.x12, .int .i64 p0.roles.x13, .int .i64 p0.roles.x14, .int .i64 p0.roles.x15]), (17, .int .i64 x1)] a ∧ Hp w V1 [box b1 25 ((.slice A1 p0.run.length c1) :: (DA16.cells p0.roles ++ (DA16.cells p0.fed)))] w') hz1 ?_ ?_
   ·
    exact fun a w' hf hh => And.intro ((((Fr.nil hf).pick hf 17 rfl).pick hf 16 rfl).pick hf 1 rfl) (hh.sub (.cons_cons _ List.Sublist.slnil))
   ·
    rintro x1 y1 hY1 hr1 a w' ⟨hf, hh⟩
    refine (?_ : T 85 w V1 [box b1 25 ((.slice A1 p0.run.length c1) :: (DA16.cells p0.roles ++ (DA16.cells p0.fed)))] [(1, .pointer (some ⟨b1, 0, none⟩)), (16, .agg #[.int .i64 p0.roles.x0, .int .i64 p0.roles.x1, .int .i64 p0.roles.x2, .int .i64 p0.roles.x3, .int .i64 p0.roles.x4, .int .i64 p0.roles.x5, .int .i64 p0.roles.x6, .int .i64 p0.roles.x7, .int .i64 p0.roles.x8, .int .i64 p0.roles.x9, .int .i64 p0.roles.x10, .int .i64 p0.roles.x11, .int .i64 p0.roles.x12, .int .i64 p0.roles.x13, .int .i64 p0.roles.x14, .int .i64 p0.roles.x15]), (17, .int .i64 x1)] _) a w' hf hh
    clear hf hh
    try dsimp only at hY1
    refine T.seq ?_
    refine T.region ?_
    refine T.pure (.bool (decide (x1 < 16))) (by kernel_rfl) (fun _ => by kernel_rfl) ?_
    refine T.nil ?_
    refine T.seq ?_
    refine T.cond (decide (x1 < 16)) (by kernel_rfl) (by kernel_rfl) (fun hc2 => ?_) (fun hc2 => ?_)
    ·
     rw [hc2, cond_true] at hY1
     refine T.skip_code ?_
     refine T.seq ?_
     refine T.block ?_
     refine T.seq ?_
     refine T.region ?_
     refine T.pure (.int .i64 x1) (by kernel_rfl) (fun _ => by kernel_rfl) ?_
     obtain ⟨e1, hb2, hY1⟩ := Option.bind_eq_some_iff.1 hY1
     obtain ⟨hi1, hi2, hi3⟩ := idx_some hb2
     refine T.look (.int .i64 e1) (by kernel_rfl) (fun w' hh => exec_index_arr (a := p0.roles) (e := 3) rfl rfl rfl (by kernel_rfl) (by kernel_rfl) (by kernel_rfl) hi1 hi2 hi3) ?_
     refine T.pure (.int .i64 x1) (by kernel_rfl) (fun _ => by kernel_rfl) ?_
     refine T.pure (.int .i64 e1) (by kernel_rfl) (fun _ => by kernel_rfl) ?_
     refine T.nil ?_
     obtain ⟨z1, hX1, hY1⟩ := Option.bind_eq_some_iff.1 hY1
     refine T.cut (fun a w' => Fr 85 [(1, .pointer (some ⟨b1, 0, none⟩)), (16, .agg #[.int .i64 p0.roles.x0, .int .i64 p0.roles.x1, .int .i64 p0.roles.x2, .int .i64 p0.roles.x3, .int .i64 p0.roles.x4, .int .i64 p0.roles.x5, .int .i64 p0.roles.x6, .int .i64 p0.roles.x7, .int .i64 p0.roles.x8, .int .i64 p0.roles.x9, .int .i64 p0.roles.x10, .int .i64 p0.roles.x11, .int .i64 p0.roles.x12, .int .i64 p0.roles.x13, .int .i64 p0.roles.x14, .int .i64 p0.roles.x15]), (17, .int .i64 x1), (51, .bool z1)] a ∧ Hp w V1 [box b1 25 ((.slice A1 p0.run.length c1) :: (DA16.cells p0.roles ++ (DA16.cells p0.fed)))] w') ?_ ?_
     ·
      refine T.region ?_
      refine T.pure (.int .i64 e1) (by kernel_rfl) (fun _ => by kernel_rfl) ?_
      refine T.pure (.bool (decide (e1 < 0))) (by kernel_rfl) (fun _ => by kernel_rfl) ?_
      refine T.pure (.bool (decide (e1 < 0))) (by kernel_rfl) (fun _ => by kernel_rfl) ?_
      cases hg1 : decide (e1 < 0)
      ·
       skip
       rw [hg1, cond_false] at hX1
       refine T.pure (.int .i64 e1) (by kernel_rfl) (fun _ => by kernel_rfl) ?_
       refine T.pure (.bool (decide ((2 : Int) < e1))) (by kernel_rfl) (fun _ => by kernel_rfl) ?_
       refine T.pure (.bool (decide ((2 : Int) < e1))) (by kernel_rfl) (fun _ => by kernel_rfl) ?_
       refine T.pure (.bool (decide ((2 : Int) < e1))) (by kernel_rfl) (fun _ => by kernel_rfl) ?_
       cases hg2 : decide ((2 : Int) < e1)
       ·
        skip
        rw [hg2, cond_false] at hX1
        refine T.pure (.int .i64 x1) (by kernel_rfl) (fun _ => by kernel_rfl) ?_
        refine T.pure (.pointer (some ⟨b1, 17, none⟩)) (by kernel_rfl) (fun _ => by kernel_rfl) ?_
        obtain ⟨e2, hb3, hX1⟩ := Option.bind_eq_some_iff.1 hX1
        obtain ⟨hi4, hi5, hi6⟩ := idx_some hb3
        refine T.look (.pointer (some ((⟨b1, 17, none⟩ : Addr).add (x1.toNat * 1)))) (by kernel_rfl) (fun w' hh => exec_arrAddr (e := 3) rfl rfl rfl (by kernel_rfl) (by kernel_rfl) hi4 hi5) ?_
        refine T.look (.int .i64 e2) (by kernel_rfl) (fun w' hh => exec_load1 rfl rfl (by kernel_rfl) (hh.arr_at (i := 0) (by rfl) 17 p0.fed rfl hi6)) ?_
        refine T.pure (.bool (decide (e2 < 0))) (by kernel_rfl) (fun _ => by kernel_rfl) ?_
        refine T.pure (.bool (decide (e2 < 0))) (by kernel_rfl) (fun _ => by kernel_rfl) ?_
        refine T.pure (.bool (decide (e2 < 0))) (by kernel_rfl) (fun _ => by kernel_rfl) ?_
        cases hg3 : decide (e2 < 0)
        ·
         skip
         rw [hg3, cond_false] at hX1
         refine T.pure (.int .i64 x1) (by kernel_rfl) (fun _ => by kernel_rfl) ?_
         refine T.pure (.pointer (some ⟨b1, 17, none⟩)) (by kernel_rfl) (fun _ => by kernel_rfl) ?_
         obtain ⟨e3, hb4, hX1⟩ := Option.bind_eq_some_iff.1 hX1
         obtain ⟨hi7, hi8, hi9⟩ := idx_some hb4
         refine T.look (.pointer (some ((⟨b1, 17, none⟩ : Addr).add (x1.toNat * 1)))) (by kernel_rfl) (fun w' hh => exec_arrAddr (e := 3) rfl rfl rfl (by kernel_rfl) (by kernel_rfl) hi7 hi8) ?_
         refine T.look (.int .i64 e3) (by kernel_rfl) (fun w' hh => exec_load1 rfl rfl (by kernel_rfl) (hh.arr_at (i := 0) (by rfl) 17 p0.fed rfl hi9)) ?_
         refine T.pure (.bool (decide ((2147483647 : Int) < e3))) (by kernel_rfl) (fun _ => by kernel_rfl) ?_
         refine T.pure (.bool (decide ((2147483647 : Int) < e3))) (by kernel_rfl) (fun _ => by kernel_rfl) ?_
         refine T.pure (.bool (decide ((2147483647 : Int) < e3))) (by kernel_rfl) (fun _ => by kernel_rfl) ?_
         cases hg4 : decide ((2147483647 : Int) < e3)
         ·
          skip
          rw [hg4, cond_false] at hX1
          refine T.pure (.int .i64 e1) (by kernel_rfl) (fun _ => by kernel_rfl) ?_
          refine T.pure (.bool (e1 != 2)) (by kernel_rfl) (fun _ => by kernel_rfl) ?_
          refine T.pure (.bool (e1 != 2)) (by kernel_rfl) (fun _ => by kernel_rfl) ?_
          cases hg5 : (e1 != 2)
          ·
           skip
           rw [hg5, cond_false] at hX1
           refine T.pass (by kernel_rfl) (by kernel_rfl) ?_
           refine T.pass (by kernel_rfl) (by kernel_rfl) ?_
           refine T.pass (by kernel_rfl) (by kernel_rfl) ?_
           refine T.pass (by kernel_rfl) (by kernel_rfl) ?_
           refine T.pass (by kernel_rfl) (by kernel_rfl) ?_
           refine T.pure (.bool false) (by kernel_rfl) (fun _ => by kernel_rfl) ?_
           refine T.pure (.bool false) (by kernel_rfl) (fun _ => by kernel_rfl) ?_
           refine T.nil ?_
           cases hX1
           exact fun a w' hf hh => And.intro (((((Fr.nil hf).pick hf 51 rfl).pick hf 17 rfl).pick hf 16 rfl).pick hf 1 rfl) (hh.sub (.cons_cons _ List.Sublist.slnil))
          ·
           skip
           rw [hg5, cond_true] at hX1
           refine T.pure (.int .i64 x1) (by kernel_rfl) (fun _ => by kernel_rfl) ?_
           refine T.pure (.pointer (some ⟨b1, 17, none⟩)) (by kernel_rfl) (fun _ => by kernel_rfl) ?_
           obtain ⟨e4, hb5, hX1⟩ := Option.bind_eq_some_iff.1 hX1
           obtain ⟨hi10, hi11, hi12⟩ := idx_some hb5
           refine T.look (.pointer (some ((⟨b1, 17, none⟩ : Addr).add (x1.toNat * 1)))) (by kernel_rfl) (fun w' hh => exec_arrAddr (e := 3) rfl rfl rfl (by kernel_rfl) (by kernel_rfl) hi10 hi11) ?_
           refine T.look (.int .i64 e4) (by kernel_rfl) (fun w' hh => exec_load1 rfl rfl (by kernel_rfl) (hh.arr_at (i := 0) (by rfl) 17 p0.fed rfl hi12)) ?_
           refine T.pure (.bool (decide ((0 : Int) < e4))) (by kernel_rfl) (fun _ => by kernel_rfl) ?_
           refine T.pure (.bool (decide ((0 : Int) < e4))) (by kernel_rfl) (fun _ => by kernel_rfl) ?_
           refine T.pure (.bool (decide ((0 : Int) < e4))) (by kernel_rfl) (fun _ => by kernel_rfl) ?_
           refine T.nil ?_
           cases hX1
           exact fun a w' hf hh => And.intro (((((Fr.nil hf).pick hf 51 rfl).pick hf 17 rfl).pick hf 16 rfl).pick hf 1 rfl) (hh.sub (.cons_cons _ List.Sublist.slnil))
         ·
          skip
          rw [hg4, cond_true] at hX1
          refine T.pass (by kernel_rfl) (by kernel_rfl) ?_
          refine T.pass (by kernel_rfl) (by kernel_rfl) ?_
          refine T.pass (by kernel_rfl) (by kernel_rfl) ?_
          refine T.pass (by kernel_rfl) (by kernel_rfl) ?_
          refine T.pass (by kernel_rfl) (by kernel_rfl) ?_
          refine T.pass (by kernel_rfl) (by kernel_rfl) ?_
          refine T.pass (by kernel_rfl) (by kernel_rfl) ?_
          refine T.pass (by kernel_rfl) (by kernel_rfl) ?_
          refine T.pass (by kernel_rfl) (by kernel_rfl) ?_
          refine T.pure (.bool true) (by kernel_rfl) (fun _ => by kernel_rfl) ?_
          refine T.nil ?_
          cases hX1
          exact fun a w' hf hh => And.intro (((((Fr.nil hf).pick hf 51 rfl).pick hf 17 rfl).pick hf 16 rfl).pick hf 1 rfl) (hh.sub (.cons_cons _ List.Sublist.slnil))
        ·
         skip
         rw [hg3, cond_true] at hX1
         refine T.pass (by kernel_rfl) (by kernel_rfl) ?_
         refine T.pass (by kernel_rfl) (by kernel_rfl) ?_
         refine T.pass (by kernel_rfl) (by kernel_rfl) ?_
         refine T.pass (by kernel_rfl) (by kernel_rfl) ?_
         refine T.pass (by kernel_rfl) (by kernel_rfl) ?_
         refine T.pure (.bool true) (by kernel_rfl) (fun _ => by kernel_rfl) ?_
         refine T.pure (.bool true) (by kernel_rfl) (fun _ => by kernel_rfl) ?_
         refine T.pass (by kernel_rfl) (by kernel_rfl) ?_
         refine T.pass (by kernel_rfl) (by kernel_rfl) ?_
         refine T.pass (by kernel_rfl) (by kernel_rfl) ?_
         refine T.pass (by kernel_rfl) (by kernel_rfl) ?_
         refine T.pass (by kernel_rfl) (by kernel_rfl) ?_
         refine T.pass (by kernel_rfl) (by kernel_rfl) ?_
         refine T.pass (by kernel_rfl) (by kernel_rfl) ?_
         refine T.pass (by kernel_rfl) (by kernel_rfl) ?_
         refine T.pass (by kernel_rfl) (by kernel_rfl) ?_
         refine T.pure (.bool true) (by kernel_rfl) (fun _ => by kernel_rfl) ?_
         refine T.nil ?_
         cases hX1
         exact fun a w' hf hh => And.intro (((((Fr.nil hf).pick hf 51 rfl).pick hf 17 rfl).pick hf 16 rfl).pick hf 1 rfl) (hh.sub (.cons_cons _ List.Sublist.slnil))
       ·
        skip
        rw [hg2, cond_true] at hX1
        refine T.pass (by kernel_rfl) (by kernel_rfl) ?_
        refine T.pass (by kernel_rfl) (by kernel_rfl) ?_
        refine T.pass (by kernel_rfl) (by kernel_rfl) ?_
        refine T.pass (by kernel_rfl) (by kernel_rfl) ?_
        refine T.pass (by kernel_rfl) (by kernel_rfl) ?_
        refine T.pure (.bool true) (by kernel_rfl) (fun _ => by kernel_rfl) ?_
        refine T.pure (.bool true) (by kernel_rfl) (fun _ => by kernel_rfl) ?_
        refine T.pass (by kernel_rfl) (by kernel_rfl) ?_
        refine T.pass (by kernel_rfl) (by kernel_rfl) ?_
        refine T.pass (by kernel_rfl) (by kernel_rfl) ?_
        refine T.pass (by kernel_rfl) (by kernel_rfl) ?_
        refine T.pass (by kernel_rfl) (by kernel_rfl) ?_
        refine T.pure (.bool true) (by kernel_rfl) (fun _ => by kernel_rfl) ?_
        refine T.pure (.bool true) (by kernel_rfl) (fun _ => by kernel_rfl) ?_
        refine T.pass (by kernel_rfl) (by kernel_rfl) ?_
        refine T.pass (by kernel_rfl) (by kernel_rfl) ?_
        refine T.pass (by kernel_rfl) (by kernel_rfl) ?_
        refine T.pass (by kernel_rfl) (by kernel_rfl) ?_
        refine T.pass (by kernel_rfl) (by kernel_rfl) ?_
        refine T.pass (by kernel_rfl) (by kernel_rfl) ?_
        refine T.pass (by kernel_rfl) (by kernel_rfl) ?_
        refine T.pass (by kernel_rfl) (by kernel_rfl) ?_
        refine T.pass (by kernel_rfl) (by kernel_rfl) ?_
        refine T.pure (.bool true) (by kernel_rfl) (fun _ => by kernel_rfl) ?_
        refine T.nil ?_
        cases hX1
        exact fun a w' hf hh => And.intro (((((Fr.nil hf).pick hf 51 rfl).pick hf 17 rfl).pick hf 16 rfl).pick hf 1 rfl) (hh.sub (.cons_cons _ List.Sublist.slnil))
      ·
       skip
       rw [hg1, cond_true] at hX1
       refine T.pass (by kernel_rfl) (by kernel_rfl) ?_
       refine T.pass (by kernel_rfl) (by kernel_rfl) ?_
       refine T.pure (.bool true) (by kernel_rfl) (fun _ => by kernel_rfl) ?_
       refine T.pure (.bool true) (by kernel_rfl) (fun _ => by kernel_rfl) ?_
       refine T.pass (by kernel_rfl) (by kernel_rfl) ?_
       refine T.pass (by kernel_rfl) (by kernel_rfl) ?_
       refine T.pass (by kernel_rfl) (by kernel_rfl) ?_
       refine T.pass (by kernel_rfl) (by kernel_rfl) ?_
       refine T.pass (by kernel_rfl) (by kernel_rfl) ?_
       refine T.pure (.bool true) (by kernel_rfl) (fun _ => by kernel_rfl) ?_
       refine T.pure (.bool true) (by kernel_rfl) (fun _ => by kernel_rfl) ?_
       refine T.pass (by kernel_rfl) (by kernel_rfl) ?_
       refine T.pass (by kernel_rfl) (by kernel_rfl) ?_
       refine T.pass (by kernel_rfl) (by kernel_rfl) ?_
       refine T.pass (by kernel_rfl) (by kernel_rfl) ?_
       refine T.pass (by kernel_rfl) (by kernel_rfl) ?_
       refine T.pure (.bool true) (by kernel_rfl) (fun _ => by kernel_rfl) ?_
       refine T.pure (.bool true) (by kernel_rfl) (fun _ => by kernel_rfl) ?_
       refine T.pass (by kernel_rfl) (by kernel_rfl) ?_
       refine T.pass (by kernel_rfl) (by kernel_rfl) ?_
       refine T.pass (by kernel_rfl) (by kernel_rfl) ?_
       refine T.pass (by kernel_rfl) (by kernel_rfl) ?_
       refine T.pass (by kernel_rfl) (by kernel_rfl) ?_
       refine T.pass (by kernel_rfl) (by kernel_rfl) ?_
       refine T.pass (by kernel_rfl) (by kernel_rfl) ?_
       refine T.pass (by kernel_rfl) (by kernel_rfl) ?_
       refine T.pass (by kernel_rfl) (by kernel_rfl) ?_
       refine T.pure (.bool true) (by kernel_rfl) (fun _ => by kernel_rfl) ?_
       refine T.nil ?_
       cases hX1
       exact fun a w' hf hh => And.intro (((((Fr.nil hf).pick hf 51 rfl).pick hf 17 rfl).pick hf 16 rfl).pick hf 1 rfl) (hh.sub (.cons_cons _ List.Sublist.slnil))
     ·
      rintro a w' ⟨hf, hh⟩
      refine (?_ : T 85 w V1 [box b1 25 ((.slice A1 p0.run.length c1) :: (DA16.cells p0.roles ++ (DA16.cells p0.fed)))] [(1, .pointer (some ⟨b1, 0, none⟩)), (16, .agg #[.int .i64 p0.roles.x0, .int .i64 p0.roles.x1, .int .i64 p0.roles.x2, .int .i64 p0.roles.x3, .int .i64 p0.roles.x4, .int .i64 p0.roles.x5, .int .i64 p0.roles.x6, .int .i64 p0.roles.x7, .int .i64 p0.roles.x8, .int .i64 p0.roles.x9, .int .i64 p0.roles.x10, .int .i64 p0.roles.x11, .int .i64 p0.roles.x12, .int .i64 p0.roles.x13, .int .i64 p0.roles.x14, .int .i64 p0.roles.x15]), (17, .int .i64 x1), (51, .bool z1)] _) a w' hf hh
      clear hf hh
      refine T.cond z1 (by kernel_rfl) (by kernel_rfl) (fun hc3 => ?_) (fun hc3 => ?_)
      ·
       rw [hc3, cond_true] at hY1
       refine T.seq ?_
       refine T.region ?_
       refine T.pure (.int .i64 3) (by kernel_rfl) (fun _ => by kernel_rfl) ?_
       refine T.nil ?_
       cases hY1
       cases (hr1 _ rfl)
       try dsimp only at hF
       cases hF
       refine T.ret rfl ?_
       exact T.ret1 rfl (ResIs.tmp rfl) fun w' hh => ⟨_, rfl, hh.below, (show _ from rfl)⟩
      ·
       rw [hc3, cond_false] at hY1
       refine T.skip_code ?_
       refine T.region ?_
       refine T.pure (.int .i64 (IntKind.i64.wrap (x1 + 1))) (by kernel_rfl) (fun _ => by kernel_rfl) ?_
       refine T.pure (.int .i64 (IntKind.i64.wrap (x1 + 1))) (by kernel_rfl) (fun _ => by kernel_rfl) ?_
       refine T.nil ?_
       cases hY1
       exact fun a w' hf hh => Exists.intro (IntKind.i64.wrap (x1 + 1)) (And.intro rfl (And.intro ((((Fr.nil hf).pick hf 17 rfl).pick hf 16 rfl).pick hf 1 rfl) (hh.sub (.cons_cons _ List.Sublist.slnil))))
    ·
     rw [hc2, cond_false] at hY1
     refine T.exit ?_
     cases hY1
     cases (hr1 _ rfl)
     exact fun a w' hf hh => And.intro rfl (And.intro ((Fr.nil hf).pick hf 1 rfl) (hh.sub (.cons_cons _ List.Sublist.slnil)))
  ·
   rintro a w' ⟨rfl, hf, hh⟩
   try dsimp only at hF
   refine (?_ : T 85 w V1 [box b1 25 ((.slice A1 p0.run.length c1) :: (DA16.cells p0.roles ++ (DA16.cells p0.fed)))] [(1, .pointer (some ⟨b1, 0, none⟩))] _) a w' hf hh
   clear hf hh
   refine T.seq ?_
   refine T.seq ?_
   refine T.region ?_
   refine T.pure (.pointer (some ⟨b1, 0, none⟩)) (by kernel_rfl) (fun _ => by kernel_rfl) ?_
   refine T.look (.slice A1 p0.run.length c1) (by kernel_rfl) (fun w' hh => exec_load1 rfl rfl (by kernel_rfl) (hh.cellBox (i := 0) (by rfl) 0)) ?_
   refine T.pure (.int .i64 (p0.run.length : Int)) (by kernel_rfl) (fun _ => by kernel_rfl) ?_
   refine T.pure (.int .i64 0) (by kernel_rfl) (fun _ => by kernel_rfl) ?_
   refine T.nil ?_
   obtain ⟨q2, hz2, hF⟩ := Option.bind_eq_some_iff.1 hF
   refine T.mid (fun a w' => q2 = Sum.inl () ∧ Fr 85 [] a ∧ Hp w V1 [] w') ?_ ?_
   ·
    refine T.block ?_
    refine T.iter (fun x2 a w' => Fr 85 [(1, .pointer (some ⟨b1, 0, none⟩)), (54, .slice A1 p0.run.length c1), (55, .int .i64 (p0.run.length : Int)), (56, .int .i64 x2)] a ∧ Hp w V1 [box b1 25 ((.slice A1 p0.run.length c1) :: (DA16.cells p0.roles ++ (DA16.cells p0.fed)))] w') hz2 ?_ ?_
    ·
     exact fun a w' hf hh => And.intro (((((Fr.nil hf).pick hf 56 rfl).pick hf 55 rfl).pick hf 54 rfl).pick hf 1 rfl) (hh.sub (.cons_cons _ List.Sublist.slnil))
    ·
     rintro x2 y2 hY2 hr2 a w' ⟨hf, hh⟩
     refine (?_ : T 85 w V1 [box b1 25 ((.slice A1 p0.run.length c1) :: (DA16.cells p0.roles ++ (DA16.cells p0.fed)))] [(1, .pointer (some ⟨b1, 0, none⟩)), (54, .slice A1 p0.run.length c1), (55, .int .i64 (p0.run.length : Int)), (56, .int .i64 x2)] _) a w' hf hh
     clear hf hh
     try dsimp only at hY2
     refine T.seq ?_
     refine T.region ?_
     refine T.pure (.bool (decide (x2 < (p0.run.length : Int)))) (by kernel_rfl) (fun _ => by kernel_rfl) ?_
     refine T.nil ?_
     refine T.seq ?_
     refine T.cond (decide (x2 < (p0.run.length : Int))) (by kernel_rfl) (by kernel_rfl) (fun hc4 => ?_) (fun hc4 => ?_)
     ·
      rw [hc4, cond_true] at hY2
      refine T.skip_code ?_
      refine T.seq ?_
      refine T.block ?_
      refine T.seq ?_
      refine T.region ?_
      obtain ⟨e5, hb6, hY2⟩ := Option.bind_eq_some_iff.1 hY2
      obtain ⟨hi13, hi14, hi15⟩ := idx_some hb6
      refine T.look (.pointer (some ((sadr A1).add (x2.toNat * 6)))) (by kernel_rfl) (fun w' hh => exec_indexAddr (e := 30) (s := 6) rfl rfl rfl (by kernel_rfl) (by kernel_rfl) hi13 hi14 ((SlOk.mono hs1 hV1).some_ hi15 (by decide))) ?_
      refine T.look (.agg #[.int .i64 e5.key.pfs, .int .i64 e5.key.obj, .int .i64 e5.key.off, .int .i64 e5.made, .int .i64 e5.gone, .string e5.val]) (by kernel_rfl) (fun w' hh => exec_loadN (cs := [.int .i64 e5.key.pfs, .int .i64 e5.key.obj, .int .i64 e5.key.off, .int .i64 e5.made, .int .i64 e5.gone, .string e5.val]) rfl rfl (by kernel_rfl) (by kernel_rfl) (fun j u hj => (hh.cell_view (SlOk.cellF (E := eElem) (SlOk.mono hs1 hV1) hi15 j (fun _ _ _ h => h) hj)))) ?_
      refine T.step (W1.new 30 [.int .i64 0, .int .i64 0, .int .i64 0, .int .i64 0, .int .i64 0, .string (ByteArray.mk #[])] (fun b => .pointer (some ⟨b, 0, none⟩)) (by kernel_rfl) (fun _ => by kernel_rfl) (fun b2 => ?_))
      refine T.step (W1.store 0 [.int .i64 e5.key.pfs, .int .i64 e5.key.obj, .int .i64 e5.key.off, .int .i64 e5.made, .int .i64 e5.gone, .string e5.val] [box b2 30 [.int .i64 e5.key.pfs, .int .i64 e5.key.obj, .int .i64 e5.key.off, .int .i64 e5.made, .int .i64 e5.gone, .string e5.val], box b1 25 ((.slice A1 p0.run.length c1) :: (DA16.cells p0.roles ++ (DA16.cells p0.fed)))] (by rfl) rfl (by kernel_rfl) (fun w' hw => exec_store (vs := [.int .i64 e5.key.pfs, .int .i64 e5.key.obj, .int .i64 e5.key.off, .int .i64 e5.made, .int .i64 e5.gone, .string e5.val]) rfl rfl rfl rfl (by kernel_rfl) (one_of rfl) (by simp) rfl hw) ?_)
      refine T.nil ?_
      refine T.seq ?_
      refine T.region ?_
      refine T.pure (.pointer (some ⟨b2, 0, none⟩)) (by kernel_rfl) (fun _ => by kernel_rfl) ?_
      refine T.pure (.pointer (some ⟨b2, 0, none⟩)) (by kernel_rfl) (fun _ => by kernel_rfl) ?_
      refine T.look (.int .i64 e5.key.pfs) (by kernel_rfl) (fun w' hh => exec_load1 rfl rfl (by kernel_rfl) (hh.cellBox (i := 0) (by rfl) 0)) ?_
      refine T.pure (.int .i64 e5.key.pfs) (by kernel_rfl) (fun _ => by kernel_rfl) ?_
      refine T.nil ?_
      obtain ⟨z2, hX2, hY2⟩ := Option.bind_eq_some_iff.1 hY2
      refine T.cut (fun a w' => Fr 85 [(1, .pointer (some ⟨b1, 0, none⟩)), (54, .slice A1 p0.run.length c1), (55, .int .i64 (p0.run.length : Int)), (56, .int .i64 x2), (83, .bool z2)] a ∧ Hp w V1 [box b1 25 ((.slice A1 p0.run.length c1) :: (DA16.cells p0.roles ++ (DA16.cells p0.fed)))] w') ?_ ?_
      ·
       refine T.quiet (by kernel_rfl) (by kernel_rfl) ?_
       refine TQ.pure (.int .i64 e5.key.pfs) (by kernel_rfl) (fun _ => by kernel_rfl) ?_
       refine TQ.pure (.pointer (some ⟨b1, 1, none⟩)) (by kernel_rfl) (fun _ => by kernel_rfl) ?_
       obtain ⟨e6, hb7, hX2⟩ := Option.bind_eq_some_iff.1 hX2
       obtain ⟨hi16, hi17, hi18⟩ := idx_some hb7
       refine TQ.look (.pointer (some ((⟨b1, 1, none⟩ : Addr).add (e5.key.pfs.toNat * 1)))) (by kernel_rfl) (fun w' hh => exec_arrAddr (e := 3) rfl rfl rfl (by kernel_rfl) (by kernel_rfl) hi16 hi17) ?_
       refine TQ.look (.int .i64 e6) (by kernel_rfl) (fun w' hh => exec_load1 rfl rfl (by kernel_rfl) (hh.arr_at (i := 1) (by rfl) 1 p0.roles rfl hi18)) ?_
       refine TQ.pure (.bool (e6 == 0)) (by kernel_rfl) (fun _ => by kernel_rfl) ?_
       refine TQ.pure (.bool (e6 == 0)) (by kernel_rfl) (fun _ => by kernel_rfl) ?_
       cases hg6 : (e6 == 0)
       ·
        skip
        rw [hg6, cond_false] at hX2
        refine TQ.pure (.int .i64 e5.key.pfs) (by kernel_rfl) (fun _ => by kernel_rfl) ?_
        refine TQ.pure (.pointer (some ⟨b1, 1, none⟩)) (by kernel_rfl) (fun _ => by kernel_rfl) ?_
        obtain ⟨e7, hb8, hX2⟩ := Option.bind_eq_some_iff.1 hX2
        obtain ⟨hi19, hi20, hi21⟩ := idx_some hb8
        refine TQ.look (.pointer (some ((⟨b1, 1, none⟩ : Addr).add (e5.key.pfs.toNat * 1)))) (by kernel_rfl) (fun w' hh => exec_arrAddr (e := 3) rfl rfl rfl (by kernel_rfl) (by kernel_rfl) hi19 hi20) ?_
        refine TQ.look (.int .i64 e7) (by kernel_rfl) (fun w' hh => exec_load1 rfl rfl (by kernel_rfl) (hh.arr_at (i := 1) (by rfl) 1 p0.roles rfl hi21)) ?_
        refine TQ.pure (.bool (e7 == 2)) (by kernel_rfl) (fun _ => by kernel_rfl) ?_
        refine TQ.pure (.bool (e7 == 2)) (by kernel_rfl) (fun _ => by kernel_rfl) ?_
        cases hg7 : (e7 == 2)
        ·
         skip
         rw [hg7, cond_false] at hX2
         refine TQ.pass (by kernel_rfl) (by kernel_rfl) ?_
         refine TQ.pass (by kernel_rfl) (by kernel_rfl) ?_
         refine TQ.pass (by kernel_rfl) (by kernel_rfl) ?_
         refine TQ.pass (by kernel_rfl) (by kernel_rfl) ?_
         refine TQ.pass (by kernel_rfl) (by kernel_rfl) ?_
         refine TQ.pass (by kernel_rfl) (by kernel_rfl) ?_
         refine TQ.pass (by kernel_rfl) (by kernel_rfl) ?_
         refine TQ.pure (.bool false) (by kernel_rfl) (fun _ => by kernel_rfl) ?_
         refine TQ.pure (.bool false) (by kernel_rfl) (fun _ => by kernel_rfl) ?_
         refine TQ.nil ?_
         cases hX2
         exact fun a w' hf hh => And.intro ((((((Fr.nil hf).pick hf 83 rfl).pick hf 56 rfl).pick hf 55 rfl).pick hf 54 rfl).pick hf 1 rfl) (hh.sub (.cons _ (.cons_cons _ List.Sublist.slnil)))
        ·
         skip
         rw [hg7, cond_true] at hX2
         refine TQ.look (.agg #[.int .i64 e5.key.pfs, .int .i64 e5.key.obj, .int .i64 e5.key.off, .int .i64 e5.made, .int .i64 e5.gone, .string e5.val]) (by kernel_rfl) (fun w' hh => exec_loadN (cs := [.int .i64 e5.key.pfs, .int .i64 e5.key.obj, .int .i64 e5.key.off, .int .i64 e5.made, .int .i64 e5.gone, .string e5.val]) rfl rfl (by kernel_rfl) (by kernel_rfl) (fun j u hj => (hh.box_at (i := 0) (cs := [.int .i64 e5.key.pfs, .int .i64 e5.key.obj, .int .i64 e5.key.off, .int .i64 e5.made, .int .i64 e5.gone, .string e5.val]) (by rfl) 0 j).trans (seg_at (n := 6) (by rfl) hj))) ?_
         obtain ⟨r2, hb9, hX2⟩ := Option.bind_eq_some_iff.1 hX2
         refine TQ.call (vSc eInt) r2 34 #[.agg #[.int .i64 e5.key.pfs, .int .i64 e5.key.obj, .int .i64 e5.key.off, .int .i64 e5.made, .int .i64 e5.gone, .string e5.val]] (.int .i64 r2) (fun V u hu => sureInt V u _ hu) (by kernel_rfl) (fun _ => by kernel_rfl) (fun w' hh => elem_Last_l e5 r2 hb9 w' ) ?_
         refine TQ.pure (.int .i64 e5.key.pfs) (by kernel_rfl) (fun _ => by kernel_rfl) ?_
         refine TQ.pure (.pointer (some ⟨b1, 17, none⟩)) (by kernel_rfl) (fun _ => by kernel_rfl) ?_
         obtain ⟨e8, hb10, hX2⟩ := Option.bind_eq_some_iff.1 hX2
         obtain ⟨hi22, hi23, hi24⟩ := idx_some hb10
         refine TQ.look (.pointer (some ((⟨b1, 17, none⟩ : Addr).add (e5.key.pfs.toNat * 1)))) (by kernel_rfl) (fun w' hh => exec_arrAddr (e := 3) rfl rfl rfl (by kernel_rfl) (by kernel_rfl) hi22 hi23) ?_
         refine TQ.look (.int .i64 e8) (by kernel_rfl) (fun w' hh => exec_load1 rfl rfl (by kernel_rfl) (hh.arr_at (i := 1) (by rfl) 17 p0.fed rfl hi24)) ?_
         refine TQ.pure (.bool (decide (e8 < r2))) (by kernel_rfl) (fun _ => by kernel_rfl) ?_
         refine TQ.pure (.bool (decide (e8 < r2))) (by kernel_rfl) (fun _ => by kernel_rfl) ?_
         refine TQ.pure (.bool (decide (e8 < r2))) (by kernel_rfl) (fun _ => by kernel_rfl) ?_
         refine TQ.nil ?_
         cases hX2
         exact fun a w' hf hh => And.intro ((((((Fr.nil hf).pick hf 83 rfl).pick hf 56 rfl).pick hf 55 rfl).pick hf 54 rfl).pick hf 1 rfl) (hh.sub (.cons _ (.cons_cons _ List.Sublist.slnil)))
       ·
        skip
        rw [hg6, cond_true] at hX2
        refine TQ.pass (by kernel_rfl) (by kernel_rfl) ?_
        refine TQ.pass (by kernel_rfl) (by kernel_rfl) ?_
        refine TQ.pass (by kernel_rfl) (by kernel_rfl) ?_
        refine TQ.pass (by kernel_rfl) (by kernel_rfl) ?_
        refine TQ.pass (by kernel_rfl) (by kernel_rfl) ?_
        refine TQ.pass (by kernel_rfl) (by kernel_rfl) ?_
        refine TQ.pass (by kernel_rfl) (by kernel_rfl) ?_
        refine TQ.pass (by kernel_rfl) (by kernel_rfl) ?_
        refine TQ.pass (by kernel_rfl) (by kernel_rfl) ?_
        refine TQ.pass (by kernel_rfl) (by kernel_rfl) ?_
        refine TQ.pass (by kernel_rfl) (by kernel_rfl) ?_
        refine TQ.pass (by kernel_rfl) (by kernel_rfl) ?_
        refine TQ.pass (by kernel_rfl) (by kernel_rfl) ?_
        refine TQ.pass (by kernel_rfl) (by kernel_rfl) ?_
        refine TQ.pure (.bool true) (by kernel_rfl) (fun _ => by kernel_rfl) ?_
        refine TQ.nil ?_
        cases hX2
        exact fun a w' hf hh => And.intro ((((((Fr.nil hf).pick hf 83 rfl).pick hf 56 rfl).pick hf 55 rfl).pick hf 54 rfl).pick hf 1 rfl) (hh.sub (.cons _ (.cons_cons _ List.Sublist.slnil)))
      ·
       rintro a w' ⟨hf, hh⟩
       refine (?_ : T 85 w V1 [box b1 25 ((.slice A1 p0.run.length c1) :: (DA16.cells p0.roles ++ (DA16.cells p0.fed)))] [(1, .pointer (some ⟨b1, 0, none⟩)), (54, .slice A1 p0.run.length c1), (55, .int .i64 (p0.run.length : Int)), (56, .int .i64 x2), (83, .bool z2)] _) a w' hf hh
       clear hf hh
       refine T.cond z2 (by kernel_rfl) (by kernel_rfl) (fun hc5 => ?_) (fun hc5 => ?_)
       ·
        rw [hc5, cond_true] at hY2
        refine T.seq ?_
        refine T.region ?_
        refine T.pure (.int .i64 3) (by kernel_rfl) (fun _ => by kernel_rfl) ?_
        refine T.nil ?_
        cases hY2
        cases (hr2 _ rfl)
        try dsimp only at hF
        cases hF
        refine T.ret rfl ?_
        exact T.ret1 rfl (ResIs.tmp rfl) fun w' hh => ⟨_, rfl, hh.below, (show _ from rfl)⟩
       ·
        rw [hc5, cond_false] at hY2
        refine T.skip_code ?_
        refine T.region ?_
        refine T.pure (.int .i64 (IntKind.i64.wrap (x2 + 1))) (by kernel_rfl) (fun _ => by kernel_rfl) ?_
        refine T.pure (.int .i64 (IntKind.i64.wrap (x2 + 1))) (by kernel_rfl) (fun _ => by kernel_rfl) ?_
        refine T.nil ?_
        cases hY2
        exact fun a w' hf hh => Exists.intro (IntKind.i64.wrap (x2 + 1)) (And.intro rfl (And.intro (((((Fr.nil hf).pick hf 56 rfl).pick hf 55 rfl).pick hf 54 rfl).pick hf 1 rfl) (hh.sub (.cons_cons _ List.Sublist.slnil))))
     ·
      rw [hc4, cond_false] at hY2
      refine T.exit ?_
      cases hY2
      cases (hr2 _ rfl)
      exact fun a w' hf hh => And.intro rfl (And.intro (Fr.nil hf) (hh.sub (.cons _ List.Sublist.slnil)))
   ·
    rintro a w' ⟨rfl, hf, hh⟩
    try dsimp only at hF
    refine (?_ : T 85 w V1 [] [] _) a w' hf hh
    clear hf hh
    refine T.seq ?_
    refine T.region ?_
    refine T.pure (.int .i64 0) (by kernel_rfl) (fun _ => by kernel_rfl) ?_
    refine T.nil ?_
    cases hF
    refine T.ret rfl ?_
    exact T.ret1 rfl (ResIs.tmp rfl) fun w' hh => ⟨_, rfl, hh.below, (show _ from rfl)⟩
set_option maxRecDepth 100000 in
set_option maxHeartbeats 4000000 in
theorem realm_copied_l (p0 : DBook) (r : DBook) (hF : realm_copied p0 = some r) (w : World) (A1 : Option Addr) (c1 : Nat) (hs1 : SlOk (vw w) eElem A1 c1 p0.run) :
 Calls Try.prog 19 #[.agg (List.toArray ((.slice A1 p0.run.length c1) :: (DA16.cells p0.roles ++ (DA16.cells p0.fed))))] w (fun e w' => ∃ p : Option Addr × Nat, e = .returned (.agg (List.toArray ((.slice p.1 r.run.length p.2) :: (DA16.cells r.roles ++ (DA16.cells r.fed))))) ∧ True ∧ Gives w w' [row 30 eElem p.1 p.2 r.run]) := by
 unfold realm_copied at hF
 refine T.start (l := [.agg (List.toArray ((.slice A1 p0.run.length c1) :: (DA16.cells p0.roles ++ (DA16.cells p0.fed))))]) Try.func19 rfl rfl rfl ?_
 refine T.seq ?_
 refine T.region ?_
 refine T.step (W1.new 25 ((.slice A1 p0.run.length c1) :: (DA16.cells p0.roles ++ (DA16.cells p0.fed))) (fun b => .pointer (some ⟨b, 0, none⟩)) (by kernel_rfl) (fun _ => by kernel_rfl) (fun b1 => ?_))
 refine T.step (W1.new 25 ((.slice none 0 0) :: (DA16.cells (DA16.mk 0 0 0 0 0 0 0 0 0 0 0 0 0 0 0 0) ++ (DA16.cells (DA16.mk 0 0 0 0 0 0 0 0 0 0 0 0 0 0 0 0)))) (fun b => .pointer (some ⟨b, 0, none⟩)) (by kernel_rfl) (fun _ => by kernel_rfl) (fun b2 => ?_))
 refine T.nil ?_
 refine T.seq ?_
 refine T.region ?_
 refine T.pure (.pointer (some ⟨b1, 0, none⟩)) (by kernel_rfl) (fun _ => by kernel_rfl) ?_
 refine T.look (.slice A1 p0.run.length c1) (by kernel_rfl) (fun w' hh => exec_load1 rfl rfl (by kernel_rfl) (hh.cellBox (i := 1) (by rfl) 0)) ?_
 refine T.rownil 30 eElem ?_
 obtain ⟨y1, hb1, hF⟩ := Option.bind_eq_some_iff.1 hF
 obtain ⟨hb1_r, hb1_m, rfl⟩ := grow_some hb1
 obtain ⟨ti, hti, hz1, hz2, hz3⟩ := info_parts (P := Try.prog) (e := 30) (z := .agg #[.int .i64 0, .int .i64 0, .int .i64 0, .int .i64 0, .int .i64 0, .string (ByteArray.mk #[])]) (size := 6) (bytes := 56) (by kernel_rfl)
 refine T.step (W1.append (E := eElem) (l := ([] : List DElem)) (m := p0.run) 0 _ _ 56 ti _ (by rfl) (by kernel_rfl) rfl (by kernel_rfl) hti hz1 hz2 hz3 rfl (by decide) rfl rfl (fun w' hh => (SlOk.srcF (SlOk.mono hs1 hh.view) (fun _ _ _ _ h => h))) hb1_r hb1_m (fun A2 c2 => ?_))
 refine T.pure (.pointer (some ⟨b1, 0, none⟩)) (by kernel_rfl) (fun _ => by kernel_rfl) ?_
 refine T.step (W1.store 2 ((.slice A2 ((([] : List DElem) ++ p0.run).length) c2) :: (DA16.cells p0.roles ++ (DA16.cells p0.fed))) [row 30 eElem A2 c2 (([] : List DElem) ++ p0.run), box b2 25 ((.slice none 0 0) :: (DA16.cells (DA16.mk 0 0 0 0 0 0 0 0 0 0 0 0 0 0 0 0) ++ (DA16.cells (DA16.mk 0 0 0 0 0 0 0 0 0 0 0 0 0 0 0 0)))), box b1 25 ((.slice A2 ((([] : List DElem) ++ p0.run).length) c2) :: (DA16.cells p0.roles ++ (DA16.cells p0.fed)))] (by rfl) rfl (by kernel_rfl) (fun w' hw => exec_store (vs := [.slice A2 ((([] : List DElem) ++ p0.run).length) c2]) rfl rfl rfl rfl (by kernel_rfl) (one_of rfl) (Nat.le_of_ble_eq_true (by rfl)) rfl hw) ?_)
 refine T.nil ?_
 refine T.seq ?_
 refine T.region ?_
 refine T.look (.agg (List.toArray ((.slice A2 ((([] : List DElem) ++ p0.run).length) c2) :: (DA16.cells p0.roles ++ (DA16.cells p0.fed))))) (by kernel_rfl) (fun w' hh => exec_loadN (cs := ((.slice A2 ((([] : List DElem) ++ p0.run).length) c2) :: (DA16.cells p0.roles ++ (DA16.cells p0.fed)))) rfl rfl (by kernel_rfl) (by kernel_rfl) (fun j u hj => (hh.box_at (i := 2) (cs := ((.slice A2 ((([] : List DElem) ++ p0.run).length) c2) :: (DA16.cells p0.roles ++ (DA16.cells p0.fed)))) (by rfl) 0 j).trans (seg_at (n := 33) (by rfl) hj))) ?_
 refine T.step (W1.store 1 ((.slice A2 ((([] : List DElem) ++ p0.run).length) c2) :: (DA16.cells p0.roles ++ (DA16.cells p0.fed))) [row 30 eElem A2 c2 (([] : List DElem) ++ p0.run), box b2 25 ((.slice A2 ((([] : List DElem) ++ p0.run).length) c2) :: (DA16.cells p0.roles ++ (DA16.cells p0.fed))), box b1 25 ((.slice A2 ((([] : List DElem) ++ p0.run).length) c2) :: (DA16.cells p0.roles ++ (DA16.cells p0.fed)))] (by rfl) rfl (by kernel_rfl) (fun w' hw => exec_store (vs := ((.slice A2 ((([] : List DElem) ++ p0.run).length) c2) :: (DA16.cells p0.roles ++ (DA16.cells p0.fed)))) rfl rfl rfl rfl (by kernel_rfl) (one_of rfl) (Nat.le_of_ble_eq_true (by rfl)) rfl hw) ?_)
 refine T.nil ?_
 cases hF
 refine T.ret rfl ?_
 exact T.ret1 rfl (ResIs.cellN 1 rfl (by rfl) (fun _ => by kernel_rfl) (fun _ => by kernel_rfl)) fun w' hh => ⟨(A2, c2), rfl, trivial, gives_of (hh.sub (.cons_cons _ (.cons _ (.cons _ List.Sublist.slnil)))) ⟨flat_row (fun _ _ _ _ h => h), trivial⟩⟩
set_option maxRecDepth 100000 in
set_option maxHeartbeats 4000000 in
theorem realm_look_l (F : Nat) (p0 : DBook) (p1 : Int) (r : Int) (hF : realm_look F p0 p1 = some r) (w : World) (A1 : Option Addr) (c1 : Nat) (hs1 : SlOk (vw w) eElem A1 c1 p0.run) :
 Calls Try.prog 18 #[.agg (List.toArray ((.slice A1 p0.run.length c1) :: (DA16.cells p0.roles ++ (DA16.cells p0.fed)))), .int .i64 p1] w (Post (vSc eInt) r w) := by
 unfold realm_look at hF
 refine T.start (l := [.agg (List.toArray ((.slice A1 p0.run.length c1) :: (DA16.cells p0.roles ++ (DA16.cells p0.fed)))), .int .i64 p1]) Try.func18 rfl rfl rfl ?_
 refine T.seq ?_
 refine T.region ?_
 refine T.step (W1.new 25 ((.slice A1 p0.run.length c1) :: (DA16.cells p0.roles ++ (DA16.cells p0.fed))) (fun b => .pointer (some ⟨b, 0, none⟩)) (by kernel_rfl) (fun _ => by kernel_rfl) (fun b1 => ?_))
 refine T.pure (.int .i64 0) (by kernel_rfl) (fun _ => by kernel_rfl) ?_
 refine T.nil ?_
 refine T.seq ?_
 refine T.seq ?_
 refine T.region ?_
 refine T.look (.agg (List.toArray ((.slice A1 p0.run.length c1) :: (DA16.cells p0.roles ++ (DA16.cells p0.fed))))) (by kernel_rfl) (fun w' hh => exec_loadN (cs := ((.slice A1 p0.run.length c1) :: (DA16.cells p0.roles ++ (DA16.cells p0.fed)))) rfl rfl (by kernel_rfl) (by kernel_rfl) (fun j u hj => (hh.box_at (i := 0) (cs := ((.slice A1 p0.run.length c1) :: (DA16.cells p0.roles ++ (DA16.cells p0.fed)))) (by rfl) 0 j).trans (seg_at (n := 33) (by rfl) hj))) ?_
 obtain ⟨r1, hb1, hF⟩ := Option.bind_eq_some_iff.1 hF
 refine T.step (W1.call (vSc eInt) r1 24 #[.agg (List.toArray ((.slice A1 p0.run.length c1) :: (DA16.cells p0.roles ++ (DA16.cells p0.fed))))] (by kernel_rfl) (fun _ => by kernel_rfl) (fun w' hh => realm_Check_l F p0 r1 hb1 w' A1 c1 (SlOk.mono hs1 hh.view)) ?_)
 intro u V1 hV1 hu
 obtain rfl := sureInt _ _ _ hu
 refine T.pure (.int .i64 r1) (by kernel_rfl) (fun _ => by kernel_rfl) ?_
 refine T.nil ?_
 refine T.seq ?_
 refine T.region ?_
 refine T.pure (.int .i64 r1) (by kernel_rfl) (fun _ => by kernel_rfl) ?_
 refine T.pure (.bool (r1 != 0)) (by kernel_rfl) (fun _ => by kernel_rfl) ?_
 refine T.nil ?_
 refine T.cond (r1 != 0) (by kernel_rfl) (by kernel_rfl) (fun hc1 => ?_) (fun hc1 => ?_)
 ·
  rw [hc1, cond_true] at hF
  refine T.seq ?_
  refine T.region ?_
  refine T.pure (.int .i64 r1) (by kernel_rfl) (fun _ => by kernel_rfl) ?_
  refine T.pure (.int .i64 r1) (by kernel_rfl) (fun _ => by kernel_rfl) ?_
  refine T.nil ?_
  cases hF
  refine T.ret rfl ?_
  exact T.ret1 rfl (ResIs.tmp rfl) fun w' hh => ⟨_, rfl, hh.below, (show _ from rfl)⟩
 ·
  rw [hc1, cond_false] at hF
  refine T.skip_code ?_
  refine T.seq ?_
  refine T.cut (fun a w' => Fr 17 [(16, .bool ((decide (p1 < 0)) || (decide ((15 : Int) < p1))))] a ∧ Hp w V1 [] w') ?_ ?_
  ·
   refine T.region ?_
   refine T.pure (.int .i64 p1) (by kernel_rfl) (fun _ => by kernel_rfl) ?_
   refine T.pure (.bool (decide (p1 < 0))) (by kernel_rfl) (fun _ => by kernel_rfl) ?_
   refine T.pure (.bool (decide (p1 < 0))) (by kernel_rfl) (fun _ => by kernel_rfl) ?_
   cases hg1 : decide (p1 < 0)
   ·
    skip
    refine T.pure (.int .i64 p1) (by kernel_rfl) (fun _ => by kernel_rfl) ?_
    refine T.pure (.bool (decide ((15 : Int) < p1))) (by kernel_rfl) (fun _ => by kernel_rfl) ?_
    refine T.pure (.bool (decide ((15 : Int) < p1))) (by kernel_rfl) (fun _ => by kernel_rfl) ?_
    refine T.nil ?_
    exact fun a w' hf hh => And.intro ((Fr.nil hf).pick hf 16 rfl) (hh.sub (.cons _ List.Sublist.slnil))
   ·
    skip
    refine T.pass (by kernel_rfl) (by kernel_rfl) ?_
    refine T.pass (by kernel_rfl) (by kernel_rfl) ?_
    refine T.pure (.bool true) (by kernel_rfl) (fun _ => by kernel_rfl) ?_
    refine T.nil ?_
    exact fun a w' hf hh => And.intro ((Fr.nil hf).pick hf 16 rfl) (hh.sub (.cons _ List.Sublist.slnil))
  ·
   rintro a w' ⟨hf, hh⟩
   refine (?_ : T 17 w V1 [] [(16, .bool ((decide (p1 < 0)) || (decide ((15 : Int) < p1))))] _) a w' hf hh
   clear hf hh
   refine T.cond ((decide (p1 < 0)) || (decide ((15 : Int) < p1))) (by kernel_rfl) (by kernel_rfl) (fun hc2 => ?_) (fun hc2 => ?_)
   ·
    rw [hc2, cond_true] at hF
    refine T.seq ?_
    refine T.region ?_
    refine T.pure (.int .i64 1) (by kernel_rfl) (fun _ => by kernel_rfl) ?_
    refine T.nil ?_
    cases hF
    refine T.ret rfl ?_
    exact T.ret1 rfl (ResIs.tmp rfl) fun w' hh => ⟨_, rfl, hh.below, (show _ from rfl)⟩
   ·
    rw [hc2, cond_false] at hF
    refine T.skip_code ?_
    refine T.seq ?_
    refine T.region ?_
    refine T.pure (.int .i64 0) (by kernel_rfl) (fun _ => by kernel_rfl) ?_
    refine T.nil ?_
    cases hF
    refine T.ret rfl ?_
    exact T.ret1 rfl (ResIs.tmp rfl) fun w' hh => ⟨_, rfl, hh.below, (show _ from rfl)⟩
set_option maxRecDepth 100000 in
set_option maxHeartbeats 4000000 in
theorem realm_with_l (F : Nat) (p0 : DBook) (p1 : Int) (p2 : (List DElem)) (r : DBook × Int) (hF : realm_with F p0 p1 p2 = some r) (w : World) (A1 : Option Addr) (c1 : Nat) (hs1 : SlOk (vw w) eElem A1 c1 p0.run) (A2 : Option Addr) (c2 : Nat) (hs2 : SlOk (vw w) eElem A2 c2 p2) :
 Calls Try.prog 22 #[.agg (List.toArray ((.slice A1 p0.run.length c1) :: (DA16.cells p0.roles ++ (DA16.cells p0.fed)))), .int .i64 p1, .slice A2 p2.length c2] w (fun e w' => ∃ p : Option Addr × Nat, e = .returned (.tuple #[.agg (List.toArray ((.slice p.1 r.1.run.length p.2) :: (DA16.cells r.1.roles ++ (DA16.cells r.1.fed)))), .int .i64 r.2]) ∧ True ∧ Gives w w' [row 30 eElem p.1 p.2 r.1.run]) := by
 unfold realm_with at hF
 refine T.start (l := [.agg (List.toArray ((.slice A1 p0.run.length c1) :: (DA16.cells p0.roles ++ (DA16.cells p0.fed)))), .int .i64 p1, .slice A2 p2.length c2]) Try.func22 rfl rfl rfl ?_
 refine T.seq ?_
 refine T.region ?_
 refine T.step (W1.new 25 ((.slice A1 p0.run.length c1) :: (DA16.cells p0.roles ++ (DA16.cells p0.fed))) (fun b => .pointer (some ⟨b, 0, none⟩)) (by kernel_rfl) (fun _ => by kernel_rfl) (fun b1 => ?_))
 refine T.step (W1.new 25 ((.slice none 0 0) :: (DA16.cells (DA16.mk 0 0 0 0 0 0 0 0 0 0 0 0 0 0 0 0) ++ (DA16.cells (DA16.mk 0 0 0 0 0 0 0 0 0 0 0 0 0 0 0 0)))) (fun b => .pointer (some ⟨b, 0, none⟩)) (by kernel_rfl) (fun _ => by kernel_rfl) (fun b2 => ?_))
 refine T.pure (.int .i64 0) (by kernel_rfl) (fun _ => by kernel_rfl) ?_
 refine T.nil ?_
 refine T.seq ?_
 refine T.region ?_
 refine T.pure (.pointer (some ⟨b1, 0, none⟩)) (by kernel_rfl) (fun _ => by kernel_rfl) ?_
 refine T.look (.slice A1 p0.run.length c1) (by kernel_rfl) (fun w' hh => exec_load1 rfl rfl (by kernel_rfl) (hh.cellBox (i := 1) (by rfl) 0)) ?_
 refine T.pure (.int .i64 p1) (by kernel_rfl) (fun _ => by kernel_rfl) ?_
 obtain ⟨q1, hX1, hF⟩ := Option.bind_eq_some_iff.1 hF
 refine T.step (W1.within 20 [.slice A1 p0.run.length c1, .int .i64 p1] (fun v w' => ∃ (z1 : List DElem) (z2 : List DElem) (z3 : List DElem), q1 = (z1, z2, z3) ∧ ∃ (A3 : Option Addr) (c3 : Nat) (A4 : Option Addr) (c4 : Nat) (A5 : Option Addr) (c5 : Nat) (V1 : View), View.le (vw w) V1 ∧ SlOk V1 eElem A3 c3 z1 ∧ SlOk V1 eElem A4 c4 z2 ∧ SlOk V1 eElem A5 c5 z3 ∧ v = .tuple #[.slice A3 z1.length c3, .slice A4 z2.length c4, .slice A5 z3.length c5] ∧ Hp w V1 [box b2 25 ((.slice none 0 0) :: (DA16.cells (DA16.mk 0 0 0 0 0 0 0 0 0 0 0 0 0 0 0 0) ++ (DA16.cells (DA16.mk 0 0 0 0 0 0 0 0 0 0 0 0 0 0 0 0)))), box b1 25 ((.slice A1 p0.run.length c1) :: (DA16.cells p0.roles ++ (DA16.cells p0.fed)))] w') Try.func20 rfl rfl (by kernel_rfl) (fun _ => by kernel_rfl) rfl ?_ ?_)
 ·
  refine T.seq ?_
  refine T.region ?_
  refine T.pure (.slice none 0 0) (by kernel_rfl) (fun _ => by kernel_rfl) ?_
  refine T.pure (.slice none 0 0) (by kernel_rfl) (fun _ => by kernel_rfl) ?_
  refine T.pure (.slice none 0 0) (by kernel_rfl) (fun _ => by kernel_rfl) ?_
  refine T.nil ?_
  refine T.seq ?_
  refine T.region ?_
  refine T.pure (.int .i64 0) (by kernel_rfl) (fun _ => by kernel_rfl) ?_
  refine T.nil ?_
  obtain ⟨z4, hz1, hX1⟩ := Option.bind_eq_some_iff.1 hX1
  refine T.cut (fun a w' => Fr 52 [(0, .slice A1 p0.run.length c1), (1, .int .i64 p1), (7, .int .i64 z4)] a ∧ Hp w (vw w) [box b2 25 ((.slice none 0 0) :: (DA16.cells (DA16.mk 0 0 0 0 0 0 0 0 0 0 0 0 0 0 0 0) ++ (DA16.cells (DA16.mk 0 0 0 0 0 0 0 0 0 0 0 0 0 0 0 0)))), box b1 25 ((.slice A1 p0.run.length c1) :: (DA16.cells p0.roles ++ (DA16.cells p0.fed)))] w') ?_ ?_
  ·
   refine T.block ?_
   refine T.iter (fun x1 a w' => Fr 52 [(0, .slice A1 p0.run.length c1), (1, .int .i64 p1), (7, .int .i64 x1)] a ∧ Hp w (vw w) [box b2 25 ((.slice none 0 0) :: (DA16.cells (DA16.mk 0 0 0 0 0 0 0 0 0 0 0 0 0 0 0 0) ++ (DA16.cells (DA16.mk 0 0 0 0 0 0 0 0 0 0 0 0 0 0 0 0)))), box b1 25 ((.slice A1 p0.run.length c1) :: (DA16.cells p0.roles ++ (DA16.cells p0.fed)))] w') hz1 ?_ ?_
   ·
    exact fun a w' hf hh => And.intro ((((Fr.nil hf).pick hf 7 rfl).pick hf 1 rfl).pick hf 0 rfl) (hh.sub (.cons_cons _ (.cons_cons _ List.Sublist.slnil)))
   ·
    rintro x1 y1 hY1 hr1 a w' ⟨hf, hh⟩
    refine (?_ : T 52 w (vw w) [box b2 25 ((.slice none 0 0) :: (DA16.cells (DA16.mk 0 0 0 0 0 0 0 0 0 0 0 0 0 0 0 0) ++ (DA16.cells (DA16.mk 0 0 0 0 0 0 0 0 0 0 0 0 0 0 0 0)))), box b1 25 ((.slice A1 p0.run.length c1) :: (DA16.cells p0.roles ++ (DA16.cells p0.fed)))] [(0, .slice A1 p0.run.length c1), (1, .int .i64 p1), (7, .int .i64 x1)] _) a w' hf hh
    clear hf hh
    try dsimp only at hY1
    refine T.seq ?_
    obtain ⟨z5, hX2, hY1⟩ := Option.bind_eq_some_iff.1 hY1
    refine T.cut (fun a w' => Fr 52 [(0, .slice A1 p0.run.length c1), (1, .int .i64 p1), (7, .int .i64 x1), (22, .bool z5)] a ∧ Hp w (vw w) [box b2 25 ((.slice none 0 0) :: (DA16.cells (DA16.mk 0 0 0 0 0 0 0 0 0 0 0 0 0 0 0 0) ++ (DA16.cells (DA16.mk 0 0 0 0 0 0 0 0 0 0 0 0 0 0 0 0)))), box b1 25 ((.slice A1 p0.run.length c1) :: (DA16.cells p0.roles ++ (DA16.cells p0.fed)))] w') ?_ ?_
    ·
     refine T.region ?_
     refine T.pure (.int .i64 x1) (by kernel_rfl) (fun _ => by kernel_rfl) ?_
     refine T.pure (.slice A1 p0.run.length c1) (by kernel_rfl) (fun _ => by kernel_rfl) ?_
     refine T.pure (.int .i64 (p0.run.length : Int)) (by kernel_rfl) (fun _ => by kernel_rfl) ?_
     refine T.pure (.bool (decide (x1 < (p0.run.length : Int)))) (by kernel_rfl) (fun _ => by kernel_rfl) ?_
     refine T.pure (.bool (decide (x1 < (p0.run.length : Int)))) (by kernel_rfl) (fun _ => by kernel_rfl) ?_
     cases hg1 : decide (x1 < (p0.run.length : Int))
     ·
      skip
      rw [hg1, cond_false] at hX2
      refine T.pass (by kernel_rfl) (by kernel_rfl) ?_
      refine T.pass (by kernel_rfl) (by kernel_rfl) ?_
      refine T.pass (by kernel_rfl) (by kernel_rfl) ?_
      refine T.pass (by kernel_rfl) (by kernel_rfl) ?_
      refine T.pass (by kernel_rfl) (by kernel_rfl) ?_
      refine T.pass (by kernel_rfl) (by kernel_rfl) ?_
      refine T.pass (by kernel_rfl) (by kernel_rfl) ?_
      refine T.pass (by kernel_rfl) (by kernel_rfl) ?_
      refine T.pure (.bool false) (by kernel_rfl) (fun _ => by kernel_rfl) ?_
      refine T.nil ?_
      cases hX2
      exact fun a w' hf hh => And.intro (((((Fr.nil hf).pick hf 22 rfl).pick hf 7 rfl).pick hf 1 rfl).pick hf 0 rfl) (hh.sub (.cons_cons _ (.cons_cons _ List.Sublist.slnil)))
     ·
      skip
      rw [hg1, cond_true] at hX2
      refine T.pure (.slice A1 p0.run.length c1) (by kernel_rfl) (fun _ => by kernel_rfl) ?_
      refine T.pure (.int .i64 x1) (by kernel_rfl) (fun _ => by kernel_rfl) ?_
      obtain ⟨e1, hb1, hX2⟩ := Option.bind_eq_some_iff.1 hX2
      obtain ⟨hi1, hi2, hi3⟩ := idx_some hb1
      refine T.look (.pointer (some ((sadr A1).add (x1.toNat * 6)))) (by kernel_rfl) (fun w' hh => exec_indexAddr (e := 30) (s := 6) rfl rfl rfl (by kernel_rfl) (by kernel_rfl) hi1 hi2 (hs1.some_ hi3 (by decide))) ?_
      refine T.pure (.pointer (some ((sadr A1).add (x1.toNat * 6)))) (by kernel_rfl) (fun _ => by kernel_rfl) ?_
      refine T.pure (.pointer (some ((sadr A1).add (x1.toNat * 6)))) (by kernel_rfl) (fun _ => by kernel_rfl) ?_
      refine T.look (.int .i64 e1.key.pfs) (by kernel_rfl) (fun w' hh => exec_load1 rfl rfl (by kernel_rfl) (hh.cell_view (SlOk.cellF0 (E := eElem) hs1 hi3 (fun _ _ _ h => h) rfl))) ?_
      refine T.pure (.int .i64 p1) (by kernel_rfl) (fun _ => by kernel_rfl) ?_
      refine T.pure (.bool (decide (e1.key.pfs < p1))) (by kernel_rfl) (fun _ => by kernel_rfl) ?_
      refine T.pure (.bool (decide (e1.key.pfs < p1))) (by kernel_rfl) (fun _ => by kernel_rfl) ?_
      refine T.nil ?_
      cases hX2
      exact fun a w' hf hh => And.intro (((((Fr.nil hf).pick hf 22 rfl).pick hf 7 rfl).pick hf 1 rfl).pick hf 0 rfl) (hh.sub (.cons_cons _ (.cons_cons _ List.Sublist.slnil)))
    ·
     rintro a w' ⟨hf, hh⟩
     refine (?_ : T 52 w (vw w) [box b2 25 ((.slice none 0 0) :: (DA16.cells (DA16.mk 0 0 0 0 0 0 0 0 0 0 0 0 0 0 0 0) ++ (DA16.cells (DA16.mk 0 0 0 0 0 0 0 0 0 0 0 0 0 0 0 0)))), box b1 25 ((.slice A1 p0.run.length c1) :: (DA16.cells p0.roles ++ (DA16.cells p0.fed)))] [(0, .slice A1 p0.run.length c1), (1, .int .i64 p1), (7, .int .i64 x1), (22, .bool z5)] _) a w' hf hh
     clear hf hh
     refine T.cond z5 (by kernel_rfl) (by kernel_rfl) (fun hc1 => ?_) (fun hc1 => ?_)
     ·
      rw [hc1, cond_true] at hY1
      refine T.skip_code ?_
      refine T.block ?_
      refine T.region ?_
      refine T.pure (.int .i64 x1) (by kernel_rfl) (fun _ => by kernel_rfl) ?_
      refine T.pure (.int .i64 (IntKind.i64.wrap (x1 + 1))) (by kernel_rfl) (fun _ => by kernel_rfl) ?_
      refine T.pure (.int .i64 (IntKind.i64.wrap (x1 + 1))) (by kernel_rfl) (fun _ => by kernel_rfl) ?_
      refine T.nil ?_
      cases hY1
      exact fun a w' hf hh => Exists.intro (IntKind.i64.wrap (x1 + 1)) (And.intro rfl (And.intro ((((Fr.nil hf).pick hf 7 rfl).pick hf 1 rfl).pick hf 0 rfl) (hh.sub (.cons_cons _ (.cons_cons _ List.Sublist.slnil)))))
     ·
      rw [hc1, cond_false] at hY1
      refine T.exit ?_
      cases hY1
      cases (hr1 _ rfl)
      exact fun a w' hf hh => And.intro ((((Fr.nil hf).pick hf 7 rfl).pick hf 1 rfl).pick hf 0 rfl) (hh.sub (.cons_cons _ (.cons_cons _ List.Sublist.slnil)))
  ·
   rintro a w' ⟨hf, hh⟩
   refine (?_ : T 52 w (vw w) [box b2 25 ((.slice none 0 0) :: (DA16.cells (DA16.mk 0 0 0 0 0 0 0 0 0 0 0 0 0 0 0 0) ++ (DA16.cells (DA16.mk 0 0 0 0 0 0 0 0 0 0 0 0 0 0 0 0)))), box b1 25 ((.slice A1 p0.run.length c1) :: (DA16.cells p0.roles ++ (DA16.cells p0.fed)))] [(0, .slice A1 p0.run.length c1), (1, .int .i64 p1), (7, .int .i64 z4)] _) a w' hf hh
   clear hf hh
   refine T.seq ?_
   refine T.region ?_
   refine T.pure (.int .i64 z4) (by kernel_rfl) (fun _ => by kernel_rfl) ?_
   refine T.pure (.int .i64 z4) (by kernel_rfl) (fun _ => by kernel_rfl) ?_
   refine T.nil ?_
   obtain ⟨z6, hz2, hX1⟩ := Option.bind_eq_some_iff.1 hX1
   refine T.cut (fun a w' => Fr 52 [(0, .slice A1 p0.run.length c1), (7, .int .i64 z4), (8, .int .i64 z6)] a ∧ Hp w (vw w) [box b2 25 ((.slice none 0 0) :: (DA16.cells (DA16.mk 0 0 0 0 0 0 0 0 0 0 0 0 0 0 0 0) ++ (DA16.cells (DA16.mk 0 0 0 0 0 0 0 0 0 0 0 0 0 0 0 0)))), box b1 25 ((.slice A1 p0.run.length c1) :: (DA16.cells p0.roles ++ (DA16.cells p0.fed)))] w') ?_ ?_
   ·
    refine T.block ?_
    refine T.iter (fun x2 a w' => Fr 52 [(0, .slice A1 p0.run.length c1), (1, .int .i64 p1), (7, .int .i64 z4), (8, .int .i64 x2)] a ∧ Hp w (vw w) [box b2 25 ((.slice none 0 0) :: (DA16.cells (DA16.mk 0 0 0 0 0 0 0 0 0 0 0 0 0 0 0 0) ++ (DA16.cells (DA16.mk 0 0 0 0 0 0 0 0 0 0 0 0 0 0 0 0)))), box b1 25 ((.slice A1 p0.run.length c1) :: (DA16.cells p0.roles ++ (DA16.cells p0.fed)))] w') hz2 ?_ ?_
    ·
     exact fun a w' hf hh => And.intro (((((Fr.nil hf).pick hf 8 rfl).pick hf 7 rfl).pick hf 1 rfl).pick hf 0 rfl) (hh.sub (.cons_cons _ (.cons_cons _ List.Sublist.slnil)))
    ·
     rintro x2 y2 hY2 hr2 a w' ⟨hf, hh⟩
     refine (?_ : T 52 w (vw w) [box b2 25 ((.slice none 0 0) :: (DA16.cells (DA16.mk 0 0 0 0 0 0 0 0 0 0 0 0 0 0 0 0) ++ (DA16.cells (DA16.mk 0 0 0 0 0 0 0 0 0 0 0 0 0 0 0 0)))), box b1 25 ((.slice A1 p0.run.length c1) :: (DA16.cells p0.roles ++ (DA16.cells p0.fed)))] [(0, .slice A1 p0.run.length c1), (1, .int .i64 p1), (7, .int .i64 z4), (8, .int .i64 x2)] _) a w' hf hh
     clear hf hh
     try dsimp only at hY2
     refine T.seq ?_
     obtain ⟨z7, hX3, hY2⟩ := Option.bind_eq_some_iff.1 hY2
     refine T.cut (fun a w' => Fr 52 [(0, .slice A1 p0.run.length c1), (1, .int .i64 p1), (7, .int .i64 z4), (8, .int .i64 x2), (39, .bool z7)] a ∧ Hp w (vw w) [box b2 25 ((.slice none 0 0) :: (DA16.cells (DA16.mk 0 0 0 0 0 0 0 0 0 0 0 0 0 0 0 0) ++ (DA16.cells (DA16.mk 0 0 0 0 0 0 0 0 0 0 0 0 0 0 0 0)))), box b1 25 ((.slice A1 p0.run.length c1) :: (DA16.cells p0.roles ++ (DA16.cells p0.fed)))] w') ?_ ?_
     ·
      refine T.region ?_
      refine T.pure (.int .i64 x2) (by kernel_rfl) (fun _ => by kernel_rfl) ?_
      refine T.pure (.slice A1 p0.run.length c1) (by kernel_rfl) (fun _ => by kernel_rfl) ?_
      refine T.pure (.int .i64 (p0.run.length : Int)) (by kernel_rfl) (fun _ => by kernel_rfl) ?_
      refine T.pure (.bool (decide (x2 < (p0.run.length : Int)))) (by kernel_rfl) (fun _ => by kernel_rfl) ?_
      refine T.pure (.bool (decide (x2 < (p0.run.length : Int)))) (by kernel_rfl) (fun _ => by kernel_rfl) ?_
      cases hg2 : decide (x2 < (p0.run.length : Int))
      ·
       skip
       rw [hg2, cond_false] at hX3
       refine T.pass (by kernel_rfl) (by kernel_rfl) ?_
       refine T.pass (by kernel_rfl) (by kernel_rfl) ?_
       refine T.pass (by kernel_rfl) (by kernel_rfl) ?_
       refine T.pass (by kernel_rfl) (by kernel_rfl) ?_
       refine T.pass (by kernel_rfl) (by kernel_rfl) ?_
       refine T.pass (by kernel_rfl) (by kernel_rfl) ?_
       refine T.pass (by kernel_rfl) (by kernel_rfl) ?_
       refine T.pass (by kernel_rfl) (by kernel_rfl) ?_
       refine T.pure (.bool false) (by kernel_rfl) (fun _ => by kernel_rfl) ?_
       refine T.nil ?_
       cases hX3
       exact fun a w' hf hh => And.intro ((((((Fr.nil hf).pick hf 39 rfl).pick hf 8 rfl).pick hf 7 rfl).pick hf 1 rfl).pick hf 0 rfl) (hh.sub (.cons_cons _ (.cons_cons _ List.Sublist.slnil)))
      ·
       skip
       rw [hg2, cond_true] at hX3
       refine T.pure (.slice A1 p0.run.length c1) (by kernel_rfl) (fun _ => by kernel_rfl) ?_
       refine T.pure (.int .i64 x2) (by kernel_rfl) (fun _ => by kernel_rfl) ?_
       obtain ⟨e2, hb2, hX3⟩ := Option.bind_eq_some_iff.1 hX3
       obtain ⟨hi4, hi5, hi6⟩ := idx_some hb2
       refine T.look (.pointer (some ((sadr A1).add (x2.toNat * 6)))) (by kernel_rfl) (fun w' hh => exec_indexAddr (e := 30) (s := 6) rfl rfl rfl (by kernel_rfl) (by kernel_rfl) hi4 hi5 (hs1.some_ hi6 (by decide))) ?_
       refine T.pure (.pointer (some ((sadr A1).add (x2.toNat * 6)))) (by kernel_rfl) (fun _ => by kernel_rfl) ?_
       refine T.pure (.pointer (some ((sadr A1).add (x2.toNat * 6)))) (by kernel_rfl) (fun _ => by kernel_rfl) ?_
       refine T.look (.int .i64 e2.key.pfs) (by kernel_rfl) (fun w' hh => exec_load1 rfl rfl (by kernel_rfl) (hh.cell_view (SlOk.cellF0 (E := eElem) hs1 hi6 (fun _ _ _ h => h) rfl))) ?_
       refine T.pure (.int .i64 p1) (by kernel_rfl) (fun _ => by kernel_rfl) ?_
       refine T.pure (.bool (e2.key.pfs == p1)) (by kernel_rfl) (fun _ => by kernel_rfl) ?_
       refine T.pure (.bool (e2.key.pfs == p1)) (by kernel_rfl) (fun _ => by kernel_rfl) ?_
       refine T.nil ?_
       cases hX3
       exact fun a w' hf hh => And.intro ((((((Fr.nil hf).pick hf 39 rfl).pick hf 8 rfl).pick hf 7 rfl).pick hf 1 rfl).pick hf 0 rfl) (hh.sub (.cons_cons _ (.cons_cons _ List.Sublist.slnil)))
     ·
      rintro a w' ⟨hf, hh⟩
      refine (?_ : T 52 w (vw w) [box b2 25 ((.slice none 0 0) :: (DA16.cells (DA16.mk 0 0 0 0 0 0 0 0 0 0 0 0 0 0 0 0) ++ (DA16.cells (DA16.mk 0 0 0 0 0 0 0 0 0 0 0 0 0 0 0 0)))), box b1 25 ((.slice A1 p0.run.length c1) :: (DA16.cells p0.roles ++ (DA16.cells p0.fed)))] [(0, .slice A1 p0.run.length c1), (1, .int .i64 p1), (7, .int .i64 z4), (8, .int .i64 x2), (39, .bool z7)] _) a w' hf hh
      clear hf hh
      refine T.cond z7 (by kernel_rfl) (by kernel_rfl) (fun hc2 => ?_) (fun hc2 => ?_)
      ·
       rw [hc2, cond_true] at hY2
       refine T.skip_code ?_
       refine T.block ?_
       refine T.region ?_
       refine T.pure (.int .i64 x2) (by kernel_rfl) (fun _ => by kernel_rfl) ?_
       refine T.pure (.int .i64 (IntKind.i64.wrap (x2 + 1))) (by kernel_rfl) (fun _ => by kernel_rfl) ?_
       refine T.pure (.int .i64 (IntKind.i64.wrap (x2 + 1))) (by kernel_rfl) (fun _ => by kernel_rfl) ?_
       refine T.nil ?_
       cases hY2
       exact fun a w' hf hh => Exists.intro (IntKind.i64.wrap (x2 + 1)) (And.intro rfl (And.intro (((((Fr.nil hf).pick hf 8 rfl).pick hf 7 rfl).pick hf 1 rfl).pick hf 0 rfl) (hh.sub (.cons_cons _ (.cons_cons _ List.Sublist.slnil)))))
      ·
       rw [hc2, cond_false] at hY2
       refine T.exit ?_
       cases hY2
       cases (hr2 _ rfl)
       exact fun a w' hf hh => And.intro ((((Fr.nil hf).pick hf 8 rfl).pick hf 7 rfl).pick hf 0 rfl) (hh.sub (.cons_cons _ (.cons_cons _ List.Sublist.slnil)))
   ·
    rintro a w' ⟨hf, hh⟩
    refine (?_ : T 52 w (vw w) [box b2 25 ((.slice none 0 0) :: (DA16.cells (DA16.mk 0 0 0 0 0 0 0 0 0 0 0 0 0 0 0 0) ++ (DA16.cells (DA16.mk 0 0 0 0 0 0 0 0 0 0 0 0 0 0 0 0)))), box b1 25 ((.slice A1 p0.run.length c1) :: (DA16.cells p0.roles ++ (DA16.cells p0.fed)))] [(0, .slice A1 p0.run.length c1), (7, .int .i64 z4), (8, .int .i64 z6)] _) a w' hf hh
    clear hf hh
    refine T.seq ?_
    refine T.quiet (by kernel_rfl) (by kernel_rfl) ?_
    refine TQ.pure (.slice A1 p0.run.length c1) (by kernel_rfl) (fun _ => by kernel_rfl) ?_
    refine TQ.pure (.int .i64 z4) (by kernel_rfl) (fun _ => by kernel_rfl) ?_
    obtain ⟨s1, hb3, hX1⟩ := Option.bind_eq_some_iff.1 hX1
    refine TQ.look (.slice A1 s1.length c1) (by kernel_rfl) (fun w' hh => exec_slice_list0 (e := 30) (s := 6) (lx := none) (hx := (some _)) (k := .i64) (k' := .i64) rfl rfl (by kernel_rfl) (by kernel_rfl) (hs1).1 rfl rfl hb3) ?_
    refine TQ.pure (.slice A1 p0.run.length c1) (by kernel_rfl) (fun _ => by kernel_rfl) ?_
    refine TQ.pure (.int .i64 z4) (by kernel_rfl) (fun _ => by kernel_rfl) ?_
    refine TQ.pure (.int .i64 z6) (by kernel_rfl) (fun _ => by kernel_rfl) ?_
    obtain ⟨s2, hb4, hX1⟩ := Option.bind_eq_some_iff.1 hX1
    refine TQ.look (.slice (cutA A1 c1 z4.toNat 6) s2.length (c1 - z4.toNat)) (by kernel_rfl) (fun w' hh => exec_slice_list (e := 30) (s := 6) (lx := (some _)) (hx := (some _)) (k := .i64) (k' := .i64) rfl rfl (by kernel_rfl) (by kernel_rfl) (hs1).1 rfl rfl hb4) ?_
    refine TQ.pure (.slice A1 p0.run.length c1) (by kernel_rfl) (fun _ => by kernel_rfl) ?_
    refine TQ.pure (.int .i64 z6) (by kernel_rfl) (fun _ => by kernel_rfl) ?_
    obtain ⟨s3, hb5, hX1⟩ := Option.bind_eq_some_iff.1 hX1
    refine TQ.look (.slice (cutA A1 c1 z6.toNat 6) s3.length (c1 - z6.toNat)) (by kernel_rfl) (fun w' hh => exec_slice_list (e := 30) (s := 6) (lx := (some _)) (hx := none) (k := .i64) (k' := .i64) rfl rfl (by kernel_rfl) (by kernel_rfl) (hs1).1 rfl rfl hb5) ?_
    refine TQ.pure (.slice A1 s1.length c1) (by kernel_rfl) (fun _ => by kernel_rfl) ?_
    refine TQ.pure (.slice (cutA A1 c1 z4.toNat 6) s2.length (c1 - z4.toNat)) (by kernel_rfl) (fun _ => by kernel_rfl) ?_
    refine TQ.pure (.slice (cutA A1 c1 z6.toNat 6) s3.length (c1 - z6.toNat)) (by kernel_rfl) (fun _ => by kernel_rfl) ?_
    refine TQ.nil ?_
    cases hX1
    refine T.ret rfl ?_
    exact T.ret3 rfl (ResIs.tmp rfl) (ResIs.tmp rfl) (ResIs.tmp rfl) fun w' hh => ⟨_, rfl, Exists.intro s1 (Exists.intro s2 (Exists.intro s3 (And.intro rfl (Exists.intro A1 (Exists.intro c1 (Exists.intro (cutA A1 c1 z4.toNat 6) (Exists.intro (c1 - z4.toNat) (Exists.intro (cutA A1 c1 z6.toNat 6) (Exists.intro (c1 - z6.toNat) (Exists.intro (vw w) (And.intro (View.le_refl _) (And.intro (SlOk.cut0 hs1 hb3) (And.intro (SlOk.cut hs1 hb4) (And.intro (SlOk.cut hs1 hb5) (And.intro rfl (hh.sub (.cons_cons _ (.cons_cons _ List.Sublist.slnil))))))))))))))))))⟩
 ·
  rintro v w' ⟨z1, z2, z3, rfl, A3, c3, A4, c4, A5, c5, V1, hV1, hs3, hs4, hs5, rfl, hh⟩
  try dsimp only at hF
  refine ⟨V1, [box b2 25 ((.slice none 0 0) :: (DA16.cells (DA16.mk 0 0 0 0 0 0 0 0 0 0 0 0 0 0 0 0) ++ (DA16.cells (DA16.mk 0 0 0 0 0 0 0 0 0 0 0 0 0 0 0 0)))), box b1 25 ((.slice A1 p0.run.length c1) :: (DA16.cells p0.roles ++ (DA16.cells p0.fed)))], hh, ?_⟩
  clear hh
  refine T.pure (.tuple #[.slice A3 z1.length c3, .slice A4 z2.length c4, .slice A5 z3.length c5]) (by kernel_rfl) (fun _ => by kernel_rfl) ?_
  refine T.pure (.slice A3 z1.length c3) (by kernel_rfl) (fun _ => by kernel_rfl) ?_
  refine T.pure (.slice A4 z2.length c4) (by kernel_rfl) (fun _ => by kernel_rfl) ?_
  refine T.pure (.slice A5 z3.length c5) (by kernel_rfl) (fun _ => by kernel_rfl) ?_
  refine T.pure (.slice A3 z1.length c3) (by kernel_rfl) (fun _ => by kernel_rfl) ?_
  refine T.pure (.slice A4 z2.length c4) (by kernel_rfl) (fun _ => by kernel_rfl) ?_
  refine T.pure (.slice A5 z3.length c5) (by kernel_rfl) (fun _ => by kernel_rfl) ?_
  refine T.nil ?_
  refine T.seq ?_
  refine T.seq ?_
  refine T.region ?_
  refine T.pure (.slice A3 z1.length c3) (by kernel_rfl) (fun _ => by kernel_rfl) ?_
  refine T.pure (.int .i64 (z1.length : Int)) (by kernel_rfl) (fun _ => by kernel_rfl) ?_
  refine T.pure (.slice A2 p2.length c2) (by kernel_rfl) (fun _ => by kernel_rfl) ?_
  refine T.pure (.int .i64 (p2.length : Int)) (by kernel_rfl) (fun _ => by kernel_rfl) ?_
  refine T.pure (.int .i64 (IntKind.i64.wrap ((z1.length : Int) + (p2.length : Int)))) (by kernel_rfl) (fun _ => by kernel_rfl) ?_
  refine T.pure (.slice A5 z3.length c5) (by kernel_rfl) (fun _ => by kernel_rfl) ?_
  refine T.pure (.int .i64 (z3.length : Int)) (by kernel_rfl) (fun _ => by kernel_rfl) ?_
  refine T.pure (.int .i64 (IntKind.i64.wrap ((IntKind.i64.wrap ((z1.length : Int) + (p2.length : Int))) + (z3.length : Int)))) (by kernel_rfl) (fun _ => by kernel_rfl) ?_
  refine T.pure (.bool (decide ((400 : Int) < (IntKind.i64.wrap ((IntKind.i64.wrap ((z1.length : Int) + (p2.length : Int))) + (z3.length : Int)))))) (by kernel_rfl) (fun _ => by kernel_rfl) ?_
  refine T.nil ?_
  refine T.cond (decide ((400 : Int) < (IntKind.i64.wrap ((IntKind.i64.wrap ((z1.length : Int) + (p2.length : Int))) + (z3.length : Int))))) (by kernel_rfl) (by kernel_rfl) (fun hc3 => ?_) (fun hc3 => ?_)
  ·
   rw [hc3, cond_true] at hF
   refine T.seq ?_
   refine T.region ?_
   refine T.pure (.agg (List.toArray ((.slice none 0 0) :: (DA16.cells (DA16.mk 0 0 0 0 0 0 0 0 0 0 0 0 0 0 0 0) ++ (DA16.cells (DA16.mk 0 0 0 0 0 0 0 0 0 0 0 0 0 0 0 0)))))) (by kernel_rfl) (fun _ => by kernel_rfl) ?_
   refine T.step (W1.store 0 ((.slice none 0 0) :: (DA16.cells (DA16.mk 0 0 0 0 0 0 0 0 0 0 0 0 0 0 0 0) ++ (DA16.cells (DA16.mk 0 0 0 0 0 0 0 0 0 0 0 0 0 0 0 0)))) [box b2 25 ((.slice none 0 0) :: (DA16.cells (DA16.mk 0 0 0 0 0 0 0 0 0 0 0 0 0 0 0 0) ++ (DA16.cells (DA16.mk 0 0 0 0 0 0 0 0 0 0 0 0 0 0 0 0)))), box b1 25 ((.slice A1 p0.run.length c1) :: (DA16.cells p0.roles ++ (DA16.cells p0.fed)))] (by rfl) rfl (by kernel_rfl) (fun w' hw => exec_store (vs := ((.slice none 0 0) :: (DA16.cells (DA16.mk 0 0 0 0 0 0 0 0 0 0 0 0 0 0 0 0) ++ (DA16.cells (DA16.mk 0 0 0 0 0 0 0 0 0 0 0 0 0 0 0 0))))) rfl rfl rfl rfl (by kernel_rfl) (one_of rfl) (Nat.le_of_ble_eq_true (by rfl)) rfl hw) ?_)
   refine T.pure (.int .i64 8) (by kernel_rfl) (fun _ => by kernel_rfl) ?_
   refine T.nil ?_
   refine T.rownil 30 eElem ?_
   cases hF
   refine T.ret rfl ?_
   first | exact T.ret2 rfl (ResIs.cellN 1 rfl (by rfl) (fun _ => by kernel_rfl) (fun _ => by kernel_rfl)) (ResIs.tmp rfl) fun w' hh => ⟨(none, 0), rfl, trivial, gives_of (hh.sub (.cons_cons _ (.cons _ (.cons _ List.Sublist.slnil)))) ⟨flat_row (fun _ _ _ _ h => h), trivial⟩⟩ | (unfold Exit.then; dsimp only; exact T.ret2 rfl (ResIs.cellN 1 rfl (by rfl) (fun _ => by kernel_rfl) (fun _ => by kernel_rfl)) (ResIs.tmp rfl) fun w' hh => ⟨(none, 0), rfl, trivial, gives_of (hh.sub (.cons_cons _ (.cons _ (.cons _ List.Sublist.slnil)))) ⟨flat_row (fun _ _ _ _ h => h), trivial⟩⟩)
  ·
   rw [hc3, cond_false] at hF
   refine T.skip_code ?_
   refine T.seq ?_
   refine T.region ?_
   refine T.pure (.slice A3 z1.length c3) (by kernel_rfl) (fun _ => by kernel_rfl) ?_
   refine T.rownil 30 eElem ?_
   obtain ⟨y3, hb6, hF⟩ := Option.bind_eq_some_iff.1 hF
   obtain ⟨hb6_r, hb6_m, rfl⟩ := grow_some hb6
   obtain ⟨ti, hti, hz1, hz2, hz3⟩ := info_parts (P := Try.prog) (e := 30) (z := .agg #[.int .i64 0, .int .i64 0, .int .i64 0, .int .i64 0, .int .i64 0, .string (ByteArray.mk #[])]) (size := 6) (bytes := 56) (by kernel_rfl)
   refine T.step (W1.append (E := eElem) (l := ([] : List DElem)) (m := z1) 0 _ _ 56 ti _ (by rfl) (by kernel_rfl) rfl (by kernel_rfl) hti hz1 hz2 hz3 rfl (by decide) rfl rfl (fun w' hh => (SlOk.srcF (SlOk.mono hs3 hh.view) (fun _ _ _ _ h => h))) hb6_r hb6_m (fun A6 c6 => ?_))
   refine T.pure (.slice A2 p2.length c2) (by kernel_rfl) (fun _ => by kernel_rfl) ?_
   obtain ⟨y4, hb7, hF⟩ := Option.bind_eq_some_iff.1 hF
   obtain ⟨hb7_r, hb7_m, rfl⟩ := grow_some hb7
   obtain ⟨ti, hti, hz1, hz2, hz3⟩ := info_parts (P := Try.prog) (e := 30) (z := .agg #[.int .i64 0, .int .i64 0, .int .i64 0, .int .i64 0, .int .i64 0, .string (ByteArray.mk #[])]) (size := 6) (bytes := 56) (by kernel_rfl)
   refine T.step (W1.append (E := eElem) (l := (([] : List DElem) ++ z1)) (m := p2) 0 _ _ 56 ti _ (by rfl) (by kernel_rfl) rfl (by kernel_rfl) hti hz1 hz2 hz3 rfl (by decide) rfl rfl (fun w' hh => (SlOk.srcF (SlOk.mono (SlOk.mono hs2 hV1) hh.view) (fun _ _ _ _ h => h))) hb7_r hb7_m (fun A7 c7 => ?_))
   refine T.pure (.slice A5 z3.length c5) (by kernel_rfl) (fun _ => by kernel_rfl) ?_
   obtain ⟨y5, hb8, hF⟩ := Option.bind_eq_some_iff.1 hF
   obtain ⟨hb8_r, hb8_m, rfl⟩ := grow_some hb8
   obtain ⟨ti, hti, hz1, hz2, hz3⟩ := info_parts (P := Try.prog) (e := 30) (z := .agg #[.int .i64 0, .int .i64 0, .int .i64 0, .int .i64 0, .int .i64 0, .string (ByteArray.mk #[])]) (size := 6) (bytes := 56) (by kernel_rfl)
   refine T.step (W1.append (E := eElem) (l := ((([] : List DElem) ++ z1) ++ p2)) (m := z3) 0 _ _ 56 ti _ (by rfl) (by kernel_rfl) rfl (by kernel_rfl) hti hz1 hz2 hz3 rfl (by decide) rfl rfl (fun w' hh => (SlOk.srcF (SlOk.mono hs5 hh.view) (fun _ _ _ _ h => h))) hb8_r hb8_m (fun A8 c8 => ?_))
   refine T.pure (.pointer (some ⟨b1, 0, none⟩)) (by kernel_rfl) (fun _ => by kernel_rfl) ?_
   refine T.step (W1.store 2 ((.slice A8 ((((([] : List DElem) ++ z1) ++ p2) ++ z3).length) c8) :: (DA16.cells p0.roles ++ (DA16.cells p0.fed))) [row 30 eElem A8 c8 (((([] : List DElem) ++ z1) ++ p2) ++ z3), box b2 25 ((.slice none 0 0) :: (DA16.cells (DA16.mk 0 0 0 0 0 0 0 0 0 0 0 0 0 0 0 0) ++ (DA16.cells (DA16.mk 0 0 0 0 0 0 0 0 0 0 0 0 0 0 0 0)))), box b1 25 ((.slice A8 ((((([] : List DElem) ++ z1) ++ p2) ++ z3).length) c8) :: (DA16.cells p0.roles ++ (DA16.cells p0.fed)))] (by rfl) rfl (by kernel_rfl) (fun w' hw => exec_store (vs := [.slice A8 ((((([] : List DElem) ++ z1) ++ p2) ++ z3).length) c8]) rfl rfl rfl rfl (by kernel_rfl) (one_of rfl) (Nat.le_of_ble_eq_true (by rfl)) rfl hw) ?_)
   refine T.nil ?_
   refine T.seq ?_
   refine T.region ?_
   refine T.look (.agg (List.toArray ((.slice A8 ((((([] : List DElem) ++ z1) ++ p2) ++ z3).length) c8) :: (DA16.cells p0.roles ++ (DA16.cells p0.fed))))) (by kernel_rfl) (fun w' hh => exec_loadN (cs := ((.slice A8 ((((([] : List DElem) ++ z1) ++ p2) ++ z3).length) c8) :: (DA16.cells p0.roles ++ (DA16.cells p0.fed)))) rfl rfl (by kernel_rfl) (by kernel_rfl) (fun j u hj => (hh.box_at (i := 2) (cs := ((.slice A8 ((((([] : List DElem) ++ z1) ++ p2) ++ z3).length) c8) :: (DA16.cells p0.roles ++ (DA16.cells p0.fed)))) (by rfl) 0 j).trans (seg_at (n := 33) (by rfl) hj))) ?_
   refine T.step (W1.store 1 ((.slice A8 ((((([] : List DElem) ++ z1) ++ p2) ++ z3).length) c8) :: (DA16.cells p0.roles ++ (DA16.cells p0.fed))) [row 30 eElem A8 c8 (((([] : List DElem) ++ z1) ++ p2) ++ z3), box b2 25 ((.slice A8 ((((([] : List DElem) ++ z1) ++ p2) ++ z3).length) c8) :: (DA16.cells p0.roles ++ (DA16.cells p0.fed))), box b1 25 ((.slice A8 ((((([] : List DElem) ++ z1) ++ p2) ++ z3).length) c8) :: (DA16.cells p0.roles ++ (DA16.cells p0.fed)))] (by rfl) rfl (by kernel_rfl) (fun w' hw => exec_store (vs := ((.slice A8 ((((([] : List DElem) ++ z1) ++ p2) ++ z3).length) c8) :: (DA16.cells p0.roles ++ (DA16.cells p0.fed)))) rfl rfl rfl rfl (by kernel_rfl) (one_of rfl) (Nat.le_of_ble_eq_true (by rfl)) rfl hw) ?_)
   refine T.pure (.int .i64 0) (by kernel_rfl) (fun _ => by kernel_rfl) ?_
   refine T.nil ?_
   cases hF
   refine T.ret rfl ?_
   first | exact T.ret2 rfl (ResIs.cellN 1 rfl (by rfl) (fun _ => by kernel_rfl) (fun _ => by kernel_rfl)) (ResIs.tmp rfl) fun w' hh => ⟨(A8, c8), rfl, trivial, gives_of (hh.sub (.cons_cons _ (.cons _ (.cons _ List.Sublist.slnil)))) ⟨flat_row (fun _ _ _ _ h => h), trivial⟩⟩ | (unfold Exit.then; dsimp only; exact T.ret2 rfl (ResIs.cellN 1 rfl (by rfl) (fun _ => by kernel_rfl) (fun _ => by kernel_rfl)) (ResIs.tmp rfl) fun w' hh => ⟨(A8, c8), rfl, trivial, gives_of (hh.sub (.cons_cons _ (.cons _ (.cons _ List.Sublist.slnil)))) ⟨flat_row (fun _ _ _ _ h => h), trivial⟩⟩)
set_option maxRecDepth 100000 in
set_option maxHeartbeats 4000000 in
theorem realm_Put_l (F : Nat) (p0 : DBook) (p1 : DKey) (p2 : ByteArray) (p3 : Int) (r : DBook × Int) (hF : realm_Put F p0 p1 p2 p3 = some r) (w : World) (A1 : Option Addr) (c1 : Nat) (hs1 : SlOk (vw w) eElem A1 c1 p0.run) :
 Calls Try.prog 7 #[.agg (List.toArray ((.slice A1 p0.run.length c1) :: (DA16.cells p0.roles ++ (DA16.cells p0.fed)))), .agg #[.int .i64 p1.pfs, .int .i64 p1.obj, .int .i64 p1.off], .string p2, .int .i64 p3] w (fun e w' => ∃ p : Option Addr × Nat, e = .returned (.tuple #[.agg (List.toArray ((.slice p.1 r.1.run.length p.2) :: (DA16.cells r.1.roles ++ (DA16.cells r.1.fed)))), .int .i64 r.2]) ∧ True ∧ Gives w w' [row 30 eElem p.1 p.2 r.1.run]) := by
 unfold realm_Put at hF
 refine T.start (l := [.agg (List.toArray ((.slice A1 p0.run.length c1) :: (DA16.cells p0.roles ++ (DA16.cells p0.fed)))), .agg #[.int .i64 p1.pfs, .int .i64 p1.obj, .int .i64 p1.off], .string p2, .int .i64 p3]) Try.func7 rfl rfl rfl ?_
 refine T.seq ?_
 refine T.region ?_
 refine T.step (W1.new 25 ((.slice A1 p0.run.length c1) :: (DA16.cells p0.roles ++ (DA16.cells p0.fed))) (fun b => .pointer (some ⟨b, 0, none⟩)) (by kernel_rfl) (fun _ => by kernel_rfl) (fun b1 => ?_))
 refine T.step (W1.new 27 [.int .i64 p1.pfs, .int .i64 p1.obj, .int .i64 p1.off] (fun b => .pointer (some ⟨b, 0, none⟩)) (by kernel_rfl) (fun _ => by kernel_rfl) (fun b2 => ?_))
 refine T.step (W1.new 25 ((.slice none 0 0) :: (DA16.cells (DA16.mk 0 0 0 0 0 0 0 0 0 0 0 0 0 0 0 0) ++ (DA16.cells (DA16.mk 0 0 0 0 0 0 0 0 0 0 0 0 0 0 0 0)))) (fun b => .pointer (some ⟨b, 0, none⟩)) (by kernel_rfl) (fun _ => by kernel_rfl) (fun b3 => ?_))
 refine T.pure (.int .i64 0) (by kernel_rfl) (fun _ => by kernel_rfl) ?_
 refine T.nil ?_
 refine T.seq ?_
 refine T.seq ?_
 refine T.region ?_
 refine T.look (.agg (List.toArray ((.slice A1 p0.run.length c1) :: (DA16.cells p0.roles ++ (DA16.cells p0.fed))))) (by kernel_rfl) (fun w' hh => exec_loadN (cs := ((.slice A1 p0.run.length c1) :: (DA16.cells p0.roles ++ (DA16.cells p0.fed)))) rfl rfl (by kernel_rfl) (by kernel_rfl) (fun j u hj => (hh.box_at (i := 2) (cs := ((.slice A1 p0.run.length c1) :: (DA16.cells p0.roles ++ (DA16.cells p0.fed)))) (by rfl) 0 j).trans (seg_at (n := 33) (by rfl) hj))) ?_
 refine T.pure (.pointer (some ⟨b2, 0, none⟩)) (by kernel_rfl) (fun _ => by kernel_rfl) ?_
 refine T.look (.int .i64 p1.pfs) (by kernel_rfl) (fun w' hh => exec_load1 rfl rfl (by kernel_rfl) (hh.cellBox (i := 1) (by rfl) 0)) ?_
 obtain ⟨r1, hb1, hF⟩ := Option.bind_eq_some_iff.1 hF
 refine T.step (W1.call (vSc eInt) r1 18 #[.agg (List.toArray ((.slice A1 p0.run.length c1) :: (DA16.cells p0.roles ++ (DA16.cells p0.fed)))), .int .i64 p1.pfs] (by kernel_rfl) (fun _ => by kernel_rfl) (fun w' hh => realm_look_l F p0 p1.pfs r1 hb1 w' A1 c1 (SlOk.mono hs1 hh.view)) ?_)
 intro u V1 hV1 hu
 obtain rfl := sureInt _ _ _ hu
 refine T.pure (.int .i64 r1) (by kernel_rfl) (fun _ => by kernel_rfl) ?_
 refine T.nil ?_
 refine T.seq ?_
 refine T.region ?_
 refine T.pure (.int .i64 r1) (by kernel_rfl) (fun _ => by kernel_rfl) ?_
 refine T.pure (.bool (r1 != 0)) (by kernel_rfl) (fun _ => by kernel_rfl) ?_
 refine T.nil ?_
 refine T.cond (r1 != 0) (by kernel_rfl) (by kernel_rfl) (fun hc1 => ?_) (fun hc1 => ?_)
 ·
  rw [hc1, cond_true] at hF
  refine T.seq ?_
  refine T.region ?_
  refine T.pure (.agg (List.toArray ((.slice none 0 0) :: (DA16.cells (DA16.mk 0 0 0 0 0 0 0 0 0 0 0 0 0 0 0 0) ++ (DA16.cells (DA16.mk 0 0 0 0 0 0 0 0 0 0 0 0 0 0 0 0)))))) (by kernel_rfl) (fun _ => by kernel_rfl) ?_
  refine T.pure (.int .i64 r1) (by kernel_rfl) (fun _ => by kernel_rfl) ?_
  refine T.step (W1.store 0 ((.slice none 0 0) :: (DA16.cells (DA16.mk 0 0 0 0 0 0 0 0 0 0 0 0 0 0 0 0) ++ (DA16.cells (DA16.mk 0 0 0 0 0 0 0 0 0 0 0 0 0 0 0 0)))) [box b3 25 ((.slice none 0 0) :: (DA16.cells (DA16.mk 0 0 0 0 0 0 0 0 0 0 0 0 0 0 0 0) ++ (DA16.cells (DA16.mk 0 0 0 0 0 0 0 0 0 0 0 0 0 0 0 0)))), box b2 27 [.int .i64 p1.pfs, .int .i64 p1.obj, .int .i64 p1.off], box b1 25 ((.slice A1 p0.run.length c1) :: (DA16.cells p0.roles ++ (DA16.cells p0.fed)))] (by rfl) rfl (by kernel_rfl) (fun w' hw => exec_store (vs := ((.slice none 0 0) :: (DA16.cells (DA16.mk 0 0 0 0 0 0 0 0 0 0 0 0 0 0 0 0) ++ (DA16.cells (DA16.mk 0 0 0 0 0 0 0 0 0 0 0 0 0 0 0 0))))) rfl rfl rfl rfl (by kernel_rfl) (one_of rfl) (Nat.le_of_ble_eq_true (by rfl)) rfl hw) ?_)
  refine T.pure (.int .i64 r1) (by kernel_rfl) (fun _ => by kernel_rfl) ?_
  refine T.nil ?_
  refine T.rownil 30 eElem ?_
  cases hF
  refine T.ret rfl ?_
  first | exact T.ret2 rfl (ResIs.cellN 1 rfl (by rfl) (fun _ => by kernel_rfl) (fun _ => by kernel_rfl)) (ResIs.tmp rfl) fun w' hh => ⟨(none, 0), rfl, trivial, gives_of (hh.sub (.cons_cons _ (.cons _ (.cons _ (.cons _ List.Sublist.slnil))))) ⟨flat_row (fun _ _ _ _ h => h), trivial⟩⟩ | (unfold Exit.then; dsimp only; exact T.ret2 rfl (ResIs.cellN 1 rfl (by rfl) (fun _ => by kernel_rfl) (fun _ => by kernel_rfl)) (ResIs.tmp rfl) fun w' hh => ⟨(none, 0), rfl, trivial, gives_of (hh.sub (.cons_cons _ (.cons _ (.cons _ (.cons _ List.Sublist.slnil))))) ⟨flat_row (fun _ _ _ _ h => h), trivial⟩⟩)
 ·
  rw [hc1, cond_false] at hF
  refine T.skip_code ?_
  refine T.seq ?_
  refine T.seq ?_
  refine T.region ?_
  refine T.pure (.pointer (some ⟨b2, 0, none⟩)) (by kernel_rfl) (fun _ => by kernel_rfl) ?_
  refine T.look (.int .i64 p1.pfs) (by kernel_rfl) (fun w' hh => exec_load1 rfl rfl (by kernel_rfl) (hh.cellBox (i := 1) (by rfl) 0)) ?_
  refine T.pure (.pointer (some ⟨b1, 1, none⟩)) (by kernel_rfl) (fun _ => by kernel_rfl) ?_
  obtain ⟨e1, hb2, hF⟩ := Option.bind_eq_some_iff.1 hF
  obtain ⟨hi1, hi2, hi3⟩ := idx_some hb2
  refine T.look (.pointer (some ((⟨b1, 1, none⟩ : Addr).add (p1.pfs.toNat * 1)))) (by kernel_rfl) (fun w' hh => exec_arrAddr (e := 3) rfl rfl rfl (by kernel_rfl) (by kernel_rfl) hi1 hi2) ?_
  refine T.look (.int .i64 e1) (by kernel_rfl) (fun w' hh => exec_load1 rfl rfl (by kernel_rfl) (hh.arr_at (i := 2) (by rfl) 1 p0.roles rfl hi3)) ?_
  refine T.pure (.bool (e1 != 1)) (by kernel_rfl) (fun _ => by kernel_rfl) ?_
  refine T.nil ?_
  refine T.cond (e1 != 1) (by kernel_rfl) (by kernel_rfl) (fun hc2 => ?_) (fun hc2 => ?_)
  ·
   rw [hc2, cond_true] at hF
   refine T.seq ?_
   refine T.region ?_
   refine T.pure (.agg (List.toArray ((.slice none 0 0) :: (DA16.cells (DA16.mk 0 0 0 0 0 0 0 0 0 0 0 0 0 0 0 0) ++ (DA16.cells (DA16.mk 0 0 0 0 0 0 0 0 0 0 0 0 0 0 0 0)))))) (by kernel_rfl) (fun _ => by kernel_rfl) ?_
   refine T.step (W1.store 0 ((.slice none 0 0) :: (DA16.cells (DA16.mk 0 0 0 0 0 0 0 0 0 0 0 0 0 0 0 0) ++ (DA16.cells (DA16.mk 0 0 0 0 0 0 0 0 0 0 0 0 0 0 0 0)))) [box b3 25 ((.slice none 0 0) :: (DA16.cells (DA16.mk 0 0 0 0 0 0 0 0 0 0 0 0 0 0 0 0) ++ (DA16.cells (DA16.mk 0 0 0 0 0 0 0 0 0 0 0 0 0 0 0 0)))), box b2 27 [.int .i64 p1.pfs, .int .i64 p1.obj, .int .i64 p1.off], box b1 25 ((.slice A1 p0.run.length c1) :: (DA16.cells p0.roles ++ (DA16.cells p0.fed)))] (by rfl) rfl (by kernel_rfl) (fun w' hw => exec_store (vs := ((.slice none 0 0) :: (DA16.cells (DA16.mk 0 0 0 0 0 0 0 0 0 0 0 0 0 0 0 0) ++ (DA16.cells (DA16.mk 0 0 0 0 0 0 0 0 0 0 0 0 0 0 0 0))))) rfl rfl rfl rfl (by kernel_rfl) (one_of rfl) (Nat.le_of_ble_eq_true (by rfl)) rfl hw) ?_)
   refine T.pure (.int .i64 10) (by kernel_rfl) (fun _ => by kernel_rfl) ?_
   refine T.nil ?_
   refine T.rownil 30 eElem ?_
   cases hF
   refine T.ret rfl ?_
   first | exact T.ret2 rfl (ResIs.cellN 1 rfl (by rfl) (fun _ => by kernel_rfl) (fun _ => by kernel_rfl)) (ResIs.tmp rfl) fun w' hh => ⟨(none, 0), rfl, trivial, gives_of (hh.sub (.cons_cons _ (.cons _ (.cons _ (.cons _ List.Sublist.slnil))))) ⟨flat_row (fun _ _ _ _ h => h), trivial⟩⟩ | (unfold Exit.then; dsimp only; exact T.ret2 rfl (ResIs.cellN 1 rfl (by rfl) (fun _ => by kernel_rfl) (fun _ => by kernel_rfl)) (ResIs.tmp rfl) fun w' hh => ⟨(none, 0), rfl, trivial, gives_of (hh.sub (.cons_cons _ (.cons _ (.cons _ (.cons _ List.Sublist.slnil))))) ⟨flat_row (fun _ _ _ _ h => h), trivial⟩⟩)
  ·
   rw [hc2, cond_false] at hF
   refine T.skip_code ?_
   refine T.seq ?_
   refine T.region ?_
   refine T.pure (.pointer (some ⟨b1, 0, none⟩)) (by kernel_rfl) (fun _ => by kernel_rfl) ?_
   refine T.look (.slice A1 p0.run.length c1) (by kernel_rfl) (fun w' hh => exec_load1 rfl rfl (by kernel_rfl) (hh.cellBox (i := 2) (by rfl) 0)) ?_
   refine T.pure (.pointer (some ⟨b2, 0, none⟩)) (by kernel_rfl) (fun _ => by kernel_rfl) ?_
   refine T.look (.int .i64 p1.pfs) (by kernel_rfl) (fun w' hh => exec_load1 rfl rfl (by kernel_rfl) (hh.cellBox (i := 1) (by rfl) 0)) ?_
   obtain ⟨q1, hX1, hF⟩ := Option.bind_eq_some_iff.1 hF
   refine T.step (W1.within 20 [.slice A1 p0.run.length c1, .int .i64 p1.pfs] (fun v w' => ∃ (z1 : List DElem) (z2 : List DElem) (z3 : List DElem), q1 = (z1, z2, z3) ∧ ∃ (A2 : Option Addr) (c2 : Nat) (A3 : Option Addr) (c3 : Nat) (A4 : Option Addr) (c4 : Nat) (V2 : View), View.le V1 V2 ∧ SlOk V2 eElem A2 c2 z1 ∧ SlOk V2 eElem A3 c3 z2 ∧ SlOk V2 eElem A4 c4 z3 ∧ v = .tuple #[.slice A2 z1.length c2, .slice A3 z2.length c3, .slice A4 z3.length c4] ∧ Hp w V2 [box b3 25 ((.slice none 0 0) :: (DA16.cells (DA16.mk 0 0 0 0 0 0 0 0 0 0 0 0 0 0 0 0) ++ (DA16.cells (DA16.mk 0 0 0 0 0 0 0 0 0 0 0 0 0 0 0 0)))), box b2 27 [.int .i64 p1.pfs, .int .i64 p1.obj, .int .i64 p1.off], box b1 25 ((.slice A1 p0.run.length c1) :: (DA16.cells p0.roles ++ (DA16.cells p0.fed)))] w') Try.func20 rfl rfl (by kernel_rfl) (fun _ => by kernel_rfl) rfl ?_ ?_)
   ·
    refine T.seq ?_
    refine T.region ?_
    refine T.pure (.slice none 0 0) (by kernel_rfl) (fun _ => by kernel_rfl) ?_
    refine T.pure (.slice none 0 0) (by kernel_rfl) (fun _ => by kernel_rfl) ?_
    refine T.pure (.slice none 0 0) (by kernel_rfl) (fun _ => by kernel_rfl) ?_
    refine T.nil ?_
    refine T.seq ?_
    refine T.region ?_
    refine T.pure (.int .i64 0) (by kernel_rfl) (fun _ => by kernel_rfl) ?_
    refine T.nil ?_
    obtain ⟨z4, hz1, hX1⟩ := Option.bind_eq_some_iff.1 hX1
    refine T.cut (fun a w' => Fr 52 [(0, .slice A1 p0.run.length c1), (1, .int .i64 p1.pfs), (7, .int .i64 z4)] a ∧ Hp w V1 [box b3 25 ((.slice none 0 0) :: (DA16.cells (DA16.mk 0 0 0 0 0 0 0 0 0 0 0 0 0 0 0 0) ++ (DA16.cells (DA16.mk 0 0 0 0 0 0 0 0 0 0 0 0 0 0 0 0)))), box b2 27 [.int .i64 p1.pfs, .int .i64 p1.obj, .int .i64 p1.off], box b1 25 ((.slice A1 p0.run.length c1) :: (DA16.cells p0.roles ++ (DA16.cells p0.fed)))] w') ?_ ?_
    ·
     refine T.block ?_
     refine T.iter (fun x1 a w' => Fr 52 [(0, .slice A1 p0.run.length c1), (1, .int .i64 p1.pfs), (7, .int .i64 x1)] a ∧ Hp w V1 [box b3 25 ((.slice none 0 0) :: (DA16.cells (DA16.mk 0 0 0 0 0 0 0 0 0 0 0 0 0 0 0 0) ++ (DA16.cells (DA16.mk 0 0 0 0 0 0 0 0 0 0 0 0 0 0 0 0)))), box b2 27 [.int .i64 p1.pfs, .int .i64 p1.obj, .int .i64 p1.off], box b1 25 ((.slice A1 p0.run.length c1) :: (DA16.cells p0.roles ++ (DA16.cells p0.fed)))] w') hz1 ?_ ?_
     ·
      exact fun a w' hf hh => And.intro ((((Fr.nil hf).pick hf 7 rfl).pick hf 1 rfl).pick hf 0 rfl) (hh.sub (.cons_cons _ (.cons_cons _ (.cons_cons _ List.Sublist.slnil))))
     ·
      rintro x1 y1 hY1 hr1 a w' ⟨hf, hh⟩
      refine (?_ : T 52 w V1 [box b3 25 ((.slice none 0 0) :: (DA16.cells (DA16.mk 0 0 0 0 0 0 0 0 0 0 0 0 0 0 0 0) ++ (DA16.cells (DA16.mk 0 0 0 0 0 0 0 0 0 0 0 0 0 0 0 0)))), box b2 27 [.int .i64 p1.pfs, .int .i64 p1.obj, .int .i64 p1.off], box b1 25 ((.slice A1 p0.run.length c1) :: (DA16.cells p0.roles ++ (DA16.cells p0.fed)))] [(0, .slice A1 p0.run.length c1), (1, .int .i64 p1.pfs), (7, .int .i64 x1)] _) a w' hf hh
      clear hf hh
      try dsimp only at hY1
      refine T.seq ?_
      obtain ⟨z5, hX2, hY1⟩ := Option.bind_eq_some_iff.1 hY1
      refine T.cut (fun a w' => Fr 52 [(0, .slice A1 p0.run.length c1), (1, .int .i64 p1.pfs), (7, .int .i64 x1), (22, .bool z5)] a ∧ Hp w V1 [box b3 25 ((.slice none 0 0) :: (DA16.cells (DA16.mk 0 0 0 0 0 0 0 0 0 0 0 0 0 0 0 0) ++ (DA16.cells (DA16.mk 0 0 0 0 0 0 0 0 0 0 0 0 0 0 0 0)))), box b2 27 [.int .i64 p1.pfs, .int .i64 p1.obj, .int .i64 p1.off], box b1 25 ((.slice A1 p0.run.length c1) :: (DA16.cells p0.roles ++ (DA16.cells p0.fed)))] w') ?_ ?_
      ·
       refine T.region ?_
       refine T.pure (.int .i64 x1) (by kernel_rfl) (fun _ => by kernel_rfl) ?_
       refine T.pure (.slice A1 p0.run.length c1) (by kernel_rfl) (fun _ => by kernel_rfl) ?_
       refine T.pure (.int .i64 (p0.run.length : Int)) (by kernel_rfl) (fun _ => by kernel_rfl) ?_
       refine T.pure (.bool (decide (x1 < (p0.run.length : Int)))) (by kernel_rfl) (fun _ => by kernel_rfl) ?_
       refine T.pure (.bool (decide (x1 < (p0.run.length : Int)))) (by kernel_rfl) (fun _ => by kernel_rfl) ?_
       cases hg1 : decide (x1 < (p0.run.length : Int))
       ·
        skip
        rw [hg1, cond_false] at hX2
        refine T.pass (by kernel_rfl) (by kernel_rfl) ?_
        refine T.pass (by kernel_rfl) (by kernel_rfl) ?_
        refine T.pass (by kernel_rfl) (by kernel_rfl) ?_
        refine T.pass (by kernel_rfl) (by kernel_rfl) ?_
        refine T.pass (by kernel_rfl) (by kernel_rfl) ?_
        refine T.pass (by kernel_rfl) (by kernel_rfl) ?_
        refine T.pass (by kernel_rfl) (by kernel_rfl) ?_
        refine T.pass (by kernel_rfl) (by kernel_rfl) ?_
        refine T.pure (.bool false) (by kernel_rfl) (fun _ => by kernel_rfl) ?_
        refine T.nil ?_
        cases hX2
        exact fun a w' hf hh => And.intro (((((Fr.nil hf).pick hf 22 rfl).pick hf 7 rfl).pick hf 1 rfl).pick hf 0 rfl) (hh.sub (.cons_cons _ (.cons_cons _ (.cons_cons _ List.Sublist.slnil))))
       ·
        skip
        rw [hg1, cond_true] at hX2
        refine T.pure (.slice A1 p0.run.length c1) (by kernel_rfl) (fun _ => by kernel_rfl) ?_
        refine T.pure (.int .i64 x1) (by kernel_rfl) (fun _ => by kernel_rfl) ?_
        obtain ⟨e2, hb3, hX2⟩ := Option.bind_eq_some_iff.1 hX2
        obtain ⟨hi4, hi5, hi6⟩ := idx_some hb3
        refine T.look (.pointer (some ((sadr A1).add (x1.toNat * 6)))) (by kernel_rfl) (fun w' hh => exec_indexAddr (e := 30) (s := 6) rfl rfl rfl (by kernel_rfl) (by kernel_rfl) hi4 hi5 ((SlOk.mono hs1 hV1).some_ hi6 (by decide))) ?_
        refine T.pure (.pointer (some ((sadr A1).add (x1.toNat * 6)))) (by kernel_rfl) (fun _ => by kernel_rfl) ?_
        refine T.pure (.pointer (some ((sadr A1).add (x1.toNat * 6)))) (by kernel_rfl) (fun _ => by kernel_rfl) ?_
        refine T.look (.int .i64 e2.key.pfs) (by kernel_rfl) (fun w' hh => exec_load1 rfl rfl (by kernel_rfl) (hh.cell_view (SlOk.cellF0 (E := eElem) (SlOk.mono hs1 hV1) hi6 (fun _ _ _ h => h) rfl))) ?_
        refine T.pure (.int .i64 p1.pfs) (by kernel_rfl) (fun _ => by kernel_rfl) ?_
        refine T.pure (.bool (decide (e2.key.pfs < p1.pfs))) (by kernel_rfl) (fun _ => by kernel_rfl) ?_
        refine T.pure (.bool (decide (e2.key.pfs < p1.pfs))) (by kernel_rfl) (fun _ => by kernel_rfl) ?_
        refine T.nil ?_
        cases hX2
        exact fun a w' hf hh => And.intro (((((Fr.nil hf).pick hf 22 rfl).pick hf 7 rfl).pick hf 1 rfl).pick hf 0 rfl) (hh.sub (.cons_cons _ (.cons_cons _ (.cons_cons _ List.Sublist.slnil))))
      ·
       rintro a w' ⟨hf, hh⟩
       refine (?_ : T 52 w V1 [box b3 25 ((.slice none 0 0) :: (DA16.cells (DA16.mk 0 0 0 0 0 0 0 0 0 0 0 0 0 0 0 0) ++ (DA16.cells (DA16.mk 0 0 0 0 0 0 0 0 0 0 0 0 0 0 0 0)))), box b2 27 [.int .i64 p1.pfs, .int .i64 p1.obj, .int .i64 p1.off], box b1 25 ((.slice A1 p0.run.length c1) :: (DA16.cells p0.roles ++ (DA16.cells p0.fed)))] [(0, .slice A1 p0.run.length c1), (1, .int .i64 p1.pfs), (7, .int .i64 x1), (22, .bool z5)] _) a w' hf hh
       clear hf hh
       refine T.cond z5 (by kernel_rfl) (by kernel_rfl) (fun hc3 => ?_) (fun hc3 => ?_)
       ·
        rw [hc3, cond_true] at hY1
        refine T.skip_code ?_
        refine T.block ?_
        refine T.region ?_
        refine T.pure (.int .i64 x1) (by kernel_rfl) (fun _ => by kernel_rfl) ?_
        refine T.pure (.int .i64 (IntKind.i64.wrap (x1 + 1))) (by kernel_rfl) (fun _ => by kernel_rfl) ?_
        refine T.pure (.int .i64 (IntKind.i64.wrap (x1 + 1))) (by kernel_rfl) (fun _ => by kernel_rfl) ?_
        refine T.nil ?_
        cases hY1
        exact fun a w' hf hh => Exists.intro (IntKind.i64.wrap (x1 + 1)) (And.intro rfl (And.intro ((((Fr.nil hf).pick hf 7 rfl).pick hf 1 rfl).pick hf 0 rfl) (hh.sub (.cons_cons _ (.cons_cons _ (.cons_cons _ List.Sublist.slnil))))))
       ·
        rw [hc3, cond_false] at hY1
        refine T.exit ?_
        cases hY1
        cases (hr1 _ rfl)
        exact fun a w' hf hh => And.intro ((((Fr.nil hf).pick hf 7 rfl).pick hf 1 rfl).pick hf 0 rfl) (hh.sub (.cons_cons _ (.cons_cons _ (.cons_cons _ List.Sublist.slnil))))
    ·
     rintro a w' ⟨hf, hh⟩
     refine (?_ : T 52 w V1 [box b3 25 ((.slice none 0 0) :: (DA16.cells (DA16.mk 0 0 0 0 0 0 0 0 0 0 0 0 0 0 0 0) ++ (DA16.cells (DA16.mk 0 0 0 0 0 0 0 0 0 0 0 0 0 0 0 0)))), box b2 27 [.int .i64 p1.pfs, .int .i64 p1.obj, .int .i64 p1.off], box b1 25 ((.slice A1 p0.run.length c1) :: (DA16.cells p0.roles ++ (DA16.cells p0.fed)))] [(0, .slice A1 p0.run.length c1), (1, .int .i64 p1.pfs), (7, .int .i64 z4)] _) a w' hf hh
     clear hf hh
     refine T.seq ?_
     refine T.region ?_
     refine T.pure (.int .i64 z4) (by kernel_rfl) (fun _ => by kernel_rfl) ?_
     refine T.pure (.int .i64 z4) (by kernel_rfl) (fun _ => by kernel_rfl) ?_
     refine T.nil ?_
     obtain ⟨z6, hz2, hX1⟩ := Option.bind_eq_some_iff.1 hX1
     refine T.cut (fun a w' => Fr 52 [(0, .slice A1 p0.run.length c1), (7, .int .i64 z4), (8, .int .i64 z6)] a ∧ Hp w V1 [box b3 25 ((.slice none 0 0) :: (DA16.cells (DA16.mk 0 0 0 0 0 0 0 0 0 0 0 0 0 0 0 0) ++ (DA16.cells (DA16.mk 0 0 0 0 0 0 0 0 0 0 0 0 0 0 0 0)))), box b2 27 [.int .i64 p1.pfs, .int .i64 p1.obj, .int .i64 p1.off], box b1 25 ((.slice A1 p0.run.length c1) :: (DA16.cells p0.roles ++ (DA16.cells p0.fed)))] w') ?_ ?_
     ·
      refine T.block ?_
      refine T.iter (fun x2 a w' => Fr 52 [(0, .slice A1 p0.run.length c1), (1, .int .i64 p1.pfs), (7, .int .i64 z4), (8, .int .i64 x2)] a ∧ Hp w V1 [box b3 25 ((.slice none 0 0) :: (DA16.cells (DA16.mk 0 0 0 0 0 0 0 0 0 0 0 0 0 0 0 0) ++ (DA16.cells (DA16.mk 0 0 0 0 0 0 0 0 0 0 0 0 0 0 0 0)))), box b2 27 [.int .i64 p1.pfs, .int .i64 p1.obj, .int .i64 p1.off], box b1 25 ((.slice A1 p0.run.length c1) :: (DA16.cells p0.roles ++ (DA16.cells p0.fed)))] w') hz2 ?_ ?_
      ·
       exact fun a w' hf hh => And.intro (((((Fr.nil hf).pick hf 8 rfl).pick hf 7 rfl).pick hf 1 rfl).pick hf 0 rfl) (hh.sub (.cons_cons _ (.cons_cons _ (.cons_cons _ List.Sublist.slnil))))
      ·
       rintro x2 y2 hY2 hr2 a w' ⟨hf, hh⟩
       refine (?_ : T 52 w V1 [box b3 25 ((.slice none 0 0) :: (DA16.cells (DA16.mk 0 0 0 0 0 0 0 0 0 0 0 0 0 0 0 0) ++ (DA16.cells (DA16.mk 0 0 0 0 0 0 0 0 0 0 0 0 0 0 0 0)))), box b2 27 [.int .i64 p1.pfs, .int .i64 p1.obj, .int .i64 p1.off], box b1 25 ((.slice A1 p0.run.length c1) :: (DA16.cells p0.roles ++ (DA16.cells p0.fed)))] [(0, .slice A1 p0.run.length c1), (1, .int .i64 p1.pfs), (7, .int .i64 z4), (8, .int .i64 x2)] _) a w' hf hh
       clear hf hh
       try dsimp only at hY2
       refine T.seq ?_
       obtain ⟨z7, hX3, hY2⟩ := Option.bind_eq_some_iff.1 hY2
       refine T.cut (fun a w' => Fr 52 [(0, .slice A1 p0.run.length c1), (1, .int .i64 p1.pfs), (7, .int .i64 z4), (8, .int .i64 x2), (39, .bool z7)] a ∧ Hp w V1 [box b3 25 ((.slice none 0 0) :: (DA16.cells (DA16.mk 0 0 0 0 0 0 0 0 0 0 0 0 0 0 0 0) ++ (DA16.cells (DA16.mk 0 0 0 0 0 0 0 0 0 0 0 0 0 0 0 0)))), box b2 27 [.int .i64 p1.pfs, .int .i64 p1.obj, .int .i64 p1.off], box b1 25 ((.slice A1 p0.run.length c1) :: (DA16.cells p0.roles ++ (DA16.cells p0.fed)))] w') ?_ ?_
       ·
        refine T.region ?_
        refine T.pure (.int .i64 x2) (by kernel_rfl) (fun _ => by kernel_rfl) ?_
        refine T.pure (.slice A1 p0.run.length c1) (by kernel_rfl) (fun _ => by kernel_rfl) ?_
        refine T.pure (.int .i64 (p0.run.length : Int)) (by kernel_rfl) (fun _ => by kernel_rfl) ?_
        refine T.pure (.bool (decide (x2 < (p0.run.length : Int)))) (by kernel_rfl) (fun _ => by kernel_rfl) ?_
        refine T.pure (.bool (decide (x2 < (p0.run.length : Int)))) (by kernel_rfl) (fun _ => by kernel_rfl) ?_
        cases hg2 : decide (x2 < (p0.run.length : Int))
        ·
         skip
         rw [hg2, cond_false] at hX3
         refine T.pass (by kernel_rfl) (by kernel_rfl) ?_
         refine T.pass (by kernel_rfl) (by kernel_rfl) ?_
         refine T.pass (by kernel_rfl) (by kernel_rfl) ?_
         refine T.pass (by kernel_rfl) (by kernel_rfl) ?_
         refine T.pass (by kernel_rfl) (by kernel_rfl) ?_
         refine T.pass (by kernel_rfl) (by kernel_rfl) ?_
         refine T.pass (by kernel_rfl) (by kernel_rfl) ?_
         refine T.pass (by kernel_rfl) (by kernel_rfl) ?_
         refine T.pure (.bool false) (by kernel_rfl) (fun _ => by kernel_rfl) ?_
         refine T.nil ?_
         cases hX3
         exact fun a w' hf hh => And.intro ((((((Fr.nil hf).pick hf 39 rfl).pick hf 8 rfl).pick hf 7 rfl).pick hf 1 rfl).pick hf 0 rfl) (hh.sub (.cons_cons _ (.cons_cons _ (.cons_cons _ List.Sublist.slnil))))
        ·
         skip
         rw [hg2, cond_true] at hX3
         refine T.pure (.slice A1 p0.run.length c1) (by kernel_rfl) (fun _ => by kernel_rfl) ?_
         refine T.pure (.int .i64 x2) (by kernel_rfl) (fun _ => by kernel_rfl) ?_
         obtain ⟨e3, hb4, hX3⟩ := Option.bind_eq_some_iff.1 hX3
         obtain ⟨hi7, hi8, hi9⟩ := idx_some hb4
         refine T.look (.pointer (some ((sadr A1).add (x2.toNat * 6)))) (by kernel_rfl) (fun w' hh => exec_indexAddr (e := 30) (s := 6) rfl rfl rfl (by kernel_rfl) (by kernel_rfl) hi7 hi8 ((SlOk.mono hs1 hV1).some_ hi9 (by decide))) ?_
         refine T.pure (.pointer (some ((sadr A1).add (x2.toNat * 6)))) (by kernel_rfl) (fun _ => by kernel_rfl) ?_
         refine T.pure (.pointer (some ((sadr A1).add (x2.toNat * 6)))) (by kernel_rfl) (fun _ => by kernel_rfl) ?_
         refine T.look (.int .i64 e3.key.pfs) (by kernel_rfl) (fun w' hh => exec_load1 rfl rfl (by kernel_rfl) (hh.cell_view (SlOk.cellF0 (E := eElem) (SlOk.mono hs1 hV1) hi9 (fun _ _ _ h => h) rfl))) ?_
         refine T.pure (.int .i64 p1.pfs) (by kernel_rfl) (fun _ => by kernel_rfl) ?_
         refine T.pure (.bool (e3.key.pfs == p1.pfs)) (by kernel_rfl) (fun _ => by kernel_rfl) ?_
         refine T.pure (.bool (e3.key.pfs == p1.pfs)) (by kernel_rfl) (fun _ => by kernel_rfl) ?_
         refine T.nil ?_
         cases hX3
         exact fun a w' hf hh => And.intro ((((((Fr.nil hf).pick hf 39 rfl).pick hf 8 rfl).pick hf 7 rfl).pick hf 1 rfl).pick hf 0 rfl) (hh.sub (.cons_cons _ (.cons_cons _ (.cons_cons _ List.Sublist.slnil))))
       ·
        rintro a w' ⟨hf, hh⟩
        refine (?_ : T 52 w V1 [box b3 25 ((.slice none 0 0) :: (DA16.cells (DA16.mk 0 0 0 0 0 0 0 0 0 0 0 0 0 0 0 0) ++ (DA16.cells (DA16.mk 0 0 0 0 0 0 0 0 0 0 0 0 0 0 0 0)))), box b2 27 [.int .i64 p1.pfs, .int .i64 p1.obj, .int .i64 p1.off], box b1 25 ((.slice A1 p0.run.length c1) :: (DA16.cells p0.roles ++ (DA16.cells p0.fed)))] [(0, .slice A1 p0.run.length c1), (1, .int .i64 p1.pfs), (7, .int .i64 z4), (8, .int .i64 x2), (39, .bool z7)] _) a w' hf hh
        clear hf hh
        refine T.cond z7 (by kernel_rfl) (by kernel_rfl) (fun hc4 => ?_) (fun hc4 => ?_)
        ·
         rw [hc4, cond_true] at hY2
         refine T.skip_code ?_
         refine T.block ?_
         refine T.region ?_
         refine T.pure (.int .i64 x2) (by kernel_rfl) (fun _ => by kernel_rfl) ?_
         refine T.pure (.int .i64 (IntKind.i64.wrap (x2 + 1))) (by kernel_rfl) (fun _ => by kernel_rfl) ?_
         refine T.pure (.int .i64 (IntKind.i64.wrap (x2 + 1))) (by kernel_rfl) (fun _ => by kernel_rfl) ?_
         refine T.nil ?_
         cases hY2
         exact fun a w' hf hh => Exists.intro (IntKind.i64.wrap (x2 + 1)) (And.intro rfl (And.intro (((((Fr.nil hf).pick hf 8 rfl).pick hf 7 rfl).pick hf 1 rfl).pick hf 0 rfl) (hh.sub (.cons_cons _ (.cons_cons _ (.cons_cons _ List.Sublist.slnil))))))
        ·
         rw [hc4, cond_false] at hY2
         refine T.exit ?_
         cases hY2
         cases (hr2 _ rfl)
         exact fun a w' hf hh => And.intro ((((Fr.nil hf).pick hf 8 rfl).pick hf 7 rfl).pick hf 0 rfl) (hh.sub (.cons_cons _ (.cons_cons _ (.cons_cons _ List.Sublist.slnil))))
     ·
      rintro a w' ⟨hf, hh⟩
      refine (?_ : T 52 w V1 [box b3 25 ((.slice none 0 0) :: (DA16.cells (DA16.mk 0 0 0 0 0 0 0 0 0 0 0 0 0 0 0 0) ++ (DA16.cells (DA16.mk 0 0 0 0 0 0 0 0 0 0 0 0 0 0 0 0)))), box b2 27 [.int .i64 p1.pfs, .int .i64 p1.obj, .int .i64 p1.off], box b1 25 ((.slice A1 p0.run.length c1) :: (DA16.cells p0.roles ++ (DA16.cells p0.fed)))] [(0, .slice A1 p0.run.length c1), (7, .int .i64 z4), (8, .int .i64 z6)] _) a w' hf hh
      clear hf hh
      refine T.seq ?_
      refine T.quiet (by kernel_rfl) (by kernel_rfl) ?_
      refine TQ.pure (.slice A1 p0.run.length c1) (by kernel_rfl) (fun _ => by kernel_rfl) ?_
      refine TQ.pure (.int .i64 z4) (by kernel_rfl) (fun _ => by kernel_rfl) ?_
      obtain ⟨s1, hb5, hX1⟩ := Option.bind_eq_some_iff.1 hX1
      refine TQ.look (.slice A1 s1.length c1) (by kernel_rfl) (fun w' hh => exec_slice_list0 (e := 30) (s := 6) (lx := none) (hx := (some _)) (k := .i64) (k' := .i64) rfl rfl (by kernel_rfl) (by kernel_rfl) ((SlOk.mono hs1 hV1)).1 rfl rfl hb5) ?_
      refine TQ.pure (.slice A1 p0.run.length c1) (by kernel_rfl) (fun _ => by kernel_rfl) ?_
      refine TQ.pure (.int .i64 z4) (by kernel_rfl) (fun _ => by kernel_rfl) ?_
      refine TQ.pure (.int .i64 z6) (by kernel_rfl) (fun _ => by kernel_rfl) ?_
      obtain ⟨s2, hb6, hX1⟩ := Option.bind_eq_some_iff.1 hX1
      refine TQ.look (.slice (cutA A1 c1 z4.toNat 6) s2.length (c1 - z4.toNat)) (by kernel_rfl) (fun w' hh => exec_slice_list (e := 30) (s := 6) (lx := (some _)) (hx := (some _)) (k := .i64) (k' := .i64) rfl rfl (by kernel_rfl) (by kernel_rfl) ((SlOk.mono hs1 hV1)).1 rfl rfl hb6) ?_
      refine TQ.pure (.slice A1 p0.run.length c1) (by kernel_rfl) (fun _ => by kernel_rfl) ?_
      refine TQ.pure (.int .i64 z6) (by kernel_rfl) (fun _ => by kernel_rfl) ?_
      obtain ⟨s3, hb7, hX1⟩ := Option.bind_eq_some_iff.1 hX1
      refine TQ.look (.slice (cutA A1 c1 z6.toNat 6) s3.length (c1 - z6.toNat)) (by kernel_rfl) (fun w' hh => exec_slice_list (e := 30) (s := 6) (lx := (some _)) (hx := none) (k := .i64) (k' := .i64) rfl rfl (by kernel_rfl) (by kernel_rfl) ((SlOk.mono hs1 hV1)).1 rfl rfl hb7) ?_
      refine TQ.pure (.slice A1 s1.length c1) (by kernel_rfl) (fun _ => by kernel_rfl) ?_
      refine TQ.pure (.slice (cutA A1 c1 z4.toNat 6) s2.length (c1 - z4.toNat)) (by kernel_rfl) (fun _ => by kernel_rfl) ?_
      refine TQ.pure (.slice (cutA A1 c1 z6.toNat 6) s3.length (c1 - z6.toNat)) (by kernel_rfl) (fun _ => by kernel_rfl) ?_
      refine TQ.nil ?_
      cases hX1
      refine T.ret rfl ?_
      exact T.ret3 rfl (ResIs.tmp rfl) (ResIs.tmp rfl) (ResIs.tmp rfl) fun w' hh => ⟨_, rfl, Exists.intro s1 (Exists.intro s2 (Exists.intro s3 (And.intro rfl (Exists.intro A1 (Exists.intro c1 (Exists.intro (cutA A1 c1 z4.toNat 6) (Exists.intro (c1 - z4.toNat) (Exists.intro (cutA A1 c1 z6.toNat 6) (Exists.intro (c1 - z6.toNat) (Exists.intro V1 (And.intro (View.le_refl _) (And.intro (SlOk.cut0 (SlOk.mono hs1 hV1) hb5) (And.intro (SlOk.cut (SlOk.mono hs1 hV1) hb6) (And.intro (SlOk.cut (SlOk.mono hs1 hV1) hb7) (And.intro rfl (hh.sub (.cons_cons _ (.cons_cons _ (.cons_cons _ List.Sublist.slnil)))))))))))))))))))⟩
   ·
    rintro v w' ⟨z1, z2, z3, rfl, A2, c2, A3, c3, A4, c4, V2, hV2, hs2, hs3, hs4, rfl, hh⟩
    try dsimp only at hF
    refine ⟨V2, [box b3 25 ((.slice none 0 0) :: (DA16.cells (DA16.mk 0 0 0 0 0 0 0 0 0 0 0 0 0 0 0 0) ++ (DA16.cells (DA16.mk 0 0 0 0 0 0 0 0 0 0 0 0 0 0 0 0)))), box b2 27 [.int .i64 p1.pfs, .int .i64 p1.obj, .int .i64 p1.off], box b1 25 ((.slice A1 p0.run.length c1) :: (DA16.cells p0.roles ++ (DA16.cells p0.fed)))], hh, ?_⟩
    clear hh
    refine T.pure (.tuple #[.slice A2 z1.length c2, .slice A3 z2.length c3, .slice A4 z3.length c4]) (by kernel_rfl) (fun _ => by kernel_rfl) ?_
    refine T.pure (.slice A2 z1.length c2) (by kernel_rfl) (fun _ => by kernel_rfl) ?_
    refine T.pure (.slice A3 z2.length c3) (by kernel_rfl) (fun _ => by kernel_rfl) ?_
    refine T.pure (.slice A4 z3.length c4) (by kernel_rfl) (fun _ => by kernel_rfl) ?_
    refine T.pure (.slice A2 z1.length c2) (by kernel_rfl) (fun _ => by kernel_rfl) ?_
    refine T.pure (.slice A3 z2.length c3) (by kernel_rfl) (fun _ => by kernel_rfl) ?_
    refine T.pure (.slice A4 z3.length c4) (by kernel_rfl) (fun _ => by kernel_rfl) ?_
    refine T.nil ?_
    refine T.seq ?_
    refine T.region ?_
    refine T.pure (.slice A3 z2.length c3) (by kernel_rfl) (fun _ => by kernel_rfl) ?_
    refine T.look (.agg #[.int .i64 p1.pfs, .int .i64 p1.obj, .int .i64 p1.off]) (by kernel_rfl) (fun w' hh => exec_loadN (cs := [.int .i64 p1.pfs, .int .i64 p1.obj, .int .i64 p1.off]) rfl rfl (by kernel_rfl) (by kernel_rfl) (fun j u hj => (hh.box_at (i := 1) (cs := [.int .i64 p1.pfs, .int .i64 p1.obj, .int .i64 p1.off]) (by rfl) 0 j).trans (seg_at (n := 3) (by rfl) hj))) ?_
    refine T.pure (.string p2) (by kernel_rfl) (fun _ => by kernel_rfl) ?_
    refine T.pure (.int .i64 p3) (by kernel_rfl) (fun _ => by kernel_rfl) ?_
    obtain ⟨r4, hb8, hF⟩ := Option.bind_eq_some_iff.1 hF
    refine T.step (W1.call (vT2 (vSc (eList eElem)) (vSc eInt)) r4 21 #[.slice A3 z2.length c3, .agg #[.int .i64 p1.pfs, .int .i64 p1.obj, .int .i64 p1.off], .string p2, .int .i64 p3] (by kernel_rfl) (fun _ => by kernel_rfl) (fun w' hh => run_Put_l F z2 p1 p2 p3 r4 hb8 w' A3 c3 (SlOk.mono hs3 hh.view)) ?_)
    intro u V3 hV3 hu
    obtain ⟨u1, u2, rfl, hu1, hu2⟩ := vT2_elim hu
    obtain ⟨A5, c5, rfl, hs5⟩ := vlist_elim hu1
    obtain rfl := sureInt _ _ _ hu2
    refine T.pure (.tuple #[.slice A5 r4.1.length c5, .int .i64 r4.2]) (by kernel_rfl) (fun _ => by kernel_rfl) ?_
    refine T.pure (.slice A5 r4.1.length c5) (by kernel_rfl) (fun _ => by kernel_rfl) ?_
    refine T.pure (.int .i64 r4.2) (by kernel_rfl) (fun _ => by kernel_rfl) ?_
    refine T.pure (.slice A5 r4.1.length c5) (by kernel_rfl) (fun _ => by kernel_rfl) ?_
    refine T.pure (.int .i64 r4.2) (by kernel_rfl) (fun _ => by kernel_rfl) ?_
    refine T.nil ?_
    refine T.seq ?_
    refine T.seq ?_
    refine T.region ?_
    refine T.pure (.int .i64 r4.2) (by kernel_rfl) (fun _ => by kernel_rfl) ?_
    refine T.pure (.bool (r4.2 != 0)) (by kernel_rfl) (fun _ => by kernel_rfl) ?_
    refine T.nil ?_
    refine T.cond (r4.2 != 0) (by kernel_rfl) (by kernel_rfl) (fun hc5 => ?_) (fun hc5 => ?_)
    ·
     rw [hc5, cond_true] at hF
     refine T.seq ?_
     refine T.region ?_
     refine T.pure (.agg (List.toArray ((.slice none 0 0) :: (DA16.cells (DA16.mk 0 0 0 0 0 0 0 0 0 0 0 0 0 0 0 0) ++ (DA16.cells (DA16.mk 0 0 0 0 0 0 0 0 0 0 0 0 0 0 0 0)))))) (by kernel_rfl) (fun _ => by kernel_rfl) ?_
     refine T.pure (.int .i64 r4.2) (by kernel_rfl) (fun _ => by kernel_rfl) ?_
     refine T.step (W1.store 0 ((.slice none 0 0) :: (DA16.cells (DA16.mk 0 0 0 0 0 0 0 0 0 0 0 0 0 0 0 0) ++ (DA16.cells (DA16.mk 0 0 0 0 0 0 0 0 0 0 0 0 0 0 0 0)))) [box b3 25 ((.slice none 0 0) :: (DA16.cells (DA16.mk 0 0 0 0 0 0 0 0 0 0 0 0 0 0 0 0) ++ (DA16.cells (DA16.mk 0 0 0 0 0 0 0 0 0 0 0 0 0 0 0 0)))), box b2 27 [.int .i64 p1.pfs, .int .i64 p1.obj, .int .i64 p1.off], box b1 25 ((.slice A1 p0.run.length c1) :: (DA16.cells p0.roles ++ (DA16.cells p0.fed)))] (by rfl) rfl (by kernel_rfl) (fun w' hw => exec_store (vs := ((.slice none 0 0) :: (DA16.cells (DA16.mk 0 0 0 0 0 0 0 0 0 0 0 0 0 0 0 0) ++ (DA16.cells (DA16.mk 0 0 0 0 0 0 0 0 0 0 0 0 0 0 0 0))))) rfl rfl rfl rfl (by kernel_rfl) (one_of rfl) (Nat.le_of_ble_eq_true (by rfl)) rfl hw) ?_)
     refine T.pure (.int .i64 r4.2) (by kernel_rfl) (fun _ => by kernel_rfl) ?_
     refine T.nil ?_
     refine T.rownil 30 eElem ?_
     cases hF
     refine T.ret rfl ?_
     first | exact T.ret2 rfl (ResIs.cellN 1 rfl (by rfl) (fun _ => by kernel_rfl) (fun _ => by kernel_rfl)) (ResIs.tmp rfl) fun w' hh => ⟨(none, 0), rfl, trivial, gives_of (hh.sub (.cons_cons _ (.cons _ (.cons _ (.cons _ List.Sublist.slnil))))) ⟨flat_row (fun _ _ _ _ h => h), trivial⟩⟩ | (unfold Exit.then; dsimp only; exact T.ret2 rfl (ResIs.cellN 1 rfl (by rfl) (fun _ => by kernel_rfl) (fun _ => by kernel_rfl)) (ResIs.tmp rfl) fun w' hh => ⟨(none, 0), rfl, trivial, gives_of (hh.sub (.cons_cons _ (.cons _ (.cons _ (.cons _ List.Sublist.slnil))))) ⟨flat_row (fun _ _ _ _ h => h), trivial⟩⟩)
    ·
     rw [hc5, cond_false] at hF
     refine T.skip_code ?_
     refine T.seq ?_
     refine T.region ?_
     refine T.look (.agg (List.toArray ((.slice A1 p0.run.length c1) :: (DA16.cells p0.roles ++ (DA16.cells p0.fed))))) (by kernel_rfl) (fun w' hh => exec_loadN (cs := ((.slice A1 p0.run.length c1) :: (DA16.cells p0.roles ++ (DA16.cells p0.fed)))) rfl rfl (by kernel_rfl) (by kernel_rfl) (fun j u hj => (hh.box_at (i := 2) (cs := ((.slice A1 p0.run.length c1) :: (DA16.cells p0.roles ++ (DA16.cells p0.fed)))) (by rfl) 0 j).trans (seg_at (n := 33) (by rfl) hj))) ?_
     refine T.pure (.pointer (some ⟨b2, 0, none⟩)) (by kernel_rfl) (fun _ => by kernel_rfl) ?_
     refine T.look (.int .i64 p1.pfs) (by kernel_rfl) (fun w' hh => exec_load1 rfl rfl (by kernel_rfl) (hh.cellBox (i := 1) (by rfl) 0)) ?_
     refine T.pure (.slice A5 r4.1.length c5) (by kernel_rfl) (fun _ => by kernel_rfl) ?_
     obtain ⟨r6, hb9, hF⟩ := Option.bind_eq_some_iff.1 hF
     refine T.step (W1.callG 22 #[.agg (List.toArray ((.slice A1 p0.run.length c1) :: (DA16.cells p0.roles ++ (DA16.cells p0.fed)))), .int .i64 p1.pfs, .slice A5 r4.1.length c5] (fun p : Option Addr × Nat => .tuple #[.agg (List.toArray ((.slice p.1 r6.1.run.length p.2) :: (DA16.cells r6.1.roles ++ (DA16.cells r6.1.fed)))), .int .i64 r6.2]) (fun p => [row 30 eElem p.1 p.2 r6.1.run]) (fun _ => True) (by kernel_rfl) (fun _ => by kernel_rfl) (fun w' hh => realm_with_l F p0 p1.pfs r4.1 r6 hb9 w' A1 c1 (SlOk.mono (SlOk.mono hs1 (View.le_trans (View.le_trans hV1 hV2) hV3)) hh.view) A5 c5 (SlOk.mono (SlOk.mono hs5 (View.le_trans (made_le _ _) (View.le_refl _))) hh.view)) ?_)
     rintro ⟨A6, c6⟩ _
     refine T.reH (H' := [row 30 eElem A6 c6 r6.1.run, box b3 25 ((.slice none 0 0) :: (DA16.cells (DA16.mk 0 0 0 0 0 0 0 0 0 0 0 0 0 0 0 0) ++ (DA16.cells (DA16.mk 0 0 0 0 0 0 0 0 0 0 0 0 0 0 0 0)))), box b2 27 [.int .i64 p1.pfs, .int .i64 p1.obj, .int .i64 p1.off], box b1 25 ((.slice A1 p0.run.length c1) :: (DA16.cells p0.roles ++ (DA16.cells p0.fed)))]) (by rfl) ?_
     refine T.pure (.agg (List.toArray ((.slice A6 r6.1.run.length c6) :: (DA16.cells r6.1.roles ++ (DA16.cells r6.1.fed))))) (by kernel_rfl) (fun _ => by kernel_rfl) ?_
     refine T.pure (.int .i64 r6.2) (by kernel_rfl) (fun _ => by kernel_rfl) ?_
     refine T.step (W1.store 1 ((.slice A6 r6.1.run.length c6) :: (DA16.cells r6.1.roles ++ (DA16.cells r6.1.fed))) [row 30 eElem A6 c6 r6.1.run, box b3 25 ((.slice A6 r6.1.run.length c6) :: (DA16.cells r6.1.roles ++ (DA16.cells r6.1.fed))), box b2 27 [.int .i64 p1.pfs, .int .i64 p1.obj, .int .i64 p1.off], box b1 25 ((.slice A1 p0.run.length c1) :: (DA16.cells p0.roles ++ (DA16.cells p0.fed)))] (by rfl) rfl (by kernel_rfl) (fun w' hw => exec_store (vs := ((.slice A6 r6.1.run.length c6) :: (DA16.cells r6.1.roles ++ (DA16.cells r6.1.fed)))) rfl rfl rfl rfl (by kernel_rfl) (one_of rfl) (Nat.le_of_ble_eq_true (by rfl)) rfl hw) ?_)
     refine T.pure (.int .i64 r6.2) (by kernel_rfl) (fun _ => by kernel_rfl) ?_
     refine T.nil ?_
     cases hF
     refine T.ret rfl ?_
     first | exact T.ret2 rfl (ResIs.cellN 1 rfl (by rfl) (fun _ => by kernel_rfl) (fun _ => by kernel_rfl)) (ResIs.tmp rfl) fun w' hh => ⟨(A6, c6), rfl, trivial, gives_of (hh.sub (.cons_cons _ (.cons _ (.cons _ (.cons _ List.Sublist.slnil))))) ⟨flat_row (fun _ _ _ _ h => h), trivial⟩⟩ | (unfold Exit.then; dsimp only; exact T.ret2 rfl (ResIs.cellN 1 rfl (by rfl) (fun _ => by kernel_rfl) (fun _ => by kernel_rfl)) (ResIs.tmp rfl) fun w' hh => ⟨(A6, c6), rfl, trivial, gives_of (hh.sub (.cons_cons _ (.cons _ (.cons _ (.cons _ List.Sublist.slnil))))) ⟨flat_row (fun _ _ _ _ h => h), trivial⟩⟩)
set_option maxRecDepth 100000 in
set_option maxHeartbeats 4000000 in
theorem realm_Cut_l (F : Nat) (p0 : DBook) (p1 : DKey) (p2 : Int) (r : DBook × Int) (hF : realm_Cut F p0 p1 p2 = some r) (w : World) (A1 : Option Addr) (c1 : Nat) (hs1 : SlOk (vw w) eElem A1 c1 p0.run) :
 Calls Try.prog 8 #[.agg (List.toArray ((.slice A1 p0.run.length c1) :: (DA16.cells p0.roles ++ (DA16.cells p0.fed)))), .agg #[.int .i64 p1.pfs, .int .i64 p1.obj, .int .i64 p1.off], .int .i64 p2] w (fun e w' => ∃ p : Option Addr × Nat, e = .returned (.tuple #[.agg (List.toArray ((.slice p.1 r.1.run.length p.2) :: (DA16.cells r.1.roles ++ (DA16.cells r.1.fed)))), .int .i64 r.2]) ∧ True ∧ Gives w w' [row 30 eElem p.1 p.2 r.1.run]) := by
 unfold realm_Cut at hF
 refine T.start (l := [.agg (List.toArray ((.slice A1 p0.run.length c1) :: (DA16.cells p0.roles ++ (DA16.cells p0.fed)))), .agg #[.int .i64 p1.pfs, .int .i64 p1.obj, .int .i64 p1.off], .int .i64 p2]) Try.func8 rfl rfl rfl ?_
 refine T.seq ?_
 refine T.region ?_
 refine T.step (W1.new 25 ((.slice A1 p0.run.length c1) :: (DA16.cells p0.roles ++ (DA16.cells p0.fed))) (fun b => .pointer (some ⟨b, 0, none⟩)) (by kernel_rfl) (fun _ => by kernel_rfl) (fun b1 => ?_))
 refine T.step (W1.new 27 [.int .i64 p1.pfs, .int .i64 p1.obj, .int .i64 p1.off] (fun b => .pointer (some ⟨b, 0, none⟩)) (by kernel_rfl) (fun _ => by kernel_rfl) (fun b2 => ?_))
 refine T.step (W1.new 25 ((.slice none 0 0) :: (DA16.cells (DA16.mk 0 0 0 0 0 0 0 0 0 0 0 0 0 0 0 0) ++ (DA16.cells (DA16.mk 0 0 0 0 0 0 0 0 0 0 0 0 0 0 0 0)))) (fun b => .pointer (some ⟨b, 0, none⟩)) (by kernel_rfl) (fun _ => by kernel_rfl) (fun b3 => ?_))
 refine T.pure (.int .i64 0) (by kernel_rfl) (fun _ => by kernel_rfl) ?_
 refine T.nil ?_
 refine T.seq ?_
 refine T.seq ?_
 refine T.region ?_
 refine T.look (.agg (List.toArray ((.slice A1 p0.run.length c1) :: (DA16.cells p0.roles ++ (DA16.cells p0.fed))))) (by kernel_rfl) (fun w' hh => exec_loadN (cs := ((.slice A1 p0.run.length c1) :: (DA16.cells p0.roles ++ (DA16.cells p0.fed)))) rfl rfl (by kernel_rfl) (by kernel_rfl) (fun j u hj => (hh.box_at (i := 2) (cs := ((.slice A1 p0.run.length c1) :: (DA16.cells p0.roles ++ (DA16.cells p0.fed)))) (by rfl) 0 j).trans (seg_at (n := 33) (by rfl) hj))) ?_
 refine T.pure (.pointer (some ⟨b2, 0, none⟩)) (by kernel_rfl) (fun _ => by kernel_rfl) ?_
 refine T.look (.int .i64 p1.pfs) (by kernel_rfl) (fun w' hh => exec_load1 rfl rfl (by kernel_rfl) (hh.cellBox (i := 1) (by rfl) 0)) ?_
 obtain ⟨r1, hb1, hF⟩ := Option.bind_eq_some_iff.1 hF
 refine T.step (W1.call (vSc eInt) r1 18 #[.agg (List.toArray ((.slice A1 p0.run.length c1) :: (DA16.cells p0.roles ++ (DA16.cells p0.fed)))), .int .i64 p1.pfs] (by kernel_rfl) (fun _ => by kernel_rfl) (fun w' hh => realm_look_l F p0 p1.pfs r1 hb1 w' A1 c1 (SlOk.mono hs1 hh.view)) ?_)
 intro u V1 hV1 hu
 obtain rfl := sureInt _ _ _ hu
 refine T.pure (.int .i64 r1) (by kernel_rfl) (fun _ => by kernel_rfl) ?_
 refine T.nil ?_
 refine T.seq ?_
 refine T.region ?_
 refine T.pure (.int .i64 r1) (by kernel_rfl) (fun _ => by kernel_rfl) ?_
 refine T.pure (.bool (r1 != 0)) (by kernel_rfl) (fun _ => by kernel_rfl) ?_
 refine T.nil ?_
 refine T.cond (r1 != 0) (by kernel_rfl) (by kernel_rfl) (fun hc1 => ?_) (fun hc1 => ?_)
 ·
  rw [hc1, cond_true] at hF
  refine T.seq ?_
  refine T.region ?_
  refine T.pure (.agg (List.toArray ((.slice none 0 0) :: (DA16.cells (DA16.mk 0 0 0 0 0 0 0 0 0 0 0 0 0 0 0 0) ++ (DA16.cells (DA16.mk 0 0 0 0 0 0 0 0 0 0 0 0 0 0 0 0)))))) (by kernel_rfl) (fun _ => by kernel_rfl) ?_
  refine T.pure (.int .i64 r1) (by kernel_rfl) (fun _ => by kernel_rfl) ?_
  refine T.step (W1.store 0 ((.slice none 0 0) :: (DA16.cells (DA16.mk 0 0 0 0 0 0 0 0 0 0 0 0 0 0 0 0) ++ (DA16.cells (DA16.mk 0 0 0 0 0 0 0 0 0 0 0 0 0 0 0 0)))) [box b3 25 ((.slice none 0 0) :: (DA16.cells (DA16.mk 0 0 0 0 0 0 0 0 0 0 0 0 0 0 0 0) ++ (DA16.cells (DA16.mk 0 0 0 0 0 0 0 0 0 0 0 0 0 0 0 0)))), box b2 27 [.int .i64 p1.pfs, .int .i64 p1.obj, .int .i64 p1.off], box b1 25 ((.slice A1 p0.run.length c1) :: (DA16.cells p0.roles ++ (DA16.cells p0.fed)))] (by rfl) rfl (by kernel_rfl) (fun w' hw => exec_store (vs := ((.slice none 0 0) :: (DA16.cells (DA16.mk 0 0 0 0 0 0 0 0 0 0 0 0 0 0 0 0) ++ (DA16.cells (DA16.mk 0 0 0 0 0 0 0 0 0 0 0 0 0 0 0 0))))) rfl rfl rfl rfl (by kernel_rfl) (one_of rfl) (Nat.le_of_ble_eq_true (by rfl)) rfl hw) ?_)
  refine T.pure (.int .i64 r1) (by kernel_rfl) (fun _ => by kernel_rfl) ?_
  refine T.nil ?_
  refine T.rownil 30 eElem ?_
  cases hF
  refine T.ret rfl ?_
  first | exact T.ret2 rfl (ResIs.cellN 1 rfl (by rfl) (fun _ => by kernel_rfl) (fun _ => by kernel_rfl)) (ResIs.tmp rfl) fun w' hh => ⟨(none, 0), rfl, trivial, gives_of (hh.sub (.cons_cons _ (.cons _ (.cons _ (.cons _ List.Sublist.slnil))))) ⟨flat_row (fun _ _ _ _ h => h), trivial⟩⟩ | (unfold Exit.then; dsimp only; exact T.ret2 rfl (ResIs.cellN 1 rfl (by rfl) (fun _ => by kernel_rfl) (fun _ => by kernel_rfl)) (ResIs.tmp rfl) fun w' hh => ⟨(none, 0), rfl, trivial, gives_of (hh.sub (.cons_cons _ (.cons _ (.cons _ (.cons _ List.Sublist.slnil))))) ⟨flat_row (fun _ _ _ _ h => h), trivial⟩⟩)
 ·
  rw [hc1, cond_false] at hF
  refine T.skip_code ?_
  refine T.seq ?_
  refine T.seq ?_
  refine T.region ?_
  refine T.pure (.pointer (some ⟨b2, 0, none⟩)) (by kernel_rfl) (fun _ => by kernel_rfl) ?_
  refine T.look (.int .i64 p1.pfs) (by kernel_rfl) (fun w' hh => exec_load1 rfl rfl (by kernel_rfl) (hh.cellBox (i := 1) (by rfl) 0)) ?_
  refine T.pure (.pointer (some ⟨b1, 1, none⟩)) (by kernel_rfl) (fun _ => by kernel_rfl) ?_
  obtain ⟨e1, hb2, hF⟩ := Option.bind_eq_some_iff.1 hF
  obtain ⟨hi1, hi2, hi3⟩ := idx_some hb2
  refine T.look (.pointer (some ((⟨b1, 1, none⟩ : Addr).add (p1.pfs.toNat * 1)))) (by kernel_rfl) (fun w' hh => exec_arrAddr (e := 3) rfl rfl rfl (by kernel_rfl) (by kernel_rfl) hi1 hi2) ?_
  refine T.look (.int .i64 e1) (by kernel_rfl) (fun w' hh => exec_load1 rfl rfl (by kernel_rfl) (hh.arr_at (i := 2) (by rfl) 1 p0.roles rfl hi3)) ?_
  refine T.pure (.bool (e1 != 1)) (by kernel_rfl) (fun _ => by kernel_rfl) ?_
  refine T.nil ?_
  refine T.cond (e1 != 1) (by kernel_rfl) (by kernel_rfl) (fun hc2 => ?_) (fun hc2 => ?_)
  ·
   rw [hc2, cond_true] at hF
   refine T.seq ?_
   refine T.region ?_
   refine T.pure (.agg (List.toArray ((.slice none 0 0) :: (DA16.cells (DA16.mk 0 0 0 0 0 0 0 0 0 0 0 0 0 0 0 0) ++ (DA16.cells (DA16.mk 0 0 0 0 0 0 0 0 0 0 0 0 0 0 0 0)))))) (by kernel_rfl) (fun _ => by kernel_rfl) ?_
   refine T.step (W1.store 0 ((.slice none 0 0) :: (DA16.cells (DA16.mk 0 0 0 0 0 0 0 0 0 0 0 0 0 0 0 0) ++ (DA16.cells (DA16.mk 0 0 0 0 0 0 0 0 0 0 0 0 0 0 0 0)))) [box b3 25 ((.slice none 0 0) :: (DA16.cells (DA16.mk 0 0 0 0 0 0 0 0 0 0 0 0 0 0 0 0) ++ (DA16.cells (DA16.mk 0 0 0 0 0 0 0 0 0 0 0 0 0 0 0 0)))), box b2 27 [.int .i64 p1.pfs, .int .i64 p1.obj, .int .i64 p1.off], box b1 25 ((.slice A1 p0.run.length c1) :: (DA16.cells p0.roles ++ (DA16.cells p0.fed)))] (by rfl) rfl (by kernel_rfl) (fun w' hw => exec_store (vs := ((.slice none 0 0) :: (DA16.cells (DA16.mk 0 0 0 0 0 0 0 0 0 0 0 0 0 0 0 0) ++ (DA16.cells (DA16.mk 0 0 0 0 0 0 0 0 0 0 0 0 0 0 0 0))))) rfl rfl rfl rfl (by kernel_rfl) (one_of rfl) (Nat.le_of_ble_eq_true (by rfl)) rfl hw) ?_)
   refine T.pure (.int .i64 10) (by kernel_rfl) (fun _ => by kernel_rfl) ?_
   refine T.nil ?_
   refine T.rownil 30 eElem ?_
   cases hF
   refine T.ret rfl ?_
   first | exact T.ret2 rfl (ResIs.cellN 1 rfl (by rfl) (fun _ => by kernel_rfl) (fun _ => by kernel_rfl)) (ResIs.tmp rfl) fun w' hh => ⟨(none, 0), rfl, trivial, gives_of (hh.sub (.cons_cons _ (.cons _ (.cons _ (.cons _ List.Sublist.slnil))))) ⟨flat_row (fun _ _ _ _ h => h), trivial⟩⟩ | (unfold Exit.then; dsimp only; exact T.ret2 rfl (ResIs.cellN 1 rfl (by rfl) (fun _ => by kernel_rfl) (fun _ => by kernel_rfl)) (ResIs.tmp rfl) fun w' hh => ⟨(none, 0), rfl, trivial, gives_of (hh.sub (.cons_cons _ (.cons _ (.cons _ (.cons _ List.Sublist.slnil))))) ⟨flat_row (fun _ _ _ _ h => h), trivial⟩⟩)
  ·
   rw [hc2, cond_false] at hF
   refine T.skip_code ?_
   refine T.seq ?_
   refine T.region ?_
   refine T.pure (.pointer (some ⟨b1, 0, none⟩)) (by kernel_rfl) (fun _ => by kernel_rfl) ?_
   refine T.look (.slice A1 p0.run.length c1) (by kernel_rfl) (fun w' hh => exec_load1 rfl rfl (by kernel_rfl) (hh.cellBox (i := 2) (by rfl) 0)) ?_
   refine T.pure (.pointer (some ⟨b2, 0, none⟩)) (by kernel_rfl) (fun _ => by kernel_rfl) ?_
   refine T.look (.int .i64 p1.pfs) (by kernel_rfl) (fun w' hh => exec_load1 rfl rfl (by kernel_rfl) (hh.cellBox (i := 1) (by rfl) 0)) ?_
   obtain ⟨q1, hX1, hF⟩ := Option.bind_eq_some_iff.1 hF
   refine T.step (W1.within 20 [.slice A1 p0.run.length c1, .int .i64 p1.pfs] (fun v w' => ∃ (z1 : List DElem) (z2 : List DElem) (z3 : List DElem), q1 = (z1, z2, z3) ∧ ∃ (A2 : Option Addr) (c2 : Nat) (A3 : Option Addr) (c3 : Nat) (A4 : Option Addr) (c4 : Nat) (V2 : View), View.le V1 V2 ∧ SlOk V2 eElem A2 c2 z1 ∧ SlOk V2 eElem A3 c3 z2 ∧ SlOk V2 eElem A4 c4 z3 ∧ v = .tuple #[.slice A2 z1.length c2, .slice A3 z2.length c3, .slice A4 z3.length c4] ∧ Hp w V2 [box b3 25 ((.slice none 0 0) :: (DA16.cells (DA16.mk 0 0 0 0 0 0 0 0 0 0 0 0 0 0 0 0) ++ (DA16.cells (DA16.mk 0 0 0 0 0 0 0 0 0 0 0 0 0 0 0 0)))), box b2 27 [.int .i64 p1.pfs, .int .i64 p1.obj, .int .i64 p1.off], box b1 25 ((.slice A1 p0.run.length c1) :: (DA16.cells p0.roles ++ (DA16.cells p0.fed)))] w') Try.func20 rfl rfl (by kernel_rfl) (fun _ => by kernel_rfl) rfl ?_ ?_)
   ·
    refine T.seq ?_
    refine T.region ?_
    refine T.pure (.slice none 0 0) (by kernel_rfl) (fun _ => by kernel_rfl) ?_
    refine T.pure (.slice none 0 0) (by kernel_rfl) (fun _ => by kernel_rfl) ?_
    refine T.pure (.slice none 0 0) (by kernel_rfl) (fun _ => by kernel_rfl) ?_
    refine T.nil ?_
    refine T.seq ?_
    refine T.region ?_
    refine T.pure (.int .i64 0) (by kernel_rfl) (fun _ => by kernel_rfl) ?_
    refine T.nil ?_
    obtain ⟨z4, hz1, hX1⟩ := Option.bind_eq_some_iff.1 hX1
    refine T.cut (fun a w' => Fr 52 [(0, .slice A1 p0.run.length c1), (1, .int .i64 p1.pfs), (7, .int .i64 z4)] a ∧ Hp w V1 [box b3 25 ((.slice none 0 0) :: (DA16.cells (DA16.mk 0 0 0 0 0 0 0 0 0 0 0 0 0 0 0 0) ++ (DA16.cells (DA16.mk 0 0 0 0 0 0 0 0 0 0 0 0 0 0 0 0)))), box b2 27 [.int .i64 p1.pfs, .int .i64 p1.obj, .int .i64 p1.off], box b1 25 ((.slice A1 p0.run.length c1) :: (DA16.cells p0.roles ++ (DA16.cells p0.fed)))] w') ?_ ?_
    ·
     refine T.block ?_
     refine T.iter (fun x1 a w' => Fr 52 [(0, .slice A1 p0.run.length c1), (1, .int .i64 p1.pfs), (7, .int .i64 x1)] a ∧ Hp w V1 [box b3 25 ((.slice none 0 0) :: (DA16.cells (DA16.mk 0 0 0 0 0 0 0 0 0 0 0 0 0 0 0 0) ++ (DA16.cells (DA16.mk 0 0 0 0 0 0 0 0 0 0 0 0 0 0 0 0)))), box b2 27 [.int .i64 p1.pfs, .int .i64 p1.obj, .int .i64 p1.off], box b1 25 ((.slice A1 p0.run.length c1) :: (DA16.cells p0.roles ++ (DA16.cells p0.fed)))] w') hz1 ?_ ?_
     ·
      exact fun a w' hf hh => And.intro ((((Fr.nil hf).pick hf 7 rfl).pick hf 1 rfl).pick hf 0 rfl) (hh.sub (.cons_cons _ (.cons_cons _ (.cons_cons _ List.Sublist.slnil))))
     ·
      rintro x1 y1 hY1 hr1 a w' ⟨hf, hh⟩
      refine (?_ : T 52 w V1 [box b3 25 ((.slice none 0 0) :: (DA16.cells (DA16.mk 0 0 0 0 0 0 0 0 0 0 0 0 0 0 0 0) ++ (DA16.cells (DA16.mk 0 0 0 0 0 0 0 0 0 0 0 0 0 0 0 0)))), box b2 27 [.int .i64 p1.pfs, .int .i64 p1.obj, .int .i64 p1.off], box b1 25 ((.slice A1 p0.run.length c1) :: (DA16.cells p0.roles ++ (DA16.cells p0.fed)))] [(0, .slice A1 p0.run.length c1), (1, .int .i64 p1.pfs), (7, .int .i64 x1)] _) a w' hf hh
      clear hf hh
      try dsimp only at hY1
      refine T.seq ?_
      obtain ⟨z5, hX2, hY1⟩ := Option.bind_eq_some_iff.1 hY1
      refine T.cut (fun a w' => Fr 52 [(0, .slice A1 p0.run.length c1), (1, .int .i64 p1.pfs), (7, .int .i64 x1), (22, .bool z5)] a ∧ Hp w V1 [box b3 25 ((.slice none 0 0) :: (DA16.cells (DA16.mk 0 0 0 0 0 0 0 0 0 0 0 0 0 0 0 0) ++ (DA16.cells (DA16.mk 0 0 0 0 0 0 0 0 0 0 0 0 0 0 0 0)))), box b2 27 [.int .i64 p1.pfs, .int .i64 p1.obj, .int .i64 p1.off], box b1 25 ((.slice A1 p0.run.length c1) :: (DA16.cells p0.roles ++ (DA16.cells p0.fed)))] w') ?_ ?_
      ·
       refine T.region ?_
       refine T.pure (.int .i64 x1) (by kernel_rfl) (fun _ => by kernel_rfl) ?_
       refine T.pure (.slice A1 p0.run.length c1) (by kernel_rfl) (fun _ => by kernel_rfl) ?_
       refine T.pure (.int .i64 (p0.run.length : Int)) (by kernel_rfl) (fun _ => by kernel_rfl) ?_
       refine T.pure (.bool (decide (x1 < (p0.run.length : Int)))) (by kernel_rfl) (fun _ => by kernel_rfl) ?_
       refine T.pure (.bool (decide (x1 < (p0.run.length : Int)))) (by kernel_rfl) (fun _ => by kernel_rfl) ?_
       cases hg1 : decide (x1 < (p0.run.length : Int))
       ·
        skip
        rw [hg1, cond_false] at hX2
        refine T.pass (by kernel_rfl) (by kernel_rfl) ?_
        refine T.pass (by kernel_rfl) (by kernel_rfl) ?_
        refine T.pass (by kernel_rfl) (by kernel_rfl) ?_
        refine T.pass (by kernel_rfl) (by kernel_rfl) ?_
        refine T.pass (by kernel_rfl) (by kernel_rfl) ?_
        refine T.pass (by kernel_rfl) (by kernel_rfl) ?_
        refine T.pass (by kernel_rfl) (by kernel_rfl) ?_
        refine T.pass (by kernel_rfl) (by kernel_rfl) ?_
        refine T.pure (.bool false) (by kernel_rfl) (fun _ => by kernel_rfl) ?_
        refine T.nil ?_
        cases hX2
        exact fun a w' hf hh => And.intro (((((Fr.nil hf).pick hf 22 rfl).pick hf 7 rfl).pick hf 1 rfl).pick hf 0 rfl) (hh.sub (.cons_cons _ (.cons_cons _ (.cons_cons _ List.Sublist.slnil))))
       ·
        skip
        rw [hg1, cond_true] at hX2
        refine T.pure (.slice A1 p0.run.length c1) (by kernel_rfl) (fun _ => by kernel_rfl) ?_
        refine T.pure (.int .i64 x1) (by kernel_rfl) (fun _ => by kernel_rfl) ?_
        obtain ⟨e2, hb3, hX2⟩ := Option.bind_eq_some_iff.1 hX2
        obtain ⟨hi4, hi5, hi6⟩ := idx_some hb3
        refine T.look (.pointer (some ((sadr A1).add (x1.toNat * 6)))) (by kernel_rfl) (fun w' hh => exec_indexAddr (e := 30) (s := 6) rfl rfl rfl (by kernel_rfl) (by kernel_rfl) hi4 hi5 ((SlOk.mono hs1 hV1).some_ hi6 (by decide))) ?_
        refine T.pure (.pointer (some ((sadr A1).add (x1.toNat * 6)))) (by kernel_rfl) (fun _ => by kernel_rfl) ?_
        refine T.pure (.pointer (some ((sadr A1).add (x1.toNat * 6)))) (by kernel_rfl) (fun _ => by kernel_rfl) ?_
        refine T.look (.int .i64 e2.key.pfs) (by kernel_rfl) (fun w' hh => exec_load1 rfl rfl (by kernel_rfl) (hh.cell_view (SlOk.cellF0 (E := eElem) (SlOk.mono hs1 hV1) hi6 (fun _ _ _ h => h) rfl))) ?_
        refine T.pure (.int .i64 p1.pfs) (by kernel_rfl) (fun _ => by kernel_rfl) ?_
        refine T.pure (.bool (decide (e2.key.pfs < p1.pfs))) (by kernel_rfl) (fun _ => by kernel_rfl) ?_
        refine T.pure (.bool (decide (e2.key.pfs < p1.pfs))) (by kernel_rfl) (fun _ => by kernel_rfl) ?_
        refine T.nil ?_
        cases hX2
        exact fun a w' hf hh => And.intro (((((Fr.nil hf).pick hf 22 rfl).pick hf 7 rfl).pick hf 1 rfl).pick hf 0 rfl) (hh.sub (.cons_cons _ (.cons_cons _ (.cons_cons _ List.Sublist.slnil))))
      ·
       rintro a w' ⟨hf, hh⟩
       refine (?_ : T 52 w V1 [box b3 25 ((.slice none 0 0) :: (DA16.cells (DA16.mk 0 0 0 0 0 0 0 0 0 0 0 0 0 0 0 0) ++ (DA16.cells (DA16.mk 0 0 0 0 0 0 0 0 0 0 0 0 0 0 0 0)))), box b2 27 [.int .i64 p1.pfs, .int .i64 p1.obj, .int .i64 p1.off], box b1 25 ((.slice A1 p0.run.length c1) :: (DA16.cells p0.roles ++ (DA16.cells p0.fed)))] [(0, .slice A1 p0.run.length c1), (1, .int .i64 p1.pfs), (7, .int .i64 x1), (22, .bool z5)] _) a w' hf hh
       clear hf hh
       refine T.cond z5 (by kernel_rfl) (by kernel_rfl) (fun hc3 => ?_) (fun hc3 => ?_)
       ·
        rw [hc3, cond_true] at hY1
        refine T.skip_code ?_
        refine T.block ?_
        refine T.region ?_
        refine T.pure (.int .i64 x1) (by kernel_rfl) (fun _ => by kernel_rfl) ?_
        refine T.pure (.int .i64 (IntKind.i64.wrap (x1 + 1))) (by kernel_rfl) (fun _ => by kernel_rfl) ?_
        refine T.pure (.int .i64 (IntKind.i64.wrap (x1 + 1))) (by kernel_rfl) (fun _ => by kernel_rfl) ?_
        refine T.nil ?_
        cases hY1
        exact fun a w' hf hh => Exists.intro (IntKind.i64.wrap (x1 + 1)) (And.intro rfl (And.intro ((((Fr.nil hf).pick hf 7 rfl).pick hf 1 rfl).pick hf 0 rfl) (hh.sub (.cons_cons _ (.cons_cons _ (.cons_cons _ List.Sublist.slnil))))))
       ·
        rw [hc3, cond_false] at hY1
        refine T.exit ?_
        cases hY1
        cases (hr1 _ rfl)
        exact fun a w' hf hh => And.intro ((((Fr.nil hf).pick hf 7 rfl).pick hf 1 rfl).pick hf 0 rfl) (hh.sub (.cons_cons _ (.cons_cons _ (.cons_cons _ List.Sublist.slnil))))
    ·
     rintro a w' ⟨hf, hh⟩
     refine (?_ : T 52 w V1 [box b3 25 ((.slice none 0 0) :: (DA16.cells (DA16.mk 0 0 0 0 0 0 0 0 0 0 0 0 0 0 0 0) ++ (DA16.cells (DA16.mk 0 0 0 0 0 0 0 0 0 0 0 0 0 0 0 0)))), box b2 27 [.int .i64 p1.pfs, .int .i64 p1.obj, .int .i64 p1.off], box b1 25 ((.slice A1 p0.run.length c1) :: (DA16.cells p0.roles ++ (DA16.cells p0.fed)))] [(0, .slice A1 p0.run.length c1), (1, .int .i64 p1.pfs), (7, .int .i64 z4)] _) a w' hf hh
     clear hf hh
     refine T.seq ?_
     refine T.region ?_
     refine T.pure (.int .i64 z4) (by kernel_rfl) (fun _ => by kernel_rfl) ?_
     refine T.pure (.int .i64 z4) (by kernel_rfl) (fun _ => by kernel_rfl) ?_
     refine T.nil ?_
     obtain ⟨z6, hz2, hX1⟩ := Option.bind_eq_some_iff.1 hX1
     refine T.cut (fun a w' => Fr 52 [(0, .slice A1 p0.run.length c1), (7, .int .i64 z4), (8, .int .i64 z6)] a ∧ Hp w V1 [box b3 25 ((.slice none 0 0) :: (DA16.cells (DA16.mk 0 0 0 0 0 0 0 0 0 0 0 0 0 0 0 0) ++ (DA16.cells (DA16.mk 0 0 0 0 0 0 0 0 0 0 0 0 0 0 0 0)))), box b2 27 [.int .i64 p1.pfs, .int .i64 p1.obj, .int .i64 p1.off], box b1 25 ((.slice A1 p0.run.length c1) :: (DA16.cells p0.roles ++ (DA16.cells p0.fed)))] w') ?_ ?_
     ·
      refine T.block ?_
      refine T.iter (fun x2 a w' => Fr 52 [(0, .slice A1 p0.run.length c1), (1, .int .i64 p1.pfs), (7, .int .i64 z4), (8, .int .i64 x2)] a ∧ Hp w V1 [box b3 25 ((.slice none 0 0) :: (DA16.cells (DA16.mk 0 0 0 0 0 0 0 0 0 0 0 0 0 0 0 0) ++ (DA16.cells (DA16.mk 0 0 0 0 0 0 0 0 0 0 0 0 0 0 0 0)))), box b2 27 [.int .i64 p1.pfs, .int .i64 p1.obj, .int .i64 p1.off], box b1 25 ((.slice A1 p0.run.length c1) :: (DA16.cells p0.roles ++ (DA16.cells p0.fed)))] w') hz2 ?_ ?_
      ·
       exact fun a w' hf hh => And.intro (((((Fr.nil hf).pick hf 8 rfl).pick hf 7 rfl).pick hf 1 rfl).pick hf 0 rfl) (hh.sub (.cons_cons _ (.cons_cons _ (.cons_cons _ List.Sublist.slnil))))
      ·
       rintro x2 y2 hY2 hr2 a w' ⟨hf, hh⟩
       refine (?_ : T 52 w V1 [box b3 25 ((.slice none 0 0) :: (DA16.cells (DA16.mk 0 0 0 0 0 0 0 0 0 0 0 0 0 0 0 0) ++ (DA16.cells (DA16.mk 0 0 0 0 0 0 0 0 0 0 0 0 0 0 0 0)))), box b2 27 [.int .i64 p1.pfs, .int .i64 p1.obj, .int .i64 p1.off], box b1 25 ((.slice A1 p0.run.length c1) :: (DA16.cells p0.roles ++ (DA16.cells p0.fed)))] [(0, .slice A1 p0.run.length c1), (1, .int .i64 p1.pfs), (7, .int .i64 z4), (8, .int .i64 x2)] _) a w' hf hh
       clear hf hh
       try dsimp only at hY2
       refine T.seq ?_
       obtain ⟨z7, hX3, hY2⟩ := Option.bind_eq_some_iff.1 hY2
       refine T.cut (fun a w' => Fr 52 [(0, .slice A1 p0.run.length c1), (1, .int .i64 p1.pfs), (7, .int .i64 z4), (8, .int .i64 x2), (39, .bool z7)] a ∧ Hp w V1 [box b3 25 ((.slice none 0 0) :: (DA16.cells (DA16.mk 0 0 0 0 0 0 0 0 0 0 0 0 0 0 0 0) ++ (DA16.cells (DA16.mk 0 0 0 0 0 0 0 0 0 0 0 0 0 0 0 0)))), box b2 27 [.int .i64 p1.pfs, .int .i64 p1.obj, .int .i64 p1.off], box b1 25 ((.slice A1 p0.run.length c1) :: (DA16.cells p0.roles ++ (DA16.cells p0.fed)))] w') ?_ ?_
       ·
        refine T.region ?_
        refine T.pure (.int .i64 x2) (by kernel_rfl) (fun _ => by kernel_rfl) ?_
        refine T.pure (.slice A1 p0.run.length c1) (by kernel_rfl) (fun _ => by kernel_rfl) ?_
        refine T.pure (.int .i64 (p0.run.length : Int)) (by kernel_rfl) (fun _ => by kernel_rfl) ?_
        refine T.pure (.bool (decide (x2 < (p0.run.length : Int)))) (by kernel_rfl) (fun _ => by kernel_rfl) ?_
        refine T.pure (.bool (decide (x2 < (p0.run.length : Int)))) (by kernel_rfl) (fun _ => by kernel_rfl) ?_
        cases hg2 : decide (x2 < (p0.run.length : Int))
        ·
         skip
         rw [hg2, cond_false] at hX3
         refine T.pass (by kernel_rfl) (by kernel_rfl) ?_
         refine T.pass (by kernel_rfl) (by kernel_rfl) ?_
         refine T.pass (by kernel_rfl) (by kernel_rfl) ?_
         refine T.pass (by kernel_rfl) (by kernel_rfl) ?_
         refine T.pass (by kernel_rfl) (by kernel_rfl) ?_
         refine T.pass (by kernel_rfl) (by kernel_rfl) ?_
         refine T.pass (by kernel_rfl) (by kernel_rfl) ?_
         refine T.pass (by kernel_rfl) (by kernel_rfl) ?_
         refine T.pure (.bool false) (by kernel_rfl) (fun _ => by kernel_rfl) ?_
         refine T.nil ?_
         cases hX3
         exact fun a w' hf hh => And.intro ((((((Fr.nil hf).pick hf 39 rfl).pick hf 8 rfl).pick hf 7 rfl).pick hf 1 rfl).pick hf 0 rfl) (hh.sub (.cons_cons _ (.cons_cons _ (.cons_cons _ List.Sublist.slnil))))
        ·
         skip
         rw [hg2, cond_true] at hX3
         refine T.pure (.slice A1 p0.run.length c1) (by kernel_rfl) (fun _ => by kernel_rfl) ?_
         refine T.pure (.int .i64 x2) (by kernel_rfl) (fun _ => by kernel_rfl) ?_
         obtain ⟨e3, hb4, hX3⟩ := Option.bind_eq_some_iff.1 hX3
         obtain ⟨hi7, hi8, hi9⟩ := idx_some hb4
         refine T.look (.pointer (some ((sadr A1).add (x2.toNat * 6)))) (by kernel_rfl) (fun w' hh => exec_indexAddr (e := 30) (s := 6) rfl rfl rfl (by kernel_rfl) (by kernel_rfl) hi7 hi8 ((SlOk.mono hs1 hV1).some_ hi9 (by decide))) ?_
         refine T.pure (.pointer (some ((sadr A1).add (x2.toNat * 6)))) (by kernel_rfl) (fun _ => by kernel_rfl) ?_
         refine T.pure (.pointer (some ((sadr A1).add (x2.toNat * 6)))) (by kernel_rfl) (fun _ => by kernel_rfl) ?_
         refine T.look (.int .i64 e3.key.pfs) (by kernel_rfl) (fun w' hh => exec_load1 rfl rfl (by kernel_rfl) (hh.cell_view (SlOk.cellF0 (E := eElem) (SlOk.mono hs1 hV1) hi9 (fun _ _ _ h => h) rfl))) ?_
         refine T.pure (.int .i64 p1.pfs) (by kernel_rfl) (fun _ => by kernel_rfl) ?_
         refine T.pure (.bool (e3.key.pfs == p1.pfs)) (by kernel_rfl) (fun _ => by kernel_rfl) ?_
         refine T.pure (.bool (e3.key.pfs == p1.pfs)) (by kernel_rfl) (fun _ => by kernel_rfl) ?_
         refine T.nil ?_
         cases hX3
         exact fun a w' hf hh => And.intro ((((((Fr.nil hf).pick hf 39 rfl).pick hf 8 rfl).pick hf 7 rfl).pick hf 1 rfl).pick hf 0 rfl) (hh.sub (.cons_cons _ (.cons_cons _ (.cons_cons _ List.Sublist.slnil))))
       ·
        rintro a w' ⟨hf, hh⟩
        refine (?_ : T 52 w V1 [box b3 25 ((.slice none 0 0) :: (DA16.cells (DA16.mk 0 0 0 0 0 0 0 0 0 0 0 0 0 0 0 0) ++ (DA16.cells (DA16.mk 0 0 0 0 0 0 0 0 0 0 0 0 0 0 0 0)))), box b2 27 [.int .i64 p1.pfs, .int .i64 p1.obj, .int .i64 p1.off], box b1 25 ((.slice A1 p0.run.length c1) :: (DA16.cells p0.roles ++ (DA16.cells p0.fed)))] [(0, .slice A1 p0.run.length c1), (1, .int .i64 p1.pfs), (7, .int .i64 z4), (8, .int .i64 x2), (39, .bool z7)] _) a w' hf hh
        clear hf hh
        refine T.cond z7 (by kernel_rfl) (by kernel_rfl) (fun hc4 => ?_) (fun hc4 => ?_)
        ·
         rw [hc4, cond_true] at hY2
         refine T.skip_code ?_
         refine T.block ?_
         refine T.region ?_
         refine T.pure (.int .i64 x2) (by kernel_rfl) (fun _ => by kernel_rfl) ?_
         refine T.pure (.int .i64 (IntKind.i64.wrap (x2 + 1))) (by kernel_rfl) (fun _ => by kernel_rfl) ?_
         refine T.pure (.int .i64 (IntKind.i64.wrap (x2 + 1))) (by kernel_rfl) (fun _ => by kernel_rfl) ?_
         refine T.nil ?_
         cases hY2
         exact fun a w' hf hh => Exists.intro (IntKind.i64.wrap (x2 + 1)) (And.intro rfl (And.intro (((((Fr.nil hf).pick hf 8 rfl).pick hf 7 rfl).pick hf 1 rfl).pick hf 0 rfl) (hh.sub (.cons_cons _ (.cons_cons _ (.cons_cons _ List.Sublist.slnil))))))
        ·
         rw [hc4, cond_false] at hY2
         refine T.exit ?_
         cases hY2
         cases (hr2 _ rfl)
         exact fun a w' hf hh => And.intro ((((Fr.nil hf).pick hf 8 rfl).pick hf 7 rfl).pick hf 0 rfl) (hh.sub (.cons_cons _ (.cons_cons _ (.cons_cons _ List.Sublist.slnil))))
     ·
      rintro a w' ⟨hf, hh⟩
      refine (?_ : T 52 w V1 [box b3 25 ((.slice none 0 0) :: (DA16.cells (DA16.mk 0 0 0 0 0 0 0 0 0 0 0 0 0 0 0 0) ++ (DA16.cells (DA16.mk 0 0 0 0 0 0 0 0 0 0 0 0 0 0 0 0)))), box b2 27 [.int .i64 p1.pfs, .int .i64 p1.obj, .int .i64 p1.off], box b1 25 ((.slice A1 p0.run.length c1) :: (DA16.cells p0.roles ++ (DA16.cells p0.fed)))] [(0, .slice A1 p0.run.length c1), (7, .int .i64 z4), (8, .int .i64 z6)] _) a w' hf hh
      clear hf hh
      refine T.seq ?_
      refine T.quiet (by kernel_rfl) (by kernel_rfl) ?_
      refine TQ.pure (.slice A1 p0.run.length c1) (by kernel_rfl) (fun _ => by kernel_rfl) ?_
      refine TQ.pure (.int .i64 z4) (by kernel_rfl) (fun _ => by kernel_rfl) ?_
      obtain ⟨s1, hb5, hX1⟩ := Option.bind_eq_some_iff.1 hX1
      refine TQ.look (.slice A1 s1.length c1) (by kernel_rfl) (fun w' hh => exec_slice_list0 (e := 30) (s := 6) (lx := none) (hx := (some _)) (k := .i64) (k' := .i64) rfl rfl (by kernel_rfl) (by kernel_rfl) ((SlOk.mono hs1 hV1)).1 rfl rfl hb5) ?_
      refine TQ.pure (.slice A1 p0.run.length c1) (by kernel_rfl) (fun _ => by kernel_rfl) ?_
      refine TQ.pure (.int .i64 z4) (by kernel_rfl) (fun _ => by kernel_rfl) ?_
      refine TQ.pure (.int .i64 z6) (by kernel_rfl) (fun _ => by kernel_rfl) ?_
      obtain ⟨s2, hb6, hX1⟩ := Option.bind_eq_some_iff.1 hX1
      refine TQ.look (.slice (cutA A1 c1 z4.toNat 6) s2.length (c1 - z4.toNat)) (by kernel_rfl) (fun w' hh => exec_slice_list (e := 30) (s := 6) (lx := (some _)) (hx := (some _)) (k := .i64) (k' := .i64) rfl rfl (by kernel_rfl) (by kernel_rfl) ((SlOk.mono hs1 hV1)).1 rfl rfl hb6) ?_
      refine TQ.pure (.slice A1 p0.run.length c1) (by kernel_rfl) (fun _ => by kernel_rfl) ?_
      refine TQ.pure (.int .i64 z6) (by kernel_rfl) (fun _ => by kernel_rfl) ?_
      obtain ⟨s3, hb7, hX1⟩ := Option.bind_eq_some_iff.1 hX1
      refine TQ.look (.slice (cutA A1 c1 z6.toNat 6) s3.length (c1 - z6.toNat)) (by kernel_rfl) (fun w' hh => exec_slice_list (e := 30) (s := 6) (lx := (some _)) (hx := none) (k := .i64) (k' := .i64) rfl rfl (by kernel_rfl) (by kernel_rfl) ((SlOk.mono hs1 hV1)).1 rfl rfl hb7) ?_
      refine TQ.pure (.slice A1 s1.length c1) (by kernel_rfl) (fun _ => by kernel_rfl) ?_
      refine TQ.pure (.slice (cutA A1 c1 z4.toNat 6) s2.length (c1 - z4.toNat)) (by kernel_rfl) (fun _ => by kernel_rfl) ?_
      refine TQ.pure (.slice (cutA A1 c1 z6.toNat 6) s3.length (c1 - z6.toNat)) (by kernel_rfl) (fun _ => by kernel_rfl) ?_
      refine TQ.nil ?_
      cases hX1
      refine T.ret rfl ?_
      exact T.ret3 rfl (ResIs.tmp rfl) (ResIs.tmp rfl) (ResIs.tmp rfl) fun w' hh => ⟨_, rfl, Exists.intro s1 (Exists.intro s2 (Exists.intro s3 (And.intro rfl (Exists.intro A1 (Exists.intro c1 (Exists.intro (cutA A1 c1 z4.toNat 6) (Exists.intro (c1 - z4.toNat) (Exists.intro (cutA A1 c1 z6.toNat 6) (Exists.intro (c1 - z6.toNat) (Exists.intro V1 (And.intro (View.le_refl _) (And.intro (SlOk.cut0 (SlOk.mono hs1 hV1) hb5) (And.intro (SlOk.cut (SlOk.mono hs1 hV1) hb6) (And.intro (SlOk.cut (SlOk.mono hs1 hV1) hb7) (And.intro rfl (hh.sub (.cons_cons _ (.cons_cons _ (.cons_cons _ List.Sublist.slnil)))))))))))))))))))⟩
   ·
    rintro v w' ⟨z1, z2, z3, rfl, A2, c2, A3, c3, A4, c4, V2, hV2, hs2, hs3, hs4, rfl, hh⟩
    try dsimp only at hF
    refine ⟨V2, [box b3 25 ((.slice none 0 0) :: (DA16.cells (DA16.mk 0 0 0 0 0 0 0 0 0 0 0 0 0 0 0 0) ++ (DA16.cells (DA16.mk 0 0 0 0 0 0 0 0 0 0 0 0 0 0 0 0)))), box b2 27 [.int .i64 p1.pfs, .int .i64 p1.obj, .int .i64 p1.off], box b1 25 ((.slice A1 p0.run.length c1) :: (DA16.cells p0.roles ++ (DA16.cells p0.fed)))], hh, ?_⟩
    clear hh
    refine T.pure (.tuple #[.slice A2 z1.length c2, .slice A3 z2.length c3, .slice A4 z3.length c4]) (by kernel_rfl) (fun _ => by kernel_rfl) ?_
    refine T.pure (.slice A2 z1.length c2) (by kernel_rfl) (fun _ => by kernel_rfl) ?_
    refine T.pure (.slice A3 z2.length c3) (by kernel_rfl) (fun _ => by kernel_rfl) ?_
    refine T.pure (.slice A4 z3.length c4) (by kernel_rfl) (fun _ => by kernel_rfl) ?_
    refine T.pure (.slice A2 z1.length c2) (by kernel_rfl) (fun _ => by kernel_rfl) ?_
    refine T.pure (.slice A3 z2.length c3) (by kernel_rfl) (fun _ => by kernel_rfl) ?_
    refine T.pure (.slice A4 z3.length c4) (by kernel_rfl) (fun _ => by kernel_rfl) ?_
    refine T.nil ?_
    refine T.seq ?_
    refine T.region ?_
    refine T.pure (.slice A3 z2.length c3) (by kernel_rfl) (fun _ => by kernel_rfl) ?_
    refine T.look (.agg #[.int .i64 p1.pfs, .int .i64 p1.obj, .int .i64 p1.off]) (by kernel_rfl) (fun w' hh => exec_loadN (cs := [.int .i64 p1.pfs, .int .i64 p1.obj, .int .i64 p1.off]) rfl rfl (by kernel_rfl) (by kernel_rfl) (fun j u hj => (hh.box_at (i := 1) (cs := [.int .i64 p1.pfs, .int .i64 p1.obj, .int .i64 p1.off]) (by rfl) 0 j).trans (seg_at (n := 3) (by rfl) hj))) ?_
    refine T.pure (.int .i64 p2) (by kernel_rfl) (fun _ => by kernel_rfl) ?_
    obtain ⟨r4, hb8, hF⟩ := Option.bind_eq_some_iff.1 hF
    refine T.step (W1.call (vT2 (vSc (eList eElem)) (vSc eInt)) r4 23 #[.slice A3 z2.length c3, .agg #[.int .i64 p1.pfs, .int .i64 p1.obj, .int .i64 p1.off], .int .i64 p2] (by kernel_rfl) (fun _ => by kernel_rfl) (fun w' hh => run_Cut_l F z2 p1 p2 r4 hb8 w' A3 c3 (SlOk.mono hs3 hh.view)) ?_)
    intro u V3 hV3 hu
    obtain ⟨u1, u2, rfl, hu1, hu2⟩ := vT2_elim hu
    obtain ⟨A5, c5, rfl, hs5⟩ := vlist_elim hu1
    obtain rfl := sureInt _ _ _ hu2
    refine T.pure (.tuple #[.slice A5 r4.1.length c5, .int .i64 r4.2]) (by kernel_rfl) (fun _ => by kernel_rfl) ?_
    refine T.pure (.slice A5 r4.1.length c5) (by kernel_rfl) (fun _ => by kernel_rfl) ?_
    refine T.pure (.int .i64 r4.2) (by kernel_rfl) (fun _ => by kernel_rfl) ?_
    refine T.pure (.slice A5 r4.1.length c5) (by kernel_rfl) (fun _ => by kernel_rfl) ?_
    refine T.pure (.int .i64 r4.2) (by kernel_rfl) (fun _ => by kernel_rfl) ?_
    refine T.nil ?_
    refine T.seq ?_
    refine T.seq ?_
    refine T.region ?_
    refine T.pure (.int .i64 r4.2) (by kernel_rfl) (fun _ => by kernel_rfl) ?_
    refine T.pure (.bool (r4.2 != 0)) (by kernel_rfl) (fun _ => by kernel_rfl) ?_
    refine T.nil ?_
    refine T.cond (r4.2 != 0) (by kernel_rfl) (by kernel_rfl) (fun hc5 => ?_) (fun hc5 => ?_)
    ·
     rw [hc5, cond_true] at hF
     refine T.seq ?_
     refine T.region ?_
     refine T.pure (.agg (List.toArray ((.slice none 0 0) :: (DA16.cells (DA16.mk 0 0 0 0 0 0 0 0 0 0 0 0 0 0 0 0) ++ (DA16.cells (DA16.mk 0 0 0 0 0 0 0 0 0 0 0 0 0 0 0 0)))))) (by kernel_rfl) (fun _ => by kernel_rfl) ?_
     refine T.pure (.int .i64 r4.2) (by kernel_rfl) (fun _ => by kernel_rfl) ?_
     refine T.step (W1.store 0 ((.slice none 0 0) :: (DA16.cells (DA16.mk 0 0 0 0 0 0 0 0 0 0 0 0 0 0 0 0) ++ (DA16.cells (DA16.mk 0 0 0 0 0 0 0 0 0 0 0 0 0 0 0 0)))) [box b3 25 ((.slice none 0 0) :: (DA16.cells (DA16.mk 0 0 0 0 0 0 0 0 0 0 0 0 0 0 0 0) ++ (DA16.cells (DA16.mk 0 0 0 0 0 0 0 0 0 0 0 0 0 0 0 0)))), box b2 27 [.int .i64 p1.pfs, .int .i64 p1.obj, .int .i64 p1.off], box b1 25 ((.slice A1 p0.run.length c1) :: (DA16.cells p0.roles ++ (DA16.cells p0.fed)))] (by rfl) rfl (by kernel_rfl) (fun w' hw => exec_store (vs := ((.slice none 0 0) :: (DA16.cells (DA16.mk 0 0 0 0 0 0 0 0 0 0 0 0 0 0 0 0) ++ (DA16.cells (DA16.mk 0 0 0 0 0 0 0 0 0 0 0 0 0 0 0 0))))) rfl rfl rfl rfl (by kernel_rfl) (one_of rfl) (Nat.le_of_ble_eq_true (by rfl)) rfl hw) ?_)
     refine T.pure (.int .i64 r4.2) (by kernel_rfl) (fun _ => by kernel_rfl) ?_
     refine T.nil ?_
     refine T.rownil 30 eElem ?_
     cases hF
     refine T.ret rfl ?_
     first | exact T.ret2 rfl (ResIs.cellN 1 rfl (by rfl) (fun _ => by kernel_rfl) (fun _ => by kernel_rfl)) (ResIs.tmp rfl) fun w' hh => ⟨(none, 0), rfl, trivial, gives_of (hh.sub (.cons_cons _ (.cons _ (.cons _ (.cons _ List.Sublist.slnil))))) ⟨flat_row (fun _ _ _ _ h => h), trivial⟩⟩ | (unfold Exit.then; dsimp only; exact T.ret2 rfl (ResIs.cellN 1 rfl (by rfl) (fun _ => by kernel_rfl) (fun _ => by kernel_rfl)) (ResIs.tmp rfl) fun w' hh => ⟨(none, 0), rfl, trivial, gives_of (hh.sub (.cons_cons _ (.cons _ (.cons _ (.cons _ List.Sublist.slnil))))) ⟨flat_row (fun _ _ _ _ h => h), trivial⟩⟩)
    ·
     rw [hc5, cond_false] at hF
     refine T.skip_code ?_
     refine T.seq ?_
     refine T.region ?_
     refine T.look (.agg (List.toArray ((.slice A1 p0.run.length c1) :: (DA16.cells p0.roles ++ (DA16.cells p0.fed))))) (by kernel_rfl) (fun w' hh => exec_loadN (cs := ((.slice A1 p0.run.length c1) :: (DA16.cells p0.roles ++ (DA16.cells p0.fed)))) rfl rfl (by kernel_rfl) (by kernel_rfl) (fun j u hj => (hh.box_at (i := 2) (cs := ((.slice A1 p0.run.length c1) :: (DA16.cells p0.roles ++ (DA16.cells p0.fed)))) (by rfl) 0 j).trans (seg_at (n := 33) (by rfl) hj))) ?_
     refine T.pure (.pointer (some ⟨b2, 0, none⟩)) (by kernel_rfl) (fun _ => by kernel_rfl) ?_
     refine T.look (.int .i64 p1.pfs) (by kernel_rfl) (fun w' hh => exec_load1 rfl rfl (by kernel_rfl) (hh.cellBox (i := 1) (by rfl) 0)) ?_
     refine T.pure (.slice A5 r4.1.length c5) (by kernel_rfl) (fun _ => by kernel_rfl) ?_
     obtain ⟨r6, hb9, hF⟩ := Option.bind_eq_some_iff.1 hF
     refine T.step (W1.callG 22 #[.agg (List.toArray ((.slice A1 p0.run.length c1) :: (DA16.cells p0.roles ++ (DA16.cells p0.fed)))), .int .i64 p1.pfs, .slice A5 r4.1.length c5] (fun p : Option Addr × Nat => .tuple #[.agg (List.toArray ((.slice p.1 r6.1.run.length p.2) :: (DA16.cells r6.1.roles ++ (DA16.cells r6.1.fed)))), .int .i64 r6.2]) (fun p => [row 30 eElem p.1 p.2 r6.1.run]) (fun _ => True) (by kernel_rfl) (fun _ => by kernel_rfl) (fun w' hh => realm_with_l F p0 p1.pfs r4.1 r6 hb9 w' A1 c1 (SlOk.mono (SlOk.mono hs1 (View.le_trans (View.le_trans hV1 hV2) hV3)) hh.view) A5 c5 (SlOk.mono (SlOk.mono hs5 (View.le_trans (made_le _ _) (View.le_refl _))) hh.view)) ?_)
     rintro ⟨A6, c6⟩ _
     refine T.reH (H' := [row 30 eElem A6 c6 r6.1.run, box b3 25 ((.slice none 0 0) :: (DA16.cells (DA16.mk 0 0 0 0 0 0 0 0 0 0 0 0 0 0 0 0) ++ (DA16.cells (DA16.mk 0 0 0 0 0 0 0 0 0 0 0 0 0 0 0 0)))), box b2 27 [.int .i64 p1.pfs, .int .i64 p1.obj, .int .i64 p1.off], box b1 25 ((.slice A1 p0.run.length c1) :: (DA16.cells p0.roles ++ (DA16.cells p0.fed)))]) (by rfl) ?_
     refine T.pure (.agg (List.toArray ((.slice A6 r6.1.run.length c6) :: (DA16.cells r6.1.roles ++ (DA16.cells r6.1.fed))))) (by kernel_rfl) (fun _ => by kernel_rfl) ?_
     refine T.pure (.int .i64 r6.2) (by kernel_rfl) (fun _ => by kernel_rfl) ?_
     refine T.step (W1.store 1 ((.slice A6 r6.1.run.length c6) :: (DA16.cells r6.1.roles ++ (DA16.cells r6.1.fed))) [row 30 eElem A6 c6 r6.1.run, box b3 25 ((.slice A6 r6.1.run.length c6) :: (DA16.cells r6.1.roles ++ (DA16.cells r6.1.fed))), box b2 27 [.int .i64 p1.pfs, .int .i64 p1.obj, .int .i64 p1.off], box b1 25 ((.slice A1 p0.run.length c1) :: (DA16.cells p0.roles ++ (DA16.cells p0.fed)))] (by rfl) rfl (by kernel_rfl) (fun w' hw => exec_store (vs := ((.slice A6 r6.1.run.length c6) :: (DA16.cells r6.1.roles ++ (DA16.cells r6.1.fed)))) rfl rfl rfl rfl (by kernel_rfl) (one_of rfl) (Nat.le_of_ble_eq_true (by rfl)) rfl hw) ?_)
     refine T.pure (.int .i64 r6.2) (by kernel_rfl) (fun _ => by kernel_rfl) ?_
     refine T.nil ?_
     cases hF
     refine T.ret rfl ?_
     first | exact T.ret2 rfl (ResIs.cellN 1 rfl (by rfl) (fun _ => by kernel_rfl) (fun _ => by kernel_rfl)) (ResIs.tmp rfl) fun w' hh => ⟨(A6, c6), rfl, trivial, gives_of (hh.sub (.cons_cons _ (.cons _ (.cons _ (.cons _ List.Sublist.slnil))))) ⟨flat_row (fun _ _ _ _ h => h), trivial⟩⟩ | (unfold Exit.then; dsimp only; exact T.ret2 rfl (ResIs.cellN 1 rfl (by rfl) (fun _ => by kernel_rfl) (fun _ => by kernel_rfl)) (ResIs.tmp rfl) fun w' hh => ⟨(A6, c6), rfl, trivial, gives_of (hh.sub (.cons_cons _ (.cons _ (.cons _ (.cons _ List.Sublist.slnil))))) ⟨flat_row (fun _ _ _ _ h => h), trivial⟩⟩)
end Go.Proofs.Ytfbjmeehmanjnaa
