/- The Go functions of group Turn compute the pure functions of that group: written by walkgen.py. Condition of each: the pure function yields a result. -/
import Derived.Test.YtfbjmeehmanjnaaRealmLJ
import Derived.Test.YtfbjmeehmanjnaaSpoilJ
import Derived.Test.YtfbjmeehmanjnaaTurnFJ
import Derived.Test.YtfbjmeehmanjnaaEqLJ
namespace Go.Proofs.Ytfbjmeehmanjnaa
set_option linter.unusedVariables false
set_option maxRecDepth 100000 in
set_option maxHeartbeats 4000000 in
theorem realm_Make_l (F : Nat) (p0 : DBook) (p1 : Int) (p2 : Int) (r : DBook × Int) (hF : realm_Make F p0 p1 p2 = some r) (w : World) (A1 : Option Addr) (c1 : Nat) (hs1 : SlOk (vw w) eElem A1 c1 p0.run) :
 Calls Try.prog 6 #[.agg (List.toArray ((.slice A1 p0.run.length c1) :: (DA16.cells p0.roles ++ (DA16.cells p0.fed)))), .int .i64 p1, .int .i64 p2] w (fun e w' => ∃ p : Option Addr × Nat, e = .returned (.tuple #[.agg (List.toArray ((.slice p.1 r.1.run.length p.2) :: (DA16.cells r.1.roles ++ (DA16.cells r.1.fed)))), .int .i64 r.2]) ∧ True ∧ Gives w w' [row 30 eElem p.1 p.2 r.1.run]) := by
 unfold realm_Make at hF
 refine T.start (l := [.agg (List.toArray ((.slice A1 p0.run.length c1) :: (DA16.cells p0.roles ++ (DA16.cells p0.fed)))), .int .i64 p1, .int .i64 p2]) Try.func6 rfl rfl rfl ?_
 refine T.seq ?_
 refine T.region ?_
 refine T.step (W1.new 25 ((.slice A1 p0.run.length c1) :: (DA16.cells p0.roles ++ (DA16.cells p0.fed))) (fun b => .pointer (some ⟨b, 0, none⟩)) (by kernel_rfl) (fun _ => by kernel_rfl) (fun b1 => ?_))
 refine T.step (W1.new 25 ((.slice none 0 0) :: (DA16.cells (DA16.mk 0 0 0 0 0 0 0 0 0 0 0 0 0 0 0 0) ++ (DA16.cells (DA16.mk 0 0 0 0 0 0 0 0 0 0 0 0 0 0 0 0)))) (fun b => .pointer (some ⟨b, 0, none⟩)) (by kernel_rfl) (fun _ => by kernel_rfl) (fun b2 => ?_))
 refine T.pure (.int .i64 0) (by kernel_rfl) (fun _ => by kernel_rfl) ?_
 refine T.nil ?_
 refine T.seq ?_
 refine T.seq ?_
 refine T.region ?_
 refine T.look (.agg (List.toArray ((.slice A1 p0.run.length c1) :: (DA16.cells p0.roles ++ (DA16.cells p0.fed))))) (by kernel_rfl) (fun w' hh => exec_loadN (cs := ((.slice A1 p0.run.length c1) :: (DA16.cells p0.roles ++ (DA16.cells p0.fed)))) rfl rfl (by kernel_rfl) (by kernel_rfl) (fun j u hj => (hh.box_at (i := 1) (cs := ((.slice A1 p0.run.length c1) :: (DA16.cells p0.roles ++ (DA16.cells p0.fed)))) (by rfl) 0 j).trans (seg_at (n := 33) (by rfl) hj))) ?_
 refine T.pure (.int .i64 p1) (by kernel_rfl) (fun _ => by kernel_rfl) ?_
 obtain ⟨r1, hb1, hF⟩ := Option.bind_eq_some_iff.1 hF
 refine T.step (W1.call (vSc eInt) r1 18 #[.agg (List.toArray ((.slice A1 p0.run.length c1) :: (DA16.cells p0.roles ++ (DA16.cells p0.fed)))), .int .i64 p1] (by kernel_rfl) (fun _ => by kernel_rfl) (fun w' hh => realm_look_l F p0 p1 r1 hb1 w' A1 c1 (SlOk.mono hs1 hh.view)) ?_)
 intro u V1 hV1 hu
 obtain rfl := sureInt _ _ _ hu
 refine T.pure (.int .i64 r1) (by kernel_rfl) (fun _ => by kernel_rfl) ?_
 refine T.nil ?_
 refine T.seq ?_
 refine T.region ?_
 refine T.pure (.int .i64 r1) (by kernel_rfl) (fun _ => by kernel_rfl) ?_
 refine T.pure (.bool (r1 != 0)) (by kernel_rfl) (fun _ => by kernel_rfl) ?_
 refine T.nil ?_
 refine T.cond (r1 != 0) (by kernel_rfl) (by kernel_rfl) (fun hc1 => ?_) (fun hc1 => ?_)
 ·
  rw [hc1, cond_true] at hF
  refine T.seq ?_
  refine T.region ?_
  refine T.pure (.agg (List.toArray ((.slice none 0 0) :: (DA16.cells (DA16.mk 0 0 0 0 0 0 0 0 0 0 0 0 0 0 0 0) ++ (DA16.cells (DA16.mk 0 0 0 0 0 0 0 0 0 0 0 0 0 0 0 0)))))) (by kernel_rfl) (fun _ => by kernel_rfl) ?_
  refine T.pure (.int .i64 r1) (by kernel_rfl) (fun _ => by kernel_rfl) ?_
  refine T.step (W1.store 0 ((.slice none 0 0) :: (DA16.cells (DA16.mk 0 0 0 0 0 0 0 0 0 0 0 0 0 0 0 0) ++ (DA16.cells (DA16.mk 0 0 0 0 0 0 0 0 0 0 0 0 0 0 0 0)))) [box b2 25 ((.slice none 0 0) :: (DA16.cells (DA16.mk 0 0 0 0 0 0 0 0 0 0 0 0 0 0 0 0) ++ (DA16.cells (DA16.mk 0 0 0 0 0 0 0 0 0 0 0 0 0 0 0 0)))), box b1 25 ((.slice A1 p0.run.length c1) :: (DA16.cells p0.roles ++ (DA16.cells p0.fed)))] (by rfl) rfl (by kernel_rfl) (fun w' hw => exec_store (vs := ((.slice none 0 0) :: (DA16.cells (DA16.mk 0 0 0 0 0 0 0 0 0 0 0 0 0 0 0 0) ++ (DA16.cells (DA16.mk 0 0 0 0 0 0 0 0 0 0 0 0 0 0 0 0))))) rfl rfl rfl rfl (by kernel_rfl) (one_of rfl) (Nat.le_of_ble_eq_true (by rfl)) rfl hw) ?_)
  refine T.pure (.int .i64 r1) (by kernel_rfl) (fun _ => by kernel_rfl) ?_
  refine T.nil ?_
  refine T.rownil 30 eElem ?_
  cases hF
  refine T.ret rfl ?_
  first | exact T.ret2 rfl (ResIs.cellN 1 rfl (by rfl) (fun _ => by kernel_rfl) (fun _ => by kernel_rfl)) (ResIs.tmp rfl) fun w' hh => ⟨(none, 0), rfl, trivial, gives_of (hh.sub (.cons_cons _ (.cons _ (.cons _ List.Sublist.slnil)))) ⟨flat_row (fun _ _ _ _ h => h), trivial⟩⟩ | (unfold Exit.then; dsimp only; exact T.ret2 rfl (ResIs.cellN 1 rfl (by rfl) (fun _ => by kernel_rfl) (fun _ => by kernel_rfl)) (ResIs.tmp rfl) fun w' hh => ⟨(none, 0), rfl, trivial, gives_of (hh.sub (.cons_cons _ (.cons _ (.cons _ List.Sublist.slnil)))) ⟨flat_row (fun _ _ _ _ h => h), trivial⟩⟩)
 ·
  rw [hc1, cond_false] at hF
  refine T.skip_code ?_
  refine T.seq ?_
  refine T.cut (fun a w' => Fr 37 [(1, .int .i64 p1), (2, .int .i64 p2), (3, .pointer (some ⟨b1, 0, none⟩)), (6, .pointer (some ⟨b2, 0, none⟩)), (22, .bool ((p2 != 1) && (p2 != 2)))] a ∧ Hp w V1 [box b2 25 ((.slice none 0 0) :: (DA16.cells (DA16.mk 0 0 0 0 0 0 0 0 0 0 0 0 0 0 0 0) ++ (DA16.cells (DA16.mk 0 0 0 0 0 0 0 0 0 0 0 0 0 0 0 0)))), box b1 25 ((.slice A1 p0.run.length c1) :: (DA16.cells p0.roles ++ (DA16.cells p0.fed)))] w') ?_ ?_
  ·
   refine T.region ?_
   refine T.pure (.int .i64 p2) (by kernel_rfl) (fun _ => by kernel_rfl) ?_
   refine T.pure (.bool (p2 != 1)) (by kernel_rfl) (fun _ => by kernel_rfl) ?_
   refine T.pure (.bool (p2 != 1)) (by kernel_rfl) (fun _ => by kernel_rfl) ?_
   cases hg1 : (p2 != 1)
   ·
    skip
    refine T.pass (by kernel_rfl) (by kernel_rfl) ?_
    refine T.pass (by kernel_rfl) (by kernel_rfl) ?_
    refine T.pure (.bool false) (by kernel_rfl) (fun _ => by kernel_rfl) ?_
    refine T.nil ?_
    exact fun a w' hf hh => And.intro ((((((Fr.nil hf).pick hf 22 rfl).pick hf 6 rfl).pick hf 3 rfl).pick hf 2 rfl).pick hf 1 rfl) (hh.sub (.cons_cons _ (.cons_cons _ List.Sublist.slnil)))
   ·
    skip
    refine T.pure (.int .i64 p2) (by kernel_rfl) (fun _ => by kernel_rfl) ?_
    refine T.pure (.bool (p2 != 2)) (by kernel_rfl) (fun _ => by kernel_rfl) ?_
    refine T.pure (.bool (p2 != 2)) (by kernel_rfl) (fun _ => by kernel_rfl) ?_
    refine T.nil ?_
    exact fun a w' hf hh => And.intro ((((((Fr.nil hf).pick hf 22 rfl).pick hf 6 rfl).pick hf 3 rfl).pick hf 2 rfl).pick hf 1 rfl) (hh.sub (.cons_cons _ (.cons_cons _ List.Sublist.slnil)))
  ·
   rintro a w' ⟨hf, hh⟩
   refine (?_ : T 37 w V1 [box b2 25 ((.slice none 0 0) :: (DA16.cells (DA16.mk 0 0 0 0 0 0 0 0 0 0 0 0 0 0 0 0) ++ (DA16.cells (DA16.mk 0 0 0 0 0 0 0 0 0 0 0 0 0 0 0 0)))), box b1 25 ((.slice A1 p0.run.length c1) :: (DA16.cells p0.roles ++ (DA16.cells p0.fed)))] [(1, .int .i64 p1), (2, .int .i64 p2), (3, .pointer (some ⟨b1, 0, none⟩)), (6, .pointer (some ⟨b2, 0, none⟩)), (22, .bool ((p2 != 1) && (p2 != 2)))] _) a w' hf hh
   clear hf hh
   refine T.cond ((p2 != 1) && (p2 != 2)) (by kernel_rfl) (by kernel_rfl) (fun hc2 => ?_) (fun hc2 => ?_)
   ·
    rw [hc2, cond_true] at hF
    refine T.seq ?_
    refine T.region ?_
    refine T.pure (.agg (List.toArray ((.slice none 0 0) :: (DA16.cells (DA16.mk 0 0 0 0 0 0 0 0 0 0 0 0 0 0 0 0) ++ (DA16.cells (DA16.mk 0 0 0 0 0 0 0 0 0 0 0 0 0 0 0 0)))))) (by kernel_rfl) (fun _ => by kernel_rfl) ?_
    refine T.step (W1.store 0 ((.slice none 0 0) :: (DA16.cells (DA16.mk 0 0 0 0 0 0 0 0 0 0 0 0 0 0 0 0) ++ (DA16.cells (DA16.mk 0 0 0 0 0 0 0 0 0 0 0 0 0 0 0 0)))) [box b2 25 ((.slice none 0 0) :: (DA16.cells (DA16.mk 0 0 0 0 0 0 0 0 0 0 0 0 0 0 0 0) ++ (DA16.cells (DA16.mk 0 0 0 0 0 0 0 0 0 0 0 0 0 0 0 0)))), box b1 25 ((.slice A1 p0.run.length c1) :: (DA16.cells p0.roles ++ (DA16.cells p0.fed)))] (by rfl) rfl (by kernel_rfl) (fun w' hw => exec_store (vs := ((.slice none 0 0) :: (DA16.cells (DA16.mk 0 0 0 0 0 0 0 0 0 0 0 0 0 0 0 0) ++ (DA16.cells (DA16.mk 0 0 0 0 0 0 0 0 0 0 0 0 0 0 0 0))))) rfl rfl rfl rfl (by kernel_rfl) (one_of rfl) (Nat.le_of_ble_eq_true (by rfl)) rfl hw) ?_)
    refine T.pure (.int .i64 1) (by kernel_rfl) (fun _ => by kernel_rfl) ?_
    refine T.nil ?_
    refine T.rownil 30 eElem ?_
    cases hF
    refine T.ret rfl ?_
    first | exact T.ret2 rfl (ResIs.cellN 1 rfl (by rfl) (fun _ => by kernel_rfl) (fun _ => by kernel_rfl)) (ResIs.tmp rfl) fun w' hh => ⟨(none, 0), rfl, trivial, gives_of (hh.sub (.cons_cons _ (.cons _ (.cons _ List.Sublist.slnil)))) ⟨flat_row (fun _ _ _ _ h => h), trivial⟩⟩ | (unfold Exit.then; dsimp only; exact T.ret2 rfl (ResIs.cellN 1 rfl (by rfl) (fun _ => by kernel_rfl) (fun _ => by kernel_rfl)) (ResIs.tmp rfl) fun w' hh => ⟨(none, 0), rfl, trivial, gives_of (hh.sub (.cons_cons _ (.cons _ (.cons _ List.Sublist.slnil)))) ⟨flat_row (fun _ _ _ _ h => h), trivial⟩⟩)
   ·
    rw [hc2, cond_false] at hF
    refine T.skip_code ?_
    refine T.seq ?_
    refine T.seq ?_
    refine T.region ?_
    refine T.pure (.int .i64 p1) (by kernel_rfl) (fun _ => by kernel_rfl) ?_
    refine T.pure (.pointer (some ⟨b1, 1, none⟩)) (by kernel_rfl) (fun _ => by kernel_rfl) ?_
    obtain ⟨e1, hb2, hF⟩ := Option.bind_eq_some_iff.1 hF
    obtain ⟨hi1, hi2, hi3⟩ := idx_some hb2
    refine T.look (.pointer (some ((⟨b1, 1, none⟩ : Addr).add (p1.toNat * 1)))) (by kernel_rfl) (fun w' hh => exec_arrAddr (e := 3) rfl rfl rfl (by kernel_rfl) (by kernel_rfl) hi1 hi2) ?_
    refine T.look (.int .i64 e1) (by kernel_rfl) (fun w' hh => exec_load1 rfl rfl (by kernel_rfl) (hh.arr_at (i := 1) (by rfl) 1 p0.roles rfl hi3)) ?_
    refine T.pure (.bool (e1 != 0)) (by kernel_rfl) (fun _ => by kernel_rfl) ?_
    refine T.nil ?_
    refine T.cond (e1 != 0) (by kernel_rfl) (by kernel_rfl) (fun hc3 => ?_) (fun hc3 => ?_)
    ·
     rw [hc3, cond_true] at hF
     refine T.seq ?_
     refine T.region ?_
     refine T.pure (.agg (List.toArray ((.slice none 0 0) :: (DA16.cells (DA16.mk 0 0 0 0 0 0 0 0 0 0 0 0 0 0 0 0) ++ (DA16.cells (DA16.mk 0 0 0 0 0 0 0 0 0 0 0 0 0 0 0 0)))))) (by kernel_rfl) (fun _ => by kernel_rfl) ?_
     refine T.step (W1.store 0 ((.slice none 0 0) :: (DA16.cells (DA16.mk 0 0 0 0 0 0 0 0 0 0 0 0 0 0 0 0) ++ (DA16.cells (DA16.mk 0 0 0 0 0 0 0 0 0 0 0 0 0 0 0 0)))) [box b2 25 ((.slice none 0 0) :: (DA16.cells (DA16.mk 0 0 0 0 0 0 0 0 0 0 0 0 0 0 0 0) ++ (DA16.cells (DA16.mk 0 0 0 0 0 0 0 0 0 0 0 0 0 0 0 0)))), box b1 25 ((.slice A1 p0.run.length c1) :: (DA16.cells p0.roles ++ (DA16.cells p0.fed)))] (by rfl) rfl (by kernel_rfl) (fun w' hw => exec_store (vs := ((.slice none 0 0) :: (DA16.cells (DA16.mk 0 0 0 0 0 0 0 0 0 0 0 0 0 0 0 0) ++ (DA16.cells (DA16.mk 0 0 0 0 0 0 0 0 0 0 0 0 0 0 0 0))))) rfl rfl rfl rfl (by kernel_rfl) (one_of rfl) (Nat.le_of_ble_eq_true (by rfl)) rfl hw) ?_)
     refine T.pure (.int .i64 5) (by kernel_rfl) (fun _ => by kernel_rfl) ?_
     refine T.nil ?_
     refine T.rownil 30 eElem ?_
     cases hF
     refine T.ret rfl ?_
     first | exact T.ret2 rfl (ResIs.cellN 1 rfl (by rfl) (fun _ => by kernel_rfl) (fun _ => by kernel_rfl)) (ResIs.tmp rfl) fun w' hh => ⟨(none, 0), rfl, trivial, gives_of (hh.sub (.cons_cons _ (.cons _ (.cons _ List.Sublist.slnil)))) ⟨flat_row (fun _ _ _ _ h => h), trivial⟩⟩ | (unfold Exit.then; dsimp only; exact T.ret2 rfl (ResIs.cellN 1 rfl (by rfl) (fun _ => by kernel_rfl) (fun _ => by kernel_rfl)) (ResIs.tmp rfl) fun w' hh => ⟨(none, 0), rfl, trivial, gives_of (hh.sub (.cons_cons _ (.cons _ (.cons _ List.Sublist.slnil)))) ⟨flat_row (fun _ _ _ _ h => h), trivial⟩⟩)
    ·
     rw [hc3, cond_false] at hF
     refine T.skip_code ?_
     refine T.seq ?_
     refine T.region ?_
     refine T.look (.agg (List.toArray ((.slice A1 p0.run.length c1) :: (DA16.cells p0.roles ++ (DA16.cells p0.fed))))) (by kernel_rfl) (fun w' hh => exec_loadN (cs := ((.slice A1 p0.run.length c1) :: (DA16.cells p0.roles ++ (DA16.cells p0.fed)))) rfl rfl (by kernel_rfl) (by kernel_rfl) (fun j u hj => (hh.box_at (i := 1) (cs := ((.slice A1 p0.run.length c1) :: (DA16.cells p0.roles ++ (DA16.cells p0.fed)))) (by rfl) 0 j).trans (seg_at (n := 33) (by rfl) hj))) ?_
     obtain ⟨r5, hb3, hF⟩ := Option.bind_eq_some_iff.1 hF
     refine T.step (W1.callG 19 #[.agg (List.toArray ((.slice A1 p0.run.length c1) :: (DA16.cells p0.roles ++ (DA16.cells p0.fed))))] (fun p : Option Addr × Nat => .agg (List.toArray ((.slice p.1 r5.run.length p.2) :: (DA16.cells r5.roles ++ (DA16.cells r5.fed))))) (fun p => [row 30 eElem p.1 p.2 r5.run]) (fun _ => True) (by kernel_rfl) (fun _ => by kernel_rfl) (fun w' hh => realm_copied_l p0 r5 hb3 w' A1 c1 (SlOk.mono (SlOk.mono hs1 hV1) hh.view)) ?_)
     rintro ⟨A2, c2⟩ _
     refine T.reH (H' := [row 30 eElem A2 c2 r5.run, box b2 25 ((.slice none 0 0) :: (DA16.cells (DA16.mk 0 0 0 0 0 0 0 0 0 0 0 0 0 0 0 0) ++ (DA16.cells (DA16.mk 0 0 0 0 0 0 0 0 0 0 0 0 0 0 0 0)))), box b1 25 ((.slice A1 p0.run.length c1) :: (DA16.cells p0.roles ++ (DA16.cells p0.fed)))]) (by rfl) ?_
     refine T.step (W1.new 25 ((.slice none 0 0) :: (DA16.cells (DA16.mk 0 0 0 0 0 0 0 0 0 0 0 0 0 0 0 0) ++ (DA16.cells (DA16.mk 0 0 0 0 0 0 0 0 0 0 0 0 0 0 0 0)))) (fun b => .pointer (some ⟨b, 0, none⟩)) (by kernel_rfl) (fun _ => by kernel_rfl) (fun b3 => ?_))
     refine T.step (W1.store 0 ((.slice A2 r5.run.length c2) :: (DA16.cells r5.roles ++ (DA16.cells r5.fed))) [box b3 25 ((.slice A2 r5.run.length c2) :: (DA16.cells r5.roles ++ (DA16.cells r5.fed))), row 30 eElem A2 c2 r5.run, box b2 25 ((.slice none 0 0) :: (DA16.cells (DA16.mk 0 0 0 0 0 0 0 0 0 0 0 0 0 0 0 0) ++ (DA16.cells (DA16.mk 0 0 0 0 0 0 0 0 0 0 0 0 0 0 0 0)))), box b1 25 ((.slice A1 p0.run.length c1) :: (DA16.cells p0.roles ++ (DA16.cells p0.fed)))] (by rfl) rfl (by kernel_rfl) (fun w' hw => exec_store (vs := ((.slice A2 r5.run.length c2) :: (DA16.cells r5.roles ++ (DA16.cells r5.fed)))) rfl rfl rfl rfl (by kernel_rfl) (one_of rfl) (Nat.le_of_ble_eq_true (by rfl)) rfl hw) ?_)
     refine T.nil ?_
     refine T.seq ?_
     refine T.region ?_
     refine T.pure (.int .i64 p1) (by kernel_rfl) (fun _ => by kernel_rfl) ?_
     refine T.pure (.int .i64 p2) (by kernel_rfl) (fun _ => by kernel_rfl) ?_
     refine T.pure (.pointer (some ⟨b3, 1, none⟩)) (by kernel_rfl) (fun _ => by kernel_rfl) ?_
     obtain ⟨e2, hb4, hF⟩ := Option.bind_eq_some_iff.1 hF
     obtain ⟨hi4, hi5, hi6⟩ := idx_some hb4
     refine T.look (.pointer (some ((⟨b3, 1, none⟩ : Addr).add (p1.toNat * 1)))) (by kernel_rfl) (fun w' hh => exec_arrAddr (e := 3) rfl rfl rfl (by kernel_rfl) (by kernel_rfl) hi4 hi5) ?_
     refine T.step (W1.store 0 ((.slice A2 r5.run.length c2) :: (DA16.cells (DA16.set r5.roles p1.toNat p2) ++ (DA16.cells r5.fed))) [box b3 25 ((.slice A2 r5.run.length c2) :: (DA16.cells (DA16.set r5.roles p1.toNat p2) ++ (DA16.cells r5.fed))), row 30 eElem A2 c2 r5.run, box b2 25 ((.slice none 0 0) :: (DA16.cells (DA16.mk 0 0 0 0 0 0 0 0 0 0 0 0 0 0 0 0) ++ (DA16.cells (DA16.mk 0 0 0 0 0 0 0 0 0 0 0 0 0 0 0 0)))), box b1 25 ((.slice A1 p0.run.length c1) :: (DA16.cells p0.roles ++ (DA16.cells p0.fed)))] (by rfl) rfl (by kernel_rfl) (fun w' hw => exec_storeArr (off := 1) r5.roles rfl rfl rfl (by kernel_rfl) (by have := hi5; have e16 : r5.roles.list.length = 16 := rfl; omega) rfl rfl (Nat.le_of_ble_eq_true (by rfl)) hw) ?_)
     refine T.nil ?_
     refine T.seq ?_
     refine T.region ?_
     refine T.look (.agg (List.toArray ((.slice A2 r5.run.length c2) :: (DA16.cells (DA16.set r5.roles p1.toNat p2) ++ (DA16.cells r5.fed))))) (by kernel_rfl) (fun w' hh => exec_loadN (cs := ((.slice A2 r5.run.length c2) :: (DA16.cells (DA16.set r5.roles p1.toNat p2) ++ (DA16.cells r5.fed)))) rfl rfl (by kernel_rfl) (by kernel_rfl) (fun j u hj => (hh.box_at (i := 0) (cs := ((.slice A2 r5.run.length c2) :: (DA16.cells (DA16.set r5.roles p1.toNat p2) ++ (DA16.cells r5.fed)))) (by rfl) 0 j).trans (seg_at (n := 33) (by rfl) hj))) ?_
     refine T.step (W1.store 2 ((.slice A2 r5.run.length c2) :: (DA16.cells (DA16.set r5.roles p1.toNat p2) ++ (DA16.cells r5.fed))) [box b3 25 ((.slice A2 r5.run.length c2) :: (DA16.cells (DA16.set r5.roles p1.toNat p2) ++ (DA16.cells r5.fed))), row 30 eElem A2 c2 r5.run, box b2 25 ((.slice A2 r5.run.length c2) :: (DA16.cells (DA16.set r5.roles p1.toNat p2) ++ (DA16.cells r5.fed))), box b1 25 ((.slice A1 p0.run.length c1) :: (DA16.cells p0.roles ++ (DA16.cells p0.fed)))] (by rfl) rfl (by kernel_rfl) (fun w' hw => exec_store (vs := ((.slice A2 r5.run.length c2) :: (DA16.cells (DA16.set r5.roles p1.toNat p2) ++ (DA16.cells r5.fed)))) rfl rfl rfl rfl (by kernel_rfl) (one_of rfl) (Nat.le_of_ble_eq_true (by rfl)) rfl hw) ?_)
     refine T.pure (.int .i64 0) (by kernel_rfl) (fun _ => by kernel_rfl) ?_
     refine T.nil ?_
     cases hF
     refine T.ret rfl ?_
     first | exact T.ret2 rfl (ResIs.cellN 2 rfl (by rfl) (fun _ => by kernel_rfl) (fun _ => by kernel_rfl)) (ResIs.tmp rfl) fun w' hh => ⟨(A2, c2), rfl, trivial, gives_of (hh.sub (.cons _ (.cons_cons _ (.cons _ (.cons _ List.Sublist.slnil))))) ⟨flat_row (fun _ _ _ _ h => h), trivial⟩⟩ | (unfold Exit.then; dsimp only; exact T.ret2 rfl (ResIs.cellN 2 rfl (by rfl) (fun _ => by kernel_rfl) (fun _ => by kernel_rfl)) (ResIs.tmp rfl) fun w' hh => ⟨(A2, c2), rfl, trivial, gives_of (hh.sub (.cons _ (.cons_cons _ (.cons _ (.cons _ List.Sublist.slnil))))) ⟨flat_row (fun _ _ _ _ h => h), trivial⟩⟩)
set_option maxRecDepth 100000 in
set_option maxHeartbeats 4000000 in
theorem realm_Up_l (F : Nat) (p0 : DBook) (p1 : Int) (r : DBook × Int) (hF : realm_Up F p0 p1 = some r) (w : World) (A1 : Option Addr) (c1 : Nat) (hs1 : SlOk (vw w) eElem A1 c1 p0.run) :
 Calls Try.prog 10 #[.agg (List.toArray ((.slice A1 p0.run.length c1) :: (DA16.cells p0.roles ++ (DA16.cells p0.fed)))), .int .i64 p1] w (fun e w' => ∃ p : Option Addr × Nat, e = .returned (.tuple #[.agg (List.toArray ((.slice p.1 r.1.run.length p.2) :: (DA16.cells r.1.roles ++ (DA16.cells r.1.fed)))), .int .i64 r.2]) ∧ True ∧ Gives w w' [row 30 eElem p.1 p.2 r.1.run]) := by
 unfold realm_Up at hF
 refine T.start (l := [.agg (List.toArray ((.slice A1 p0.run.length c1) :: (DA16.cells p0.roles ++ (DA16.cells p0.fed)))), .int .i64 p1]) Try.func10 rfl rfl rfl ?_
 refine T.seq ?_
 refine T.region ?_
 refine T.step (W1.new 25 ((.slice A1 p0.run.length c1) :: (DA16.cells p0.roles ++ (DA16.cells p0.fed))) (fun b => .pointer (some ⟨b, 0, none⟩)) (by kernel_rfl) (fun _ => by kernel_rfl) (fun b1 => ?_))
 refine T.step (W1.new 25 ((.slice none 0 0) :: (DA16.cells (DA16.mk 0 0 0 0 0 0 0 0 0 0 0 0 0 0 0 0) ++ (DA16.cells (DA16.mk 0 0 0 0 0 0 0 0 0 0 0 0 0 0 0 0)))) (fun b => .pointer (some ⟨b, 0, none⟩)) (by kernel_rfl) (fun _ => by kernel_rfl) (fun b2 => ?_))
 refine T.pure (.int .i64 0) (by kernel_rfl) (fun _ => by kernel_rfl) ?_
 refine T.nil ?_
 refine T.seq ?_
 refine T.seq ?_
 refine T.region ?_
 refine T.look (.agg (List.toArray ((.slice A1 p0.run.length c1) :: (DA16.cells p0.roles ++ (DA16.cells p0.fed))))) (by kernel_rfl) (fun w' hh => exec_loadN (cs := ((.slice A1 p0.run.length c1) :: (DA16.cells p0.roles ++ (DA16.cells p0.fed)))) rfl rfl (by kernel_rfl) (by kernel_rfl) (fun j u hj => (hh.box_at (i := 1) (cs := ((.slice A1 p0.run.length c1) :: (DA16.cells p0.roles ++ (DA16.cells p0.fed)))) (by rfl) 0 j).trans (seg_at (n := 33) (by rfl) hj))) ?_
 refine T.pure (.int .i64 p1) (by kernel_rfl) (fun _ => by kernel_rfl) ?_
 obtain ⟨r1, hb1, hF⟩ := Option.bind_eq_some_iff.1 hF
 refine T.step (W1.call (vSc eInt) r1 18 #[.agg (List.toArray ((.slice A1 p0.run.length c1) :: (DA16.cells p0.roles ++ (DA16.cells p0.fed)))), .int .i64 p1] (by kernel_rfl) (fun _ => by kernel_rfl) (fun w' hh => realm_look_l F p0 p1 r1 hb1 w' A1 c1 (SlOk.mono hs1 hh.view)) ?_)
 intro u V1 hV1 hu
 obtain rfl := sureInt _ _ _ hu
 refine T.pure (.int .i64 r1) (by kernel_rfl) (fun _ => by kernel_rfl) ?_
 refine T.nil ?_
 refine T.seq ?_
 refine T.region ?_
 refine T.pure (.int .i64 r1) (by kernel_rfl) (fun _ => by kernel_rfl) ?_
 refine T.pure (.bool (r1 != 0)) (by kernel_rfl) (fun _ => by kernel_rfl) ?_
 refine T.nil ?_
 refine T.cond (r1 != 0) (by kernel_rfl) (by kernel_rfl) (fun hc1 => ?_) (fun hc1 => ?_)
 ·
  rw [hc1, cond_true] at hF
  refine T.seq ?_
  refine T.region ?_
  refine T.pure (.agg (List.toArray ((.slice none 0 0) :: (DA16.cells (DA16.mk 0 0 0 0 0 0 0 0 0 0 0 0 0 0 0 0) ++ (DA16.cells (DA16.mk 0 0 0 0 0 0 0 0 0 0 0 0 0 0 0 0)))))) (by kernel_rfl) (fun _ => by kernel_rfl) ?_
  refine T.pure (.int .i64 r1) (by kernel_rfl) (fun _ => by kernel_rfl) ?_
  refine T.step (W1.store 0 ((.slice none 0 0) :: (DA16.cells (DA16.mk 0 0 0 0 0 0 0 0 0 0 0 0 0 0 0 0) ++ (DA16.cells (DA16.mk 0 0 0 0 0 0 0 0 0 0 0 0 0 0 0 0)))) [box b2 25 ((.slice none 0 0) :: (DA16.cells (DA16.mk 0 0 0 0 0 0 0 0 0 0 0 0 0 0 0 0) ++ (DA16.cells (DA16.mk 0 0 0 0 0 0 0 0 0 0 0 0 0 0 0 0)))), box b1 25 ((.slice A1 p0.run.length c1) :: (DA16.cells p0.roles ++ (DA16.cells p0.fed)))] (by rfl) rfl (by kernel_rfl) (fun w' hw => exec_store (vs := ((.slice none 0 0) :: (DA16.cells (DA16.mk 0 0 0 0 0 0 0 0 0 0 0 0 0 0 0 0) ++ (DA16.cells (DA16.mk 0 0 0 0 0 0 0 0 0 0 0 0 0 0 0 0))))) rfl rfl rfl rfl (by kernel_rfl) (one_of rfl) (Nat.le_of_ble_eq_true (by rfl)) rfl hw) ?_)
  refine T.pure (.int .i64 r1) (by kernel_rfl) (fun _ => by kernel_rfl) ?_
  refine T.nil ?_
  refine T.rownil 30 eElem ?_
  cases hF
  refine T.ret rfl ?_
  first | exact T.ret2 rfl (ResIs.cellN 1 rfl (by rfl) (fun _ => by kernel_rfl) (fun _ => by kernel_rfl)) (ResIs.tmp rfl) fun w' hh => ⟨(none, 0), rfl, trivial, gives_of (hh.sub (.cons_cons _ (.cons _ (.cons _ List.Sublist.slnil)))) ⟨flat_row (fun _ _ _ _ h => h), trivial⟩⟩ | (unfold Exit.then; dsimp only; exact T.ret2 rfl (ResIs.cellN 1 rfl (by rfl) (fun _ => by kernel_rfl) (fun _ => by kernel_rfl)) (ResIs.tmp rfl) fun w' hh => ⟨(none, 0), rfl, trivial, gives_of (hh.sub (.cons_cons _ (.cons _ (.cons _ List.Sublist.slnil)))) ⟨flat_row (fun _ _ _ _ h => h), trivial⟩⟩)
 ·
  rw [hc1, cond_false] at hF
  refine T.skip_code ?_
  refine T.seq ?_
  refine T.seq ?_
  refine T.region ?_
  refine T.pure (.int .i64 p1) (by kernel_rfl) (fun _ => by kernel_rfl) ?_
  refine T.pure (.pointer (some ⟨b1, 1, none⟩)) (by kernel_rfl) (fun _ => by kernel_rfl) ?_
  obtain ⟨e1, hb2, hF⟩ := Option.bind_eq_some_iff.1 hF
  obtain ⟨hi1, hi2, hi3⟩ := idx_some hb2
  refine T.look (.pointer (some ((⟨b1, 1, none⟩ : Addr).add (p1.toNat * 1)))) (by kernel_rfl) (fun w' hh => exec_arrAddr (e := 3) rfl rfl rfl (by kernel_rfl) (by kernel_rfl) hi1 hi2) ?_
  refine T.look (.int .i64 e1) (by kernel_rfl) (fun w' hh => exec_load1 rfl rfl (by kernel_rfl) (hh.arr_at (i := 1) (by rfl) 1 p0.roles rfl hi3)) ?_
  refine T.pure (.bool (e1 != 2)) (by kernel_rfl) (fun _ => by kernel_rfl) ?_
  refine T.nil ?_
  refine T.cond (e1 != 2) (by kernel_rfl) (by kernel_rfl) (fun hc2 => ?_) (fun hc2 => ?_)
  ·
   rw [hc2, cond_true] at hF
   refine T.seq ?_
   refine T.region ?_
   refine T.pure (.agg (List.toArray ((.slice none 0 0) :: (DA16.cells (DA16.mk 0 0 0 0 0 0 0 0 0 0 0 0 0 0 0 0) ++ (DA16.cells (DA16.mk 0 0 0 0 0 0 0 0 0 0 0 0 0 0 0 0)))))) (by kernel_rfl) (fun _ => by kernel_rfl) ?_
   refine T.step (W1.store 0 ((.slice none 0 0) :: (DA16.cells (DA16.mk 0 0 0 0 0 0 0 0 0 0 0 0 0 0 0 0) ++ (DA16.cells (DA16.mk 0 0 0 0 0 0 0 0 0 0 0 0 0 0 0 0)))) [box b2 25 ((.slice none 0 0) :: (DA16.cells (DA16.mk 0 0 0 0 0 0 0 0 0 0 0 0 0 0 0 0) ++ (DA16.cells (DA16.mk 0 0 0 0 0 0 0 0 0 0 0 0 0 0 0 0)))), box b1 25 ((.slice A1 p0.run.length c1) :: (DA16.cells p0.roles ++ (DA16.cells p0.fed)))] (by rfl) rfl (by kernel_rfl) (fun w' hw => exec_store (vs := ((.slice none 0 0) :: (DA16.cells (DA16.mk 0 0 0 0 0 0 0 0 0 0 0 0 0 0 0 0) ++ (DA16.cells (DA16.mk 0 0 0 0 0 0 0 0 0 0 0 0 0 0 0 0))))) rfl rfl rfl rfl (by kernel_rfl) (one_of rfl) (Nat.le_of_ble_eq_true (by rfl)) rfl hw) ?_)
   refine T.pure (.int .i64 10) (by kernel_rfl) (fun _ => by kernel_rfl) ?_
   refine T.nil ?_
   refine T.rownil 30 eElem ?_
   cases hF
   refine T.ret rfl ?_
   first | exact T.ret2 rfl (ResIs.cellN 1 rfl (by rfl) (fun _ => by kernel_rfl) (fun _ => by kernel_rfl)) (ResIs.tmp rfl) fun w' hh => ⟨(none, 0), rfl, trivial, gives_of (hh.sub (.cons_cons _ (.cons _ (.cons _ List.Sublist.slnil)))) ⟨flat_row (fun _ _ _ _ h => h), trivial⟩⟩ | (unfold Exit.then; dsimp only; exact T.ret2 rfl (ResIs.cellN 1 rfl (by rfl) (fun _ => by kernel_rfl) (fun _ => by kernel_rfl)) (ResIs.tmp rfl) fun w' hh => ⟨(none, 0), rfl, trivial, gives_of (hh.sub (.cons_cons _ (.cons _ (.cons _ List.Sublist.slnil)))) ⟨flat_row (fun _ _ _ _ h => h), trivial⟩⟩)
  ·
   rw [hc2, cond_false] at hF
   refine T.skip_code ?_
   refine T.seq ?_
   refine T.region ?_
   refine T.look (.agg (List.toArray ((.slice A1 p0.run.length c1) :: (DA16.cells p0.roles ++ (DA16.cells p0.fed))))) (by kernel_rfl) (fun w' hh => exec_loadN (cs := ((.slice A1 p0.run.length c1) :: (DA16.cells p0.roles ++ (DA16.cells p0.fed)))) rfl rfl (by kernel_rfl) (by kernel_rfl) (fun j u hj => (hh.box_at (i := 1) (cs := ((.slice A1 p0.run.length c1) :: (DA16.cells p0.roles ++ (DA16.cells p0.fed)))) (by rfl) 0 j).trans (seg_at (n := 33) (by rfl) hj))) ?_
   obtain ⟨r4, hb3, hF⟩ := Option.bind_eq_some_iff.1 hF
   refine T.step (W1.callG 19 #[.agg (List.toArray ((.slice A1 p0.run.length c1) :: (DA16.cells p0.roles ++ (DA16.cells p0.fed))))] (fun p : Option Addr × Nat => .agg (List.toArray ((.slice p.1 r4.run.length p.2) :: (DA16.cells r4.roles ++ (DA16.cells r4.fed))))) (fun p => [row 30 eElem p.1 p.2 r4.run]) (fun _ => True) (by kernel_rfl) (fun _ => by kernel_rfl) (fun w' hh => realm_copied_l p0 r4 hb3 w' A1 c1 (SlOk.mono (SlOk.mono hs1 hV1) hh.view)) ?_)
   rintro ⟨A2, c2⟩ _
   refine T.reH (H' := [row 30 eElem A2 c2 r4.run, box b2 25 ((.slice none 0 0) :: (DA16.cells (DA16.mk 0 0 0 0 0 0 0 0 0 0 0 0 0 0 0 0) ++ (DA16.cells (DA16.mk 0 0 0 0 0 0 0 0 0 0 0 0 0 0 0 0)))), box b1 25 ((.slice A1 p0.run.length c1) :: (DA16.cells p0.roles ++ (DA16.cells p0.fed)))]) (by rfl) ?_
   refine T.step (W1.new 25 ((.slice none 0 0) :: (DA16.cells (DA16.mk 0 0 0 0 0 0 0 0 0 0 0 0 0 0 0 0) ++ (DA16.cells (DA16.mk 0 0 0 0 0 0 0 0 0 0 0 0 0 0 0 0)))) (fun b => .pointer (some ⟨b, 0, none⟩)) (by kernel_rfl) (fun _ => by kernel_rfl) (fun b3 => ?_))
   refine T.step (W1.store 0 ((.slice A2 r4.run.length c2) :: (DA16.cells r4.roles ++ (DA16.cells r4.fed))) [box b3 25 ((.slice A2 r4.run.length c2) :: (DA16.cells r4.roles ++ (DA16.cells r4.fed))), row 30 eElem A2 c2 r4.run, box b2 25 ((.slice none 0 0) :: (DA16.cells (DA16.mk 0 0 0 0 0 0 0 0 0 0 0 0 0 0 0 0) ++ (DA16.cells (DA16.mk 0 0 0 0 0 0 0 0 0 0 0 0 0 0 0 0)))), box b1 25 ((.slice A1 p0.run.length c1) :: (DA16.cells p0.roles ++ (DA16.cells p0.fed)))] (by rfl) rfl (by kernel_rfl) (fun w' hw => exec_store (vs := ((.slice A2 r4.run.length c2) :: (DA16.cells r4.roles ++ (DA16.cells r4.fed)))) rfl rfl rfl rfl (by kernel_rfl) (one_of rfl) (Nat.le_of_ble_eq_true (by rfl)) rfl hw) ?_)
   refine T.nil ?_
   refine T.seq ?_
   refine T.region ?_
   refine T.pure (.int .i64 p1) (by kernel_rfl) (fun _ => by kernel_rfl) ?_
   refine T.pure (.int .i64 p1) (by kernel_rfl) (fun _ => by kernel_rfl) ?_
   refine T.pure (.pointer (some ⟨b3, 1, none⟩)) (by kernel_rfl) (fun _ => by kernel_rfl) ?_
   obtain ⟨e2, hb4, hF⟩ := Option.bind_eq_some_iff.1 hF
   obtain ⟨hi4, hi5, hi6⟩ := idx_some hb4
   refine T.look (.pointer (some ((⟨b3, 1, none⟩ : Addr).add (p1.toNat * 1)))) (by kernel_rfl) (fun w' hh => exec_arrAddr (e := 3) rfl rfl rfl (by kernel_rfl) (by kernel_rfl) hi4 hi5) ?_
   refine T.step (W1.store 0 ((.slice A2 r4.run.length c2) :: (DA16.cells (DA16.set r4.roles p1.toNat (1 : Int)) ++ (DA16.cells r4.fed))) [box b3 25 ((.slice A2 r4.run.length c2) :: (DA16.cells (DA16.set r4.roles p1.toNat (1 : Int)) ++ (DA16.cells r4.fed))), row 30 eElem A2 c2 r4.run, box b2 25 ((.slice none 0 0) :: (DA16.cells (DA16.mk 0 0 0 0 0 0 0 0 0 0 0 0 0 0 0 0) ++ (DA16.cells (DA16.mk 0 0 0 0 0 0 0 0 0 0 0 0 0 0 0 0)))), box b1 25 ((.slice A1 p0.run.length c1) :: (DA16.cells p0.roles ++ (DA16.cells p0.fed)))] (by rfl) rfl (by kernel_rfl) (fun w' hw => exec_storeArr (off := 1) r4.roles rfl rfl rfl (by kernel_rfl) (by have := hi5; have e16 : r4.roles.list.length = 16 := rfl; omega) rfl rfl (Nat.le_of_ble_eq_true (by rfl)) hw) ?_)
   refine T.pure (.pointer (some ⟨b3, 17, none⟩)) (by kernel_rfl) (fun _ => by kernel_rfl) ?_
   obtain ⟨e3, hb5, hF⟩ := Option.bind_eq_some_iff.1 hF
   obtain ⟨hi7, hi8, hi9⟩ := idx_some hb5
   refine T.look (.pointer (some ((⟨b3, 17, none⟩ : Addr).add (p1.toNat * 1)))) (by kernel_rfl) (fun w' hh => exec_arrAddr (e := 3) rfl rfl rfl (by kernel_rfl) (by kernel_rfl) hi7 hi8) ?_
   refine T.step (W1.store 0 ((.slice A2 r4.run.length c2) :: (DA16.cells (DA16.set r4.roles p1.toNat (1 : Int)) ++ (DA16.cells (DA16.set r4.fed p1.toNat (0 : Int))))) [box b3 25 ((.slice A2 r4.run.length c2) :: (DA16.cells (DA16.set r4.roles p1.toNat (1 : Int)) ++ (DA16.cells (DA16.set r4.fed p1.toNat (0 : Int))))), row 30 eElem A2 c2 r4.run, box b2 25 ((.slice none 0 0) :: (DA16.cells (DA16.mk 0 0 0 0 0 0 0 0 0 0 0 0 0 0 0 0) ++ (DA16.cells (DA16.mk 0 0 0 0 0 0 0 0 0 0 0 0 0 0 0 0)))), box b1 25 ((.slice A1 p0.run.length c1) :: (DA16.cells p0.roles ++ (DA16.cells p0.fed)))] (by rfl) rfl (by kernel_rfl) (fun w' hw => exec_storeArr (off := 17) r4.fed rfl rfl rfl (by kernel_rfl) (by have := hi8; have e16 : r4.fed.list.length = 16 := rfl; omega) rfl rfl (Nat.le_of_ble_eq_true (by rfl)) hw) ?_)
   refine T.nil ?_
   refine T.seq ?_
   refine T.region ?_
   refine T.look (.agg (List.toArray ((.slice A2 r4.run.length c2) :: (DA16.cells (DA16.set r4.roles p1.toNat (1 : Int)) ++ (DA16.cells (DA16.set r4.fed p1.toNat (0 : Int))))))) (by kernel_rfl) (fun w' hh => exec_loadN (cs := ((.slice A2 r4.run.length c2) :: (DA16.cells (DA16.set r4.roles p1.toNat (1 : Int)) ++ (DA16.cells (DA16.set r4.fed p1.toNat (0 : Int)))))) rfl rfl (by kernel_rfl) (by kernel_rfl) (fun j u hj => (hh.box_at (i := 0) (cs := ((.slice A2 r4.run.length c2) :: (DA16.cells (DA16.set r4.roles p1.toNat (1 : Int)) ++ (DA16.cells (DA16.set r4.fed p1.toNat (0 : Int)))))) (by rfl) 0 j).trans (seg_at (n := 33) (by rfl) hj))) ?_
   refine T.step (W1.store 2 ((.slice A2 r4.run.length c2) :: (DA16.cells (DA16.set r4.roles p1.toNat (1 : Int)) ++ (DA16.cells (DA16.set r4.fed p1.toNat (0 : Int))))) [box b3 25 ((.slice A2 r4.run.length c2) :: (DA16.cells (DA16.set r4.roles p1.toNat (1 : Int)) ++ (DA16.cells (DA16.set r4.fed p1.toNat (0 : Int))))), row 30 eElem A2 c2 r4.run, box b2 25 ((.slice A2 r4.run.length c2) :: (DA16.cells (DA16.set r4.roles p1.toNat (1 : Int)) ++ (DA16.cells (DA16.set r4.fed p1.toNat (0 : Int))))), box b1 25 ((.slice A1 p0.run.length c1) :: (DA16.cells p0.roles ++ (DA16.cells p0.fed)))] (by rfl) rfl (by kernel_rfl) (fun w' hw => exec_store (vs := ((.slice A2 r4.run.length c2) :: (DA16.cells (DA16.set r4.roles p1.toNat (1 : Int)) ++ (DA16.cells (DA16.set r4.fed p1.toNat (0 : Int)))))) rfl rfl rfl rfl (by kernel_rfl) (one_of rfl) (Nat.le_of_ble_eq_true (by rfl)) rfl hw) ?_)
   refine T.pure (.int .i64 0) (by kernel_rfl) (fun _ => by kernel_rfl) ?_
   refine T.nil ?_
   cases hF
   refine T.ret rfl ?_
   first | exact T.ret2 rfl (ResIs.cellN 2 rfl (by rfl) (fun _ => by kernel_rfl) (fun _ => by kernel_rfl)) (ResIs.tmp rfl) fun w' hh => ⟨(A2, c2), rfl, trivial, gives_of (hh.sub (.cons _ (.cons_cons _ (.cons _ (.cons _ List.Sublist.slnil))))) ⟨flat_row (fun _ _ _ _ h => h), trivial⟩⟩ | (unfold Exit.then; dsimp only; exact T.ret2 rfl (ResIs.cellN 2 rfl (by rfl) (fun _ => by kernel_rfl) (fun _ => by kernel_rfl)) (ResIs.tmp rfl) fun w' hh => ⟨(A2, c2), rfl, trivial, gives_of (hh.sub (.cons _ (.cons_cons _ (.cons _ (.cons _ List.Sublist.slnil))))) ⟨flat_row (fun _ _ _ _ h => h), trivial⟩⟩)
set_option maxRecDepth 100000 in
set_option maxHeartbeats 4000000 in
theorem realm_Down_l (F : Nat) (p0 : DBook) (p1 : Int) (r : DBook × Int) (hF : realm_Down F p0 p1 = some r) (w : World) (A1 : Option Addr) (c1 : Nat) (hs1 : SlOk (vw w) eElem A1 c1 p0.run) :
 Calls Try.prog 11 #[.agg (List.toArray ((.slice A1 p0.run.length c1) :: (DA16.cells p0.roles ++ (DA16.cells p0.fed)))), .int .i64 p1] w (fun e w' => ∃ p : Option Addr × Nat, e = .returned (.tuple #[.agg (List.toArray ((.slice p.1 r.1.run.length p.2) :: (DA16.cells r.1.roles ++ (DA16.cells r.1.fed)))), .int .i64 r.2]) ∧ True ∧ Gives w w' [row 30 eElem p.1 p.2 r.1.run]) := by
 unfold realm_Down at hF
 refine T.start (l := [.agg (List.toArray ((.slice A1 p0.run.length c1) :: (DA16.cells p0.roles ++ (DA16.cells p0.fed)))), .int .i64 p1]) Try.func11 rfl rfl rfl ?_
 refine T.seq ?_
 refine T.region ?_
 refine T.step (W1.new 25 ((.slice A1 p0.run.length c1) :: (DA16.cells p0.roles ++ (DA16.cells p0.fed))) (fun b => .pointer (some ⟨b, 0, none⟩)) (by kernel_rfl) (fun _ => by kernel_rfl) (fun b1 => ?_))
 refine T.step (W1.new 25 ((.slice none 0 0) :: (DA16.cells (DA16.mk 0 0 0 0 0 0 0 0 0 0 0 0 0 0 0 0) ++ (DA16.cells (DA16.mk 0 0 0 0 0 0 0 0 0 0 0 0 0 0 0 0)))) (fun b => .pointer (some ⟨b, 0, none⟩)) (by kernel_rfl) (fun _ => by kernel_rfl) (fun b2 => ?_))
 refine T.pure (.int .i64 0) (by kernel_rfl) (fun _ => by kernel_rfl) ?_
 refine T.nil ?_
 refine T.seq ?_
 refine T.seq ?_
 refine T.region ?_
 refine T.look (.agg (List.toArray ((.slice A1 p0.run.length c1) :: (DA16.cells p0.roles ++ (DA16.cells p0.fed))))) (by kernel_rfl) (fun w' hh => exec_loadN (cs := ((.slice A1 p0.run.length c1) :: (DA16.cells p0.roles ++ (DA16.cells p0.fed)))) rfl rfl (by kernel_rfl) (by kernel_rfl) (fun j u hj => (hh.box_at (i := 1) (cs := ((.slice A1 p0.run.length c1) :: (DA16.cells p0.roles ++ (DA16.cells p0.fed)))) (by rfl) 0 j).trans (seg_at (n := 33) (by rfl) hj))) ?_
 refine T.pure (.int .i64 p1) (by kernel_rfl) (fun _ => by kernel_rfl) ?_
 obtain ⟨r1, hb1, hF⟩ := Option.bind_eq_some_iff.1 hF
 refine T.step (W1.call (vSc eInt) r1 18 #[.agg (List.toArray ((.slice A1 p0.run.length c1) :: (DA16.cells p0.roles ++ (DA16.cells p0.fed)))), .int .i64 p1] (by kernel_rfl) (fun _ => by kernel_rfl) (fun w' hh => realm_look_l F p0 p1 r1 hb1 w' A1 c1 (SlOk.mono hs1 hh.view)) ?_)
 intro u V1 hV1 hu
 obtain rfl := sureInt _ _ _ hu
 refine T.pure (.int .i64 r1) (by kernel_rfl) (fun _ => by kernel_rfl) ?_
 refine T.nil ?_
 refine T.seq ?_
 refine T.region ?_
 refine T.pure (.int .i64 r1) (by kernel_rfl) (fun _ => by kernel_rfl) ?_
 refine T.pure (.bool (r1 != 0)) (by kernel_rfl) (fun _ => by kernel_rfl) ?_
 refine T.nil ?_
 refine T.cond (r1 != 0) (by kernel_rfl) (by kernel_rfl) (fun hc1 => ?_) (fun hc1 => ?_)
 ·
  rw [hc1, cond_true] at hF
  refine T.seq ?_
  refine T.region ?_
  refine T.pure (.agg (List.toArray ((.slice none 0 0) :: (DA16.cells (DA16.mk 0 0 0 0 0 0 0 0 0 0 0 0 0 0 0 0) ++ (DA16.cells (DA16.mk 0 0 0 0 0 0 0 0 0 0 0 0 0 0 0 0)))))) (by kernel_rfl) (fun _ => by kernel_rfl) ?_
  refine T.pure (.int .i64 r1) (by kernel_rfl) (fun _ => by kernel_rfl) ?_
  refine T.step (W1.store 0 ((.slice none 0 0) :: (DA16.cells (DA16.mk 0 0 0 0 0 0 0 0 0 0 0 0 0 0 0 0) ++ (DA16.cells (DA16.mk 0 0 0 0 0 0 0 0 0 0 0 0 0 0 0 0)))) [box b2 25 ((.slice none 0 0) :: (DA16.cells (DA16.mk 0 0 0 0 0 0 0 0 0 0 0 0 0 0 0 0) ++ (DA16.cells (DA16.mk 0 0 0 0 0 0 0 0 0 0 0 0 0 0 0 0)))), box b1 25 ((.slice A1 p0.run.length c1) :: (DA16.cells p0.roles ++ (DA16.cells p0.fed)))] (by rfl) rfl (by kernel_rfl) (fun w' hw => exec_store (vs := ((.slice none 0 0) :: (DA16.cells (DA16.mk 0 0 0 0 0 0 0 0 0 0 0 0 0 0 0 0) ++ (DA16.cells (DA16.mk 0 0 0 0 0 0 0 0 0 0 0 0 0 0 0 0))))) rfl rfl rfl rfl (by kernel_rfl) (one_of rfl) (Nat.le_of_ble_eq_true (by rfl)) rfl hw) ?_)
  refine T.pure (.int .i64 r1) (by kernel_rfl) (fun _ => by kernel_rfl) ?_
  refine T.nil ?_
  refine T.rownil 30 eElem ?_
  cases hF
  refine T.ret rfl ?_
  first | exact T.ret2 rfl (ResIs.cellN 1 rfl (by rfl) (fun _ => by kernel_rfl) (fun _ => by kernel_rfl)) (ResIs.tmp rfl) fun w' hh => ⟨(none, 0), rfl, trivial, gives_of (hh.sub (.cons_cons _ (.cons _ (.cons _ List.Sublist.slnil)))) ⟨flat_row (fun _ _ _ _ h => h), trivial⟩⟩ | (unfold Exit.then; dsimp only; exact T.ret2 rfl (ResIs.cellN 1 rfl (by rfl) (fun _ => by kernel_rfl) (fun _ => by kernel_rfl)) (ResIs.tmp rfl) fun w' hh => ⟨(none, 0), rfl, trivial, gives_of (hh.sub (.cons_cons _ (.cons _ (.cons _ List.Sublist.slnil)))) ⟨flat_row (fun _ _ _ _ h => h), trivial⟩⟩)
 ·
  rw [hc1, cond_false] at hF
  refine T.skip_code ?_
  refine T.seq ?_
  refine T.seq ?_
  refine T.region ?_
  refine T.pure (.int .i64 p1) (by kernel_rfl) (fun _ => by kernel_rfl) ?_
  refine T.pure (.pointer (some ⟨b1, 1, none⟩)) (by kernel_rfl) (fun _ => by kernel_rfl) ?_
  obtain ⟨e1, hb2, hF⟩ := Option.bind_eq_some_iff.1 hF
  obtain ⟨hi1, hi2, hi3⟩ := idx_some hb2
  refine T.look (.pointer (some ((⟨b1, 1, none⟩ : Addr).add (p1.toNat * 1)))) (by kernel_rfl) (fun w' hh => exec_arrAddr (e := 3) rfl rfl rfl (by kernel_rfl) (by kernel_rfl) hi1 hi2) ?_
  refine T.look (.int .i64 e1) (by kernel_rfl) (fun w' hh => exec_load1 rfl rfl (by kernel_rfl) (hh.arr_at (i := 1) (by rfl) 1 p0.roles rfl hi3)) ?_
  refine T.pure (.bool (e1 != 1)) (by kernel_rfl) (fun _ => by kernel_rfl) ?_
  refine T.nil ?_
  refine T.cond (e1 != 1) (by kernel_rfl) (by kernel_rfl) (fun hc2 => ?_) (fun hc2 => ?_)
  ·
   rw [hc2, cond_true] at hF
   refine T.seq ?_
   refine T.region ?_
   refine T.pure (.agg (List.toArray ((.slice none 0 0) :: (DA16.cells (DA16.mk 0 0 0 0 0 0 0 0 0 0 0 0 0 0 0 0) ++ (DA16.cells (DA16.mk 0 0 0 0 0 0 0 0 0 0 0 0 0 0 0 0)))))) (by kernel_rfl) (fun _ => by kernel_rfl) ?_
   refine T.step (W1.store 0 ((.slice none 0 0) :: (DA16.cells (DA16.mk 0 0 0 0 0 0 0 0 0 0 0 0 0 0 0 0) ++ (DA16.cells (DA16.mk 0 0 0 0 0 0 0 0 0 0 0 0 0 0 0 0)))) [box b2 25 ((.slice none 0 0) :: (DA16.cells (DA16.mk 0 0 0 0 0 0 0 0 0 0 0 0 0 0 0 0) ++ (DA16.cells (DA16.mk 0 0 0 0 0 0 0 0 0 0 0 0 0 0 0 0)))), box b1 25 ((.slice A1 p0.run.length c1) :: (DA16.cells p0.roles ++ (DA16.cells p0.fed)))] (by rfl) rfl (by kernel_rfl) (fun w' hw => exec_store (vs := ((.slice none 0 0) :: (DA16.cells (DA16.mk 0 0 0 0 0 0 0 0 0 0 0 0 0 0 0 0) ++ (DA16.cells (DA16.mk 0 0 0 0 0 0 0 0 0 0 0 0 0 0 0 0))))) rfl rfl rfl rfl (by kernel_rfl) (one_of rfl) (Nat.le_of_ble_eq_true (by rfl)) rfl hw) ?_)
   refine T.pure (.int .i64 10) (by kernel_rfl) (fun _ => by kernel_rfl) ?_
   refine T.nil ?_
   refine T.rownil 30 eElem ?_
   cases hF
   refine T.ret rfl ?_
   first | exact T.ret2 rfl (ResIs.cellN 1 rfl (by rfl) (fun _ => by kernel_rfl) (fun _ => by kernel_rfl)) (ResIs.tmp rfl) fun w' hh => ⟨(none, 0), rfl, trivial, gives_of (hh.sub (.cons_cons _ (.cons _ (.cons _ List.Sublist.slnil)))) ⟨flat_row (fun _ _ _ _ h => h), trivial⟩⟩ | (unfold Exit.then; dsimp only; exact T.ret2 rfl (ResIs.cellN 1 rfl (by rfl) (fun _ => by kernel_rfl) (fun _ => by kernel_rfl)) (ResIs.tmp rfl) fun w' hh => ⟨(none, 0), rfl, trivial, gives_of (hh.sub (.cons_cons _ (.cons _ (.cons _ List.Sublist.slnil)))) ⟨flat_row (fun _ _ _ _ h => h), trivial⟩⟩)
  ·
   rw [hc2, cond_false] at hF
   refine T.skip_code ?_
   refine T.seq ?_
   refine T.region ?_
   refine T.look (.agg (List.toArray ((.slice A1 p0.run.length c1) :: (DA16.cells p0.roles ++ (DA16.cells p0.fed))))) (by kernel_rfl) (fun w' hh => exec_loadN (cs := ((.slice A1 p0.run.length c1) :: (DA16.cells p0.roles ++ (DA16.cells p0.fed)))) rfl rfl (by kernel_rfl) (by kernel_rfl) (fun j u hj => (hh.box_at (i := 1) (cs := ((.slice A1 p0.run.length c1) :: (DA16.cells p0.roles ++ (DA16.cells p0.fed)))) (by rfl) 0 j).trans (seg_at (n := 33) (by rfl) hj))) ?_
   obtain ⟨r4, hb3, hF⟩ := Option.bind_eq_some_iff.1 hF
   refine T.step (W1.callG 19 #[.agg (List.toArray ((.slice A1 p0.run.length c1) :: (DA16.cells p0.roles ++ (DA16.cells p0.fed))))] (fun p : Option Addr × Nat => .agg (List.toArray ((.slice p.1 r4.run.length p.2) :: (DA16.cells r4.roles ++ (DA16.cells r4.fed))))) (fun p => [row 30 eElem p.1 p.2 r4.run]) (fun _ => True) (by kernel_rfl) (fun _ => by kernel_rfl) (fun w' hh => realm_copied_l p0 r4 hb3 w' A1 c1 (SlOk.mono (SlOk.mono hs1 hV1) hh.view)) ?_)
   rintro ⟨A2, c2⟩ _
   refine T.reH (H' := [row 30 eElem A2 c2 r4.run, box b2 25 ((.slice none 0 0) :: (DA16.cells (DA16.mk 0 0 0 0 0 0 0 0 0 0 0 0 0 0 0 0) ++ (DA16.cells (DA16.mk 0 0 0 0 0 0 0 0 0 0 0 0 0 0 0 0)))), box b1 25 ((.slice A1 p0.run.length c1) :: (DA16.cells p0.roles ++ (DA16.cells p0.fed)))]) (by rfl) ?_
   refine T.step (W1.new 25 ((.slice none 0 0) :: (DA16.cells (DA16.mk 0 0 0 0 0 0 0 0 0 0 0 0 0 0 0 0) ++ (DA16.cells (DA16.mk 0 0 0 0 0 0 0 0 0 0 0 0 0 0 0 0)))) (fun b => .pointer (some ⟨b, 0, none⟩)) (by kernel_rfl) (fun _ => by kernel_rfl) (fun b3 => ?_))
   refine T.step (W1.store 0 ((.slice A2 r4.run.length c2) :: (DA16.cells r4.roles ++ (DA16.cells r4.fed))) [box b3 25 ((.slice A2 r4.run.length c2) :: (DA16.cells r4.roles ++ (DA16.cells r4.fed))), row 30 eElem A2 c2 r4.run, box b2 25 ((.slice none 0 0) :: (DA16.cells (DA16.mk 0 0 0 0 0 0 0 0 0 0 0 0 0 0 0 0) ++ (DA16.cells (DA16.mk 0 0 0 0 0 0 0 0 0 0 0 0 0 0 0 0)))), box b1 25 ((.slice A1 p0.run.length c1) :: (DA16.cells p0.roles ++ (DA16.cells p0.fed)))] (by rfl) rfl (by kernel_rfl) (fun w' hw => exec_store (vs := ((.slice A2 r4.run.length c2) :: (DA16.cells r4.roles ++ (DA16.cells r4.fed)))) rfl rfl rfl rfl (by kernel_rfl) (one_of rfl) (Nat.le_of_ble_eq_true (by rfl)) rfl hw) ?_)
   refine T.nil ?_
   refine T.seq ?_
   refine T.region ?_
   refine T.pure (.pointer (some ⟨b1, 0, none⟩)) (by kernel_rfl) (fun _ => by kernel_rfl) ?_
   refine T.look (.slice A1 p0.run.length c1) (by kernel_rfl) (fun w' hh => exec_load1 rfl rfl (by kernel_rfl) (hh.cellBox (i := 3) (by rfl) 0)) ?_
   refine T.pure (.int .i64 p1) (by kernel_rfl) (fun _ => by kernel_rfl) ?_
   obtain ⟨q1, hX1, hF⟩ := Option.bind_eq_some_iff.1 hF
   refine T.step (W1.within 20 [.slice A1 p0.run.length c1, .int .i64 p1] (fun v w' => ∃ (z1 : List DElem) (z2 : List DElem) (z3 : List DElem), q1 = (z1, z2, z3) ∧ ∃ (A3 : Option Addr) (c3 : Nat) (A4 : Option Addr) (c4 : Nat) (A5 : Option Addr) (c5 : Nat) (V2 : View), View.le V1 V2 ∧ SlOk V2 eElem A3 c3 z1 ∧ SlOk V2 eElem A4 c4 z2 ∧ SlOk V2 eElem A5 c5 z3 ∧ v = .tuple #[.slice A3 z1.length c3, .slice A4 z2.length c4, .slice A5 z3.length c5] ∧ Hp w V2 [box b3 25 ((.slice A2 r4.run.length c2) :: (DA16.cells r4.roles ++ (DA16.cells r4.fed))), row 30 eElem A2 c2 r4.run, box b2 25 ((.slice none 0 0) :: (DA16.cells (DA16.mk 0 0 0 0 0 0 0 0 0 0 0 0 0 0 0 0) ++ (DA16.cells (DA16.mk 0 0 0 0 0 0 0 0 0 0 0 0 0 0 0 0)))), box b1 25 ((.slice A1 p0.run.length c1) :: (DA16.cells p0.roles ++ (DA16.cells p0.fed)))] w') Try.func20 rfl rfl (by kernel_rfl) (fun _ => by kernel_rfl) rfl ?_ ?_)
   ·
    refine T.seq ?_
    refine T.region ?_
    refine T.pure (.slice none 0 0) (by kernel_rfl) (fun _ => by kernel_rfl) ?_
    refine T.pure (.slice none 0 0) (by kernel_rfl) (fun _ => by kernel_rfl) ?_
    refine T.pure (.slice none 0 0) (by kernel_rfl) (fun _ => by kernel_rfl) ?_
    refine T.nil ?_
    refine T.seq ?_
    refine T.region ?_
    refine T.pure (.int .i64 0) (by kernel_rfl) (fun _ => by kernel_rfl) ?_
    refine T.nil ?_
    obtain ⟨z4, hz1, hX1⟩ := Option.bind_eq_some_iff.1 hX1
    refine T.cut (fun a w' => Fr 52 [(0, .slice A1 p0.run.length c1), (1, .int .i64 p1), (7, .int .i64 z4)] a ∧ Hp w V1 [box b3 25 ((.slice A2 r4.run.length c2) :: (DA16.cells r4.roles ++ (DA16.cells r4.fed))), row 30 eElem A2 c2 r4.run, box b2 25 ((.slice none 0 0) :: (DA16.cells (DA16.mk 0 0 0 0 0 0 0 0 0 0 0 0 0 0 0 0) ++ (DA16.cells (DA16.mk 0 0 0 0 0 0 0 0 0 0 0 0 0 0 0 0)))), box b1 25 ((.slice A1 p0.run.length c1) :: (DA16.cells p0.roles ++ (DA16.cells p0.fed)))] w') ?_ ?_
    ·
     refine T.block ?_
     refine T.iter (fun x1 a w' => Fr 52 [(0, .slice A1 p0.run.length c1), (1, .int .i64 p1), (7, .int .i64 x1)] a ∧ Hp w V1 [box b3 25 ((.slice A2 r4.run.length c2) :: (DA16.cells r4.roles ++ (DA16.cells r4.fed))), row 30 eElem A2 c2 r4.run, box b2 25 ((.slice none 0 0) :: (DA16.cells (DA16.mk 0 0 0 0 0 0 0 0 0 0 0 0 0 0 0 0) ++ (DA16.cells (DA16.mk 0 0 0 0 0 0 0 0 0 0 0 0 0 0 0 0)))), box b1 25 ((.slice A1 p0.run.length c1) :: (DA16.cells p0.roles ++ (DA16.cells p0.fed)))] w') hz1 ?_ ?_
     ·
      exact fun a w' hf hh => And.intro ((((Fr.nil hf).pick hf 7 rfl).pick hf 1 rfl).pick hf 0 rfl) (hh.sub (.cons_cons _ (.cons_cons _ (.cons_cons _ (.cons_cons _ List.Sublist.slnil)))))
     ·
      rintro x1 y1 hY1 hr1 a w' ⟨hf, hh⟩
      refine (?_ : T 52 w V1 [box b3 25 ((.slice A2 r4.run.length c2) :: (DA16.cells r4.roles ++ (DA16.cells r4.fed))), row 30 eElem A2 c2 r4.run, box b2 25 ((.slice none 0 0) :: (DA16.cells (DA16.mk 0 0 0 0 0 0 0 0 0 0 0 0 0 0 0 0) ++ (DA16.cells (DA16.mk 0 0 0 0 0 0 0 0 0 0 0 0 0 0 0 0)))), box b1 25 ((.slice A1 p0.run.length c1) :: (DA16.cells p0.roles ++ (DA16.cells p0.fed)))] [(0, .slice A1 p0.run.length c1), (1, .int .i64 p1), (7, .int .i64 x1)] _) a w' hf hh
      clear hf hh
      try dsimp only at hY1
      refine T.seq ?_
      obtain ⟨z5, hX2, hY1⟩ := Option.bind_eq_some_iff.1 hY1
      refine T.cut (fun a w' => Fr 52 [(0, .slice A1 p0.run.length c1), (1, .int .i64 p1), (7, .int .i64 x1), (22, .bool z5)] a ∧ Hp w V1 [box b3 25 ((.slice A2 r4.run.length c2) :: (DA16.cells r4.roles ++ (DA16.cells r4.fed))), row 30 eElem A2 c2 r4.run, box b2 25 ((.slice none 0 0) :: (DA16.cells (DA16.mk 0 0 0 0 0 0 0 0 0 0 0 0 0 0 0 0) ++ (DA16.cells (DA16.mk 0 0 0 0 0 0 0 0 0 0 0 0 0 0 0 0)))), box b1 25 ((.slice A1 p0.run.length c1) :: (DA16.cells p0.roles ++ (DA16.cells p0.fed)))] w') ?_ ?_
      ·
       refine T.region ?_
       refine T.pure (.int .i64 x1) (by kernel_rfl) (fun _ => by kernel_rfl) ?_
       refine T.pure (.slice A1 p0.run.length c1) (by kernel_rfl) (fun _ => by kernel_rfl) ?_
       refine T.pure (.int .i64 (p0.run.length : Int)) (by kernel_rfl) (fun _ => by kernel_rfl) ?_
       refine T.pure (.bool (decide (x1 < (p0.run.length : Int)))) (by kernel_rfl) (fun _ => by kernel_rfl) ?_
       refine T.pure (.bool (decide (x1 < (p0.run.length : Int)))) (by kernel_rfl) (fun _ => by kernel_rfl) ?_
       cases hg1 : decide (x1 < (p0.run.length : Int))
       ·
        skip
        rw [hg1, cond_false] at hX2
        refine T.pass (by kernel_rfl) (by kernel_rfl) ?_
        refine T.pass (by kernel_rfl) (by kernel_rfl) ?_
        refine T.pass (by kernel_rfl) (by kernel_rfl) ?_
        refine T.pass (by kernel_rfl) (by kernel_rfl) ?_
        refine T.pass (by kernel_rfl) (by kernel_rfl) ?_
        refine T.pass (by kernel_rfl) (by kernel_rfl) ?_
        refine T.pass (by kernel_rfl) (by kernel_rfl) ?_
        refine T.pass (by kernel_rfl) (by kernel_rfl) ?_
        refine T.pure (.bool false) (by kernel_rfl) (fun _ => by kernel_rfl) ?_
        refine T.nil ?_
        cases hX2
        exact fun a w' hf hh => And.intro (((((Fr.nil hf).pick hf 22 rfl).pick hf 7 rfl).pick hf 1 rfl).pick hf 0 rfl) (hh.sub (.cons_cons _ (.cons_cons _ (.cons_cons _ (.cons_cons _ List.Sublist.slnil)))))
       ·
        skip
        rw [hg1, cond_true] at hX2
        refine T.pure (.slice A1 p0.run.length c1) (by kernel_rfl) (fun _ => by kernel_rfl) ?_
        refine T.pure (.int .i64 x1) (by kernel_rfl) (fun _ => by kernel_rfl) ?_
        obtain ⟨e2, hb4, hX2⟩ := Option.bind_eq_some_iff.1 hX2
        obtain ⟨hi4, hi5, hi6⟩ := idx_some hb4
        refine T.look (.pointer (some ((sadr A1).add (x1.toNat * 6)))) (by kernel_rfl) (fun w' hh => exec_indexAddr (e := 30) (s := 6) rfl rfl rfl (by kernel_rfl) (by kernel_rfl) hi4 hi5 ((SlOk.mono hs1 hV1).some_ hi6 (by decide))) ?_
        refine T.pure (.pointer (some ((sadr A1).add (x1.toNat * 6)))) (by kernel_rfl) (fun _ => by kernel_rfl) ?_
        refine T.pure (.pointer (some ((sadr A1).add (x1.toNat * 6)))) (by kernel_rfl) (fun _ => by kernel_rfl) ?_
        refine T.look (.int .i64 e2.key.pfs) (by kernel_rfl) (fun w' hh => exec_load1 rfl rfl (by kernel_rfl) (hh.cell_view (SlOk.cellF0 (E := eElem) (SlOk.mono hs1 hV1) hi6 (fun _ _ _ h => h) rfl))) ?_
        refine T.pure (.int .i64 p1) (by kernel_rfl) (fun _ => by kernel_rfl) ?_
        refine T.pure (.bool (decide (e2.key.pfs < p1))) (by kernel_rfl) (fun _ => by kernel_rfl) ?_
        refine T.pure (.bool (decide (e2.key.pfs < p1))) (by kernel_rfl) (fun _ => by kernel_rfl) ?_
        refine T.nil ?_
        cases hX2
        exact fun a w' hf hh => And.intro (((((Fr.nil hf).pick hf 22 rfl).pick hf 7 rfl).pick hf 1 rfl).pick hf 0 rfl) (hh.sub (.cons_cons _ (.cons_cons _ (.cons_cons _ (.cons_cons _ List.Sublist.slnil)))))
      ·
       rintro a w' ⟨hf, hh⟩
       refine (?_ : T 52 w V1 [box b3 25 ((.slice A2 r4.run.length c2) :: (DA16.cells r4.roles ++ (DA16.cells r4.fed))), row 30 eElem A2 c2 r4.run, box b2 25 ((.slice none 0 0) :: (DA16.cells (DA16.mk 0 0 0 0 0 0 0 0 0 0 0 0 0 0 0 0) ++ (DA16.cells (DA16.mk 0 0 0 0 0 0 0 0 0 0 0 0 0 0 0 0)))), box b1 25 ((.slice A1 p0.run.length c1) :: (DA16.cells p0.roles ++ (DA16.cells p0.fed)))] [(0, .slice A1 p0.run.length c1), (1, .int .i64 p1), (7, .int .i64 x1), (22, .bool z5)] _) a w' hf hh
       clear hf hh
       refine T.cond z5 (by kernel_rfl) (by kernel_rfl) (fun hc3 => ?_) (fun hc3 => ?_)
       ·
        rw [hc3, cond_true] at hY1
        refine T.skip_code ?_
        refine T.block ?_
        refine T.region ?_
        refine T.pure (.int .i64 x1) (by kernel_rfl) (fun _ => by kernel_rfl) ?_
        refine T.pure (.int .i64 (IntKind.i64.wrap (x1 + 1))) (by kernel_rfl) (fun _ => by kernel_rfl) ?_
        refine T.pure (.int .i64 (IntKind.i64.wrap (x1 + 1))) (by kernel_rfl) (fun _ => by kernel_rfl) ?_
        refine T.nil ?_
        cases hY1
        exact fun a w' hf hh => Exists.intro (IntKind.i64.wrap (x1 + 1)) (And.intro rfl (And.intro ((((Fr.nil hf).pick hf 7 rfl).pick hf 1 rfl).pick hf 0 rfl) (hh.sub (.cons_cons _ (.cons_cons _ (.cons_cons _ (.cons_cons _ List.Sublist.slnil)))))))
       ·
        rw [hc3, cond_false] at hY1
        refine T.exit ?_
        cases hY1
        cases (hr1 _ rfl)
        exact fun a w' hf hh => And.intro ((((Fr.nil hf).pick hf 7 rfl).pick hf 1 rfl).pick hf 0 rfl) (hh.sub (.cons_cons _ (.cons_cons _ (.cons_cons _ (.cons_cons _ List.Sublist.slnil)))))
    ·
     rintro a w' ⟨hf, hh⟩
     refine (?_ : T 52 w V1 [box b3 25 ((.slice A2 r4.run.length c2) :: (DA16.cells r4.roles ++ (DA16.cells r4.fed))), row 30 eElem A2 c2 r4.run, box b2 25 ((.slice none 0 0) :: (DA16.cells (DA16.mk 0 0 0 0 0 0 0 0 0 0 0 0 0 0 0 0) ++ (DA16.cells (DA16.mk 0 0 0 0 0 0 0 0 0 0 0 0 0 0 0 0)))), box b1 25 ((.slice A1 p0.run.length c1) :: (DA16.cells p0.roles ++ (DA16.cells p0.fed)))] [(0, .slice A1 p0.run.length c1), (1, .int .i64 p1), (7, .int .i64 z4)] _) a w' hf hh
     clear hf hh
     refine T.seq ?_
     refine T.region ?_
     refine T.pure (.int .i64 z4) (by kernel_rfl) (fun _ => by kernel_rfl) ?_
     refine T.pure (.int .i64 z4) (by kernel_rfl) (fun _ => by kernel_rfl) ?_
     refine T.nil ?_
     obtain ⟨z6, hz2, hX1⟩ := Option.bind_eq_some_iff.1 hX1
     refine T.cut (fun a w' => Fr 52 [(0, .slice A1 p0.run.length c1), (7, .int .i64 z4), (8, .int .i64 z6)] a ∧ Hp w V1 [box b3 25 ((.slice A2 r4.run.length c2) :: (DA16.cells r4.roles ++ (DA16.cells r4.fed))), row 30 eElem A2 c2 r4.run, box b2 25 ((.slice none 0 0) :: (DA16.cells (DA16.mk 0 0 0 0 0 0 0 0 0 0 0 0 0 0 0 0) ++ (DA16.cells (DA16.mk 0 0 0 0 0 0 0 0 0 0 0 0 0 0 0 0)))), box b1 25 ((.slice A1 p0.run.length c1) :: (DA16.cells p0.roles ++ (DA16.cells p0.fed)))] w') ?_ ?_
     ·
      refine T.block ?_
      refine T.iter (fun x2 a w' => Fr 52 [(0, .slice A1 p0.run.length c1), (1, .int .i64 p1), (7, .int .i64 z4), (8, .int .i64 x2)] a ∧ Hp w V1 [box b3 25 ((.slice A2 r4.run.length c2) :: (DA16.cells r4.roles ++ (DA16.cells r4.fed))), row 30 eElem A2 c2 r4.run, box b2 25 ((.slice none 0 0) :: (DA16.cells (DA16.mk 0 0 0 0 0 0 0 0 0 0 0 0 0 0 0 0) ++ (DA16.cells (DA16.mk 0 0 0 0 0 0 0 0 0 0 0 0 0 0 0 0)))), box b1 25 ((.slice A1 p0.run.length c1) :: (DA16.cells p0.roles ++ (DA16.cells p0.fed)))] w') hz2 ?_ ?_
      ·
       exact fun a w' hf hh => And.intro (((((Fr.nil hf).pick hf 8 rfl).pick hf 7 rfl).pick hf 1 rfl).pick hf 0 rfl) (hh.sub (.cons_cons _ (.cons_cons _ (.cons_cons _ (.cons_cons _ List.Sublist.slnil)))))
      ·
       rintro x2 y2 hY2 hr2 a w' ⟨hf, hh⟩
       refine (?_ : T 52 w V1 [box b3 25 ((.slice A2 r4.run.length c2) :: (DA16.cells r4.roles ++ (DA16.cells r4.fed))), row 30 eElem A2 c2 r4.run, box b2 25 ((.slice none 0 0) :: (DA16.cells (DA16.mk 0 0 0 0 0 0 0 0 0 0 0 0 0 0 0 0) ++ (DA16.cells (DA16.mk 0 0 0 0 0 0 0 0 0 0 0 0 0 0 0 0)))), box b1 25 ((.slice A1 p0.run.length c1) :: (DA16.cells p0.roles ++ (DA16.cells p0.fed)))] [(0, .slice A1 p0.run.length c1), (1, .int .i64 p1), (7, .int .i64 z4), (8, .int .i64 x2)] _) a w' hf hh
       clear hf hh
       try dsimp only at hY2
       refine T.seq ?_
       obtain ⟨z7, hX3, hY2⟩ := Option.bind_eq_some_iff.1 hY2
       refine T.cut (fun a w' => Fr 52 [(0, .slice A1 p0.run.length c1), (1, .int .i64 p1), (7, .int .i64 z4), (8, .int .i64 x2), (39, .bool z7)] a ∧ Hp w V1 [box b3 25 ((.slice A2 r4.run.length c2) :: (DA16.cells r4.roles ++ (DA16.cells r4.fed))), row 30 eElem A2 c2 r4.run, box b2 25 ((.slice none 0 0) :: (DA16.cells (DA16.mk 0 0 0 0 0 0 0 0 0 0 0 0 0 0 0 0) ++ (DA16.cells (DA16.mk 0 0 0 0 0 0 0 0 0 0 0 0 0 0 0 0)))), box b1 25 ((.slice A1 p0.run.length c1) :: (DA16.cells p0.roles ++ (DA16.cells p0.fed)))] w') ?_ ?_
       ·
        refine T.region ?_
        refine T.pure (.int .i64 x2) (by kernel_rfl) (fun _ => by kernel_rfl) ?_
        refine T.pure (.slice A1 p0.run.length c1) (by kernel_rfl) (fun _ => by kernel_rfl) ?_
        refine T.pure (.int .i64 (p0.run.length : Int)) (by kernel_rfl) (fun _ => by kernel_rfl) ?_
        refine T.pure (.bool (decide (x2 < (p0.run.length : Int)))) (by kernel_rfl) (fun _ => by kernel_rfl) ?_
        refine T.pure (.bool (decide (x2 < (p0.run.length : Int)))) (by kernel_rfl) (fun _ => by kernel_rfl) ?_
        cases hg2 : decide (x2 < (p0.run.length : Int))
        ·
         skip
         rw [hg2, cond_false] at hX3
         refine T.pass (by kernel_rfl) (by kernel_rfl) ?_
         refine T.pass (by kernel_rfl) (by kernel_rfl) ?_
         refine T.pass (by kernel_rfl) (by kernel_rfl) ?_
         refine T.pass (by kernel_rfl) (by kernel_rfl) ?_
         refine T.pass (by kernel_rfl) (by kernel_rfl) ?_
         refine T.pass (by kernel_rfl) (by kernel_rfl) ?_
         refine T.pass (by kernel_rfl) (by kernel_rfl) ?_
         refine T.pass (by kernel_rfl) (by kernel_rfl) ?_
         refine T.pure (.bool false) (by kernel_rfl) (fun _ => by kernel_rfl) ?_
         refine T.nil ?_
         cases hX3
         exact fun a w' hf hh => And.intro ((((((Fr.nil hf).pick hf 39 rfl).pick hf 8 rfl).pick hf 7 rfl).pick hf 1 rfl).pick hf 0 rfl) (hh.sub (.cons_cons _ (.cons_cons _ (.cons_cons _ (.cons_cons _ List.Sublist.slnil)))))
        ·
         skip
         rw [hg2, cond_true] at hX3
         refine T.pure (.slice A1 p0.run.length c1) (by kernel_rfl) (fun _ => by kernel_rfl) ?_
         refine T.pure (.int .i64 x2) (by kernel_rfl) (fun _ => by kernel_rfl) ?_
         obtain ⟨e3, hb5, hX3⟩ := Option.bind_eq_some_iff.1 hX3
         obtain ⟨hi7, hi8, hi9⟩ := idx_some hb5
         refine T.look (.pointer (some ((sadr A1).add (x2.toNat * 6)))) (by kernel_rfl) (fun w' hh => exec_indexAddr (e := 30) (s := 6) rfl rfl rfl (by kernel_rfl) (by kernel_rfl) hi7 hi8 ((SlOk.mono hs1 hV1).some_ hi9 (by decide))) ?_
         refine T.pure (.pointer (some ((sadr A1).add (x2.toNat * 6)))) (by kernel_rfl) (fun _ => by kernel_rfl) ?_
         refine T.pure (.pointer (some ((sadr A1).add (x2.toNat * 6)))) (by kernel_rfl) (fun _ => by kernel_rfl) ?_
         refine T.look (.int .i64 e3.key.pfs) (by kernel_rfl) (fun w' hh => exec_load1 rfl rfl (by kernel_rfl) (hh.cell_view (SlOk.cellF0 (E := eElem) (SlOk.mono hs1 hV1) hi9 (fun _ _ _ h => h) rfl))) ?_
         refine T.pure (.int .i64 p1) (by kernel_rfl) (fun _ => by kernel_rfl) ?_
         refine T.pure (.bool (e3.key.pfs == p1)) (by kernel_rfl) (fun _ => by kernel_rfl) ?_
         refine T.pure (.bool (e3.key.pfs == p1)) (by kernel_rfl) (fun _ => by kernel_rfl) ?_
         refine T.nil ?_
         cases hX3
         exact fun a w' hf hh => And.intro ((((((Fr.nil hf).pick hf 39 rfl).pick hf 8 rfl).pick hf 7 rfl).pick hf 1 rfl).pick hf 0 rfl) (hh.sub (.cons_cons _ (.cons_cons _ (.cons_cons _ (.cons_cons _ List.Sublist.slnil)))))
       ·
        rintro a w' ⟨hf, hh⟩
        refine (?_ : T 52 w V1 [box b3 25 ((.slice A2 r4.run.length c2) :: (DA16.cells r4.roles ++ (DA16.cells r4.fed))), row 30 eElem A2 c2 r4.run, box b2 25 ((.slice none 0 0) :: (DA16.cells (DA16.mk 0 0 0 0 0 0 0 0 0 0 0 0 0 0 0 0) ++ (DA16.cells (DA16.mk 0 0 0 0 0 0 0 0 0 0 0 0 0 0 0 0)))), box b1 25 ((.slice A1 p0.run.length c1) :: (DA16.cells p0.roles ++ (DA16.cells p0.fed)))] [(0, .slice A1 p0.run.length c1), (1, .int .i64 p1), (7, .int .i64 z4), (8, .int .i64 x2), (39, .bool z7)] _) a w' hf hh
        clear hf hh
        refine T.cond z7 (by kernel_rfl) (by kernel_rfl) (fun hc4 => ?_) (fun hc4 => ?_)
        ·
         rw [hc4, cond_true] at hY2
         refine T.skip_code ?_
         refine T.block ?_
         refine T.region ?_
         refine T.pure (.int .i64 x2) (by kernel_rfl) (fun _ => by kernel_rfl) ?_
         refine T.pure (.int .i64 (IntKind.i64.wrap (x2 + 1))) (by kernel_rfl) (fun _ => by kernel_rfl) ?_
         refine T.pure (.int .i64 (IntKind.i64.wrap (x2 + 1))) (by kernel_rfl) (fun _ => by kernel_rfl) ?_
         refine T.nil ?_
         cases hY2
         exact fun a w' hf hh => Exists.intro (IntKind.i64.wrap (x2 + 1)) (And.intro rfl (And.intro (((((Fr.nil hf).pick hf 8 rfl).pick hf 7 rfl).pick hf 1 rfl).pick hf 0 rfl) (hh.sub (.cons_cons _ (.cons_cons _ (.cons_cons _ (.cons_cons _ List.Sublist.slnil)))))))
        ·
         rw [hc4, cond_false] at hY2
         refine T.exit ?_
         cases hY2
         cases (hr2 _ rfl)
         exact fun a w' hf hh => And.intro ((((Fr.nil hf).pick hf 8 rfl).pick hf 7 rfl).pick hf 0 rfl) (hh.sub (.cons_cons _ (.cons_cons _ (.cons_cons _ (.cons_cons _ List.Sublist.slnil)))))
     ·
      rintro a w' ⟨hf, hh⟩
      refine (?_ : T 52 w V1 [box b3 25 ((.slice A2 r4.run.length c2) :: (DA16.cells r4.roles ++ (DA16.cells r4.fed))), row 30 eElem A2 c2 r4.run, box b2 25 ((.slice none 0 0) :: (DA16.cells (DA16.mk 0 0 0 0 0 0 0 0 0 0 0 0 0 0 0 0) ++ (DA16.cells (DA16.mk 0 0 0 0 0 0 0 0 0 0 0 0 0 0 0 0)))), box b1 25 ((.slice A1 p0.run.length c1) :: (DA16.cells p0.roles ++ (DA16.cells p0.fed)))] [(0, .slice A1 p0.run.length c1), (7, .int .i64 z4), (8, .int .i64 z6)] _) a w' hf hh
      clear hf hh
      refine T.seq ?_
      refine T.quiet (by kernel_rfl) (by kernel_rfl) ?_
      refine TQ.pure (.slice A1 p0.run.length c1) (by kernel_rfl) (fun _ => by kernel_rfl) ?_
      refine TQ.pure (.int .i64 z4) (by kernel_rfl) (fun _ => by kernel_rfl) ?_
      obtain ⟨s1, hb6, hX1⟩ := Option.bind_eq_some_iff.1 hX1
      refine TQ.look (.slice A1 s1.length c1) (by kernel_rfl) (fun w' hh => exec_slice_list0 (e := 30) (s := 6) (lx := none) (hx := (some _)) (k := .i64) (k' := .i64) rfl rfl (by kernel_rfl) (by kernel_rfl) ((SlOk.mono hs1 hV1)).1 rfl rfl hb6) ?_
      refine TQ.pure (.slice A1 p0.run.length c1) (by kernel_rfl) (fun _ => by kernel_rfl) ?_
      refine TQ.pure (.int .i64 z4) (by kernel_rfl) (fun _ => by kernel_rfl) ?_
      refine TQ.pure (.int .i64 z6) (by kernel_rfl) (fun _ => by kernel_rfl) ?_
      obtain ⟨s2, hb7, hX1⟩ := Option.bind_eq_some_iff.1 hX1
      refine TQ.look (.slice (cutA A1 c1 z4.toNat 6) s2.length (c1 - z4.toNat)) (by kernel_rfl) (fun w' hh => exec_slice_list (e := 30) (s := 6) (lx := (some _)) (hx := (some _)) (k := .i64) (k' := .i64) rfl rfl (by kernel_rfl) (by kernel_rfl) ((SlOk.mono hs1 hV1)).1 rfl rfl hb7) ?_
      refine TQ.pure (.slice A1 p0.run.length c1) (by kernel_rfl) (fun _ => by kernel_rfl) ?_
      refine TQ.pure (.int .i64 z6) (by kernel_rfl) (fun _ => by kernel_rfl) ?_
      obtain ⟨s3, hb8, hX1⟩ := Option.bind_eq_some_iff.1 hX1
      refine TQ.look (.slice (cutA A1 c1 z6.toNat 6) s3.length (c1 - z6.toNat)) (by kernel_rfl) (fun w' hh => exec_slice_list (e := 30) (s := 6) (lx := (some _)) (hx := none) (k := .i64) (k' := .i64) rfl rfl (by kernel_rfl) (by kernel_rfl) ((SlOk.mono hs1 hV1)).1 rfl rfl hb8) ?_
      refine TQ.pure (.slice A1 s1.length c1) (by kernel_rfl) (fun _ => by kernel_rfl) ?_
      refine TQ.pure (.slice (cutA A1 c1 z4.toNat 6) s2.length (c1 - z4.toNat)) (by kernel_rfl) (fun _ => by kernel_rfl) ?_
      refine TQ.pure (.slice (cutA A1 c1 z6.toNat 6) s3.length (c1 - z6.toNat)) (by kernel_rfl) (fun _ => by kernel_rfl) ?_
      refine TQ.nil ?_
      cases hX1
      refine T.ret rfl ?_
      exact T.ret3 rfl (ResIs.tmp rfl) (ResIs.tmp rfl) (ResIs.tmp rfl) fun w' hh => ⟨_, rfl, Exists.intro s1 (Exists.intro s2 (Exists.intro s3 (And.intro rfl (Exists.intro A1 (Exists.intro c1 (Exists.intro (cutA A1 c1 z4.toNat 6) (Exists.intro (c1 - z4.toNat) (Exists.intro (cutA A1 c1 z6.toNat 6) (Exists.intro (c1 - z6.toNat) (Exists.intro V1 (And.intro (View.le_refl _) (And.intro (SlOk.cut0 (SlOk.mono hs1 hV1) hb6) (And.intro (SlOk.cut (SlOk.mono hs1 hV1) hb7) (And.intro (SlOk.cut (SlOk.mono hs1 hV1) hb8) (And.intro rfl (hh.sub (.cons_cons _ (.cons_cons _ (.cons_cons _ (.cons_cons _ List.Sublist.slnil))))))))))))))))))))⟩
   ·
    rintro v w' ⟨z1, z2, z3, rfl, A3, c3, A4, c4, A5, c5, V2, hV2, hs2, hs3, hs4, rfl, hh⟩
    try dsimp only at hF
    refine ⟨V2, [box b3 25 ((.slice A2 r4.run.length c2) :: (DA16.cells r4.roles ++ (DA16.cells r4.fed))), row 30 eElem A2 c2 r4.run, box b2 25 ((.slice none 0 0) :: (DA16.cells (DA16.mk 0 0 0 0 0 0 0 0 0 0 0 0 0 0 0 0) ++ (DA16.cells (DA16.mk 0 0 0 0 0 0 0 0 0 0 0 0 0 0 0 0)))), box b1 25 ((.slice A1 p0.run.length c1) :: (DA16.cells p0.roles ++ (DA16.cells p0.fed)))], hh, ?_⟩
    clear hh
    refine T.pure (.tuple #[.slice A3 z1.length c3, .slice A4 z2.length c4, .slice A5 z3.length c5]) (by kernel_rfl) (fun _ => by kernel_rfl) ?_
    refine T.pure (.slice A3 z1.length c3) (by kernel_rfl) (fun _ => by kernel_rfl) ?_
    refine T.pure (.slice A4 z2.length c4) (by kernel_rfl) (fun _ => by kernel_rfl) ?_
    refine T.pure (.slice A5 z3.length c5) (by kernel_rfl) (fun _ => by kernel_rfl) ?_
    refine T.pure (.slice A3 z1.length c3) (by kernel_rfl) (fun _ => by kernel_rfl) ?_
    refine T.pure (.slice A4 z2.length c4) (by kernel_rfl) (fun _ => by kernel_rfl) ?_
    refine T.pure (.slice A5 z3.length c5) (by kernel_rfl) (fun _ => by kernel_rfl) ?_
    refine T.nil ?_
    refine T.seq ?_
    refine T.region ?_
    refine T.pure (.slice A4 z2.length c4) (by kernel_rfl) (fun _ => by kernel_rfl) ?_
    obtain ⟨r6, hb9, hF⟩ := Option.bind_eq_some_iff.1 hF
    refine T.step (W1.call (vT2 (vSc eInt) (vSc eInt)) r6 27 #[.slice A4 z2.length c4] (by kernel_rfl) (fun _ => by kernel_rfl) (fun w' hh => run_Last_l F z2 r6 hb9 w' A4 c4 (SlOk.mono hs3 hh.view)) ?_)
    intro u V3 hV3 hu
    obtain rfl := (Sure.t2 sureInt sureInt) _ _ _ hu
    refine T.pure (.tuple #[.int .i64 r6.1, .int .i64 r6.2]) (by kernel_rfl) (fun _ => by kernel_rfl) ?_
    refine T.pure (.int .i64 r6.1) (by kernel_rfl) (fun _ => by kernel_rfl) ?_
    refine T.pure (.int .i64 r6.2) (by kernel_rfl) (fun _ => by kernel_rfl) ?_
    refine T.pure (.int .i64 r6.1) (by kernel_rfl) (fun _ => by kernel_rfl) ?_
    refine T.pure (.int .i64 r6.2) (by kernel_rfl) (fun _ => by kernel_rfl) ?_
    refine T.nil ?_
    refine T.seq ?_
    refine T.region ?_
    refine T.pure (.int .i64 p1) (by kernel_rfl) (fun _ => by kernel_rfl) ?_
    refine T.pure (.int .i64 p1) (by kernel_rfl) (fun _ => by kernel_rfl) ?_
    refine T.pure (.int .i64 r6.1) (by kernel_rfl) (fun _ => by kernel_rfl) ?_
    refine T.pure (.pointer (some ⟨b3, 1, none⟩)) (by kernel_rfl) (fun _ => by kernel_rfl) ?_
    obtain ⟨e4, hb10, hF⟩ := Option.bind_eq_some_iff.1 hF
    obtain ⟨hi10, hi11, hi12⟩ := idx_some hb10
    refine T.look (.pointer (some ((⟨b3, 1, none⟩ : Addr).add (p1.toNat * 1)))) (by kernel_rfl) (fun w' hh => exec_arrAddr (e := 3) rfl rfl rfl (by kernel_rfl) (by kernel_rfl) hi10 hi11) ?_
    refine T.step (W1.store 0 ((.slice A2 r4.run.length c2) :: (DA16.cells (DA16.set r4.roles p1.toNat (2 : Int)) ++ (DA16.cells r4.fed))) [box b3 25 ((.slice A2 r4.run.length c2) :: (DA16.cells (DA16.set r4.roles p1.toNat (2 : Int)) ++ (DA16.cells r4.fed))), row 30 eElem A2 c2 r4.run, box b2 25 ((.slice none 0 0) :: (DA16.cells (DA16.mk 0 0 0 0 0 0 0 0 0 0 0 0 0 0 0 0) ++ (DA16.cells (DA16.mk 0 0 0 0 0 0 0 0 0 0 0 0 0 0 0 0)))), box b1 25 ((.slice A1 p0.run.length c1) :: (DA16.cells p0.roles ++ (DA16.cells p0.fed)))] (by rfl) rfl (by kernel_rfl) (fun w' hw => exec_storeArr (off := 1) r4.roles rfl rfl rfl (by kernel_rfl) (by have := hi11; have e16 : r4.roles.list.length = 16 := rfl; omega) rfl rfl (Nat.le_of_ble_eq_true (by rfl)) hw) ?_)
    refine T.pure (.pointer (some ⟨b3, 17, none⟩)) (by kernel_rfl) (fun _ => by kernel_rfl) ?_
    obtain ⟨e5, hb11, hF⟩ := Option.bind_eq_some_iff.1 hF
    obtain ⟨hi13, hi14, hi15⟩ := idx_some hb11
    refine T.look (.pointer (some ((⟨b3, 17, none⟩ : Addr).add (p1.toNat * 1)))) (by kernel_rfl) (fun w' hh => exec_arrAddr (e := 3) rfl rfl rfl (by kernel_rfl) (by kernel_rfl) hi13 hi14) ?_
    refine T.step (W1.store 0 ((.slice A2 r4.run.length c2) :: (DA16.cells (DA16.set r4.roles p1.toNat (2 : Int)) ++ (DA16.cells (DA16.set r4.fed p1.toNat r6.1)))) [box b3 25 ((.slice A2 r4.run.length c2) :: (DA16.cells (DA16.set r4.roles p1.toNat (2 : Int)) ++ (DA16.cells (DA16.set r4.fed p1.toNat r6.1)))), row 30 eElem A2 c2 r4.run, box b2 25 ((.slice none 0 0) :: (DA16.cells (DA16.mk 0 0 0 0 0 0 0 0 0 0 0 0 0 0 0 0) ++ (DA16.cells (DA16.mk 0 0 0 0 0 0 0 0 0 0 0 0 0 0 0 0)))), box b1 25 ((.slice A1 p0.run.length c1) :: (DA16.cells p0.roles ++ (DA16.cells p0.fed)))] (by rfl) rfl (by kernel_rfl) (fun w' hw => exec_storeArr (off := 17) r4.fed rfl rfl rfl (by kernel_rfl) (by have := hi14; have e16 : r4.fed.list.length = 16 := rfl; omega) rfl rfl (Nat.le_of_ble_eq_true (by rfl)) hw) ?_)
    refine T.nil ?_
    refine T.seq ?_
    refine T.region ?_
    refine T.look (.agg (List.toArray ((.slice A2 r4.run.length c2) :: (DA16.cells (DA16.set r4.roles p1.toNat (2 : Int)) ++ (DA16.cells (DA16.set r4.fed p1.toNat r6.1)))))) (by kernel_rfl) (fun w' hh => exec_loadN (cs := ((.slice A2 r4.run.length c2) :: (DA16.cells (DA16.set r4.roles p1.toNat (2 : Int)) ++ (DA16.cells (DA16.set r4.fed p1.toNat r6.1))))) rfl rfl (by kernel_rfl) (by kernel_rfl) (fun j u hj => (hh.box_at (i := 0) (cs := ((.slice A2 r4.run.length c2) :: (DA16.cells (DA16.set r4.roles p1.toNat (2 : Int)) ++ (DA16.cells (DA16.set r4.fed p1.toNat r6.1))))) (by rfl) 0 j).trans (seg_at (n := 33) (by rfl) hj))) ?_
    refine T.step (W1.store 2 ((.slice A2 r4.run.length c2) :: (DA16.cells (DA16.set r4.roles p1.toNat (2 : Int)) ++ (DA16.cells (DA16.set r4.fed p1.toNat r6.1)))) [box b3 25 ((.slice A2 r4.run.length c2) :: (DA16.cells (DA16.set r4.roles p1.toNat (2 : Int)) ++ (DA16.cells (DA16.set r4.fed p1.toNat r6.1)))), row 30 eElem A2 c2 r4.run, box b2 25 ((.slice A2 r4.run.length c2) :: (DA16.cells (DA16.set r4.roles p1.toNat (2 : Int)) ++ (DA16.cells (DA16.set r4.fed p1.toNat r6.1)))), box b1 25 ((.slice A1 p0.run.length c1) :: (DA16.cells p0.roles ++ (DA16.cells p0.fed)))] (by rfl) rfl (by kernel_rfl) (fun w' hw => exec_store (vs := ((.slice A2 r4.run.length c2) :: (DA16.cells (DA16.set r4.roles p1.toNat (2 : Int)) ++ (DA16.cells (DA16.set r4.fed p1.toNat r6.1))))) rfl rfl rfl rfl (by kernel_rfl) (one_of rfl) (Nat.le_of_ble_eq_true (by rfl)) rfl hw) ?_)
    refine T.pure (.int .i64 0) (by kernel_rfl) (fun _ => by kernel_rfl) ?_
    refine T.nil ?_
    cases hF
    refine T.ret rfl ?_
    first | exact T.ret2 rfl (ResIs.cellN 2 rfl (by rfl) (fun _ => by kernel_rfl) (fun _ => by kernel_rfl)) (ResIs.tmp rfl) fun w' hh => ⟨(A2, c2), rfl, trivial, gives_of (hh.sub (.cons _ (.cons_cons _ (.cons _ (.cons _ List.Sublist.slnil))))) ⟨flat_row (fun _ _ _ _ h => h), trivial⟩⟩ | (unfold Exit.then; dsimp only; exact T.ret2 rfl (ResIs.cellN 2 rfl (by rfl) (fun _ => by kernel_rfl) (fun _ => by kernel_rfl)) (ResIs.tmp rfl) fun w' hh => ⟨(A2, c2), rfl, trivial, gives_of (hh.sub (.cons _ (.cons_cons _ (.cons _ (.cons _ List.Sublist.slnil))))) ⟨flat_row (fun _ _ _ _ h => h), trivial⟩⟩)
end Go.Proofs.Ytfbjmeehmanjnaa
