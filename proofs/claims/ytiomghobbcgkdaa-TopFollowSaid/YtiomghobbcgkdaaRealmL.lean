/- The Go functions of group Realm compute the pure functions of that group: written by walkgen.py. Condition of each: the pure function yields a result. -/
import Derived.Test.YtiomghobbcgkdaaRunL
import Derived.Test.YtiomghobbcgkdaaEqsL
import Derived.Test.YtiomghobbcgkdaaRealmF
import Derived.Test.YtiomghobbcgkdaaEqL
namespace Go.Proofs.Ytiomghobbcgkdaa
set_option linter.unusedVariables false

set_option maxRecDepth 100000 in
set_option maxHeartbeats 4000000 in
theorem realm_Check_l (F : Nat) (p0 : DBook) (r : Int) (hF : realm_Check F p0 = some r) (w : World) (A1 : Option Addr) (c1 : Nat) (hs1 : SlOk (vw w) eElem A1 c1 p0.run) :
    Calls Try.prog 35 #[.agg (List.toArray ((.slice A1 p0.run.length c1) :: (DA16.cells p0.roles ++ (DA16.cells p0.fed))))] w (Post (vSc eInt) r w) := by
 unfold realm_Check at hF
 refine T.start (l := [.agg (List.toArray ((.slice A1 p0.run.length c1) :: (DA16.cells p0.roles ++ (DA16.cells p0.fed))))]) Try.func35 rfl rfl rfl ?_
 refine T.seq ?_
 refine T.region ?_
 refine T.step (W1.new 26 ((.slice A1 p0.run.length c1) :: (DA16.cells p0.roles ++ (DA16.cells p0.fed))) (fun b => .pointer (some ⟨b, 0, none⟩)) (by kernel_rfl) (fun _ => by kernel_rfl) (fun b1 => ?_))
 refine T.pure (.int .i64 0) (by kernel_rfl) (fun _ => by kernel_rfl) ?_
 refine T.nil ?_
 refine T.seq ?_
 refine T.seq ?_
 refine T.region ?_
 refine T.pure (.pointer (some ⟨b1, 0, none⟩)) (by kernel_rfl) (fun _ => by kernel_rfl) ?_
 refine T.look (.slice A1 p0.run.length c1) (by kernel_rfl) (fun w' hh => exec_load1 rfl rfl (by kernel_rfl) (hh.cellBox (i := 0) (by rfl) 0)) ?_
 obtain ⟨r1, hb1, hF⟩ := Option.bind_eq_some_iff.1 hF
 refine T.step (W1.call (vSc eInt) r1 55 #[.slice A1 p0.run.length c1] (by kernel_rfl) (fun _ => by kernel_rfl) (fun w' hh => run_Check_l F p0.run r1 hb1 w' A1 c1 (SlOk.mono hs1 hh.view)) ?_)
 intro u V1 hV1 hu
 obtain rfl := sureInt _ _ _ hu
 refine T.pure (.int .i64 r1) (by kernel_rfl) (fun _ => by kernel_rfl) ?_
 refine T.nil ?_
 refine T.seq ?_
 refine T.region ?_
 refine T.pure (.int .i64 r1) (by kernel_rfl) (fun _ => by kernel_rfl) ?_
 refine T.pure (.bool (r1 != 0)) (by kernel_rfl) (fun _ => by kernel_rfl) ?_
 refine T.nil ?_
 refine T.cond (r1 != 0) (by kernel_rfl) (by kernel_rfl) (fun hc1 => ?_) (fun hc1 => ?_)
 ·
  rw [hc1, cond_true] at hF
  refine T.seq ?_
  refine T.region ?_
  refine T.pure (.int .i64 r1) (by kernel_rfl) (fun _ => by kernel_rfl) ?_
  refine T.pure (.int .i64 r1) (by kernel_rfl) (fun _ => by kernel_rfl) ?_
  refine T.nil ?_
  cases hF
  refine T.ret rfl ?_
  exact T.ret1 rfl (ResIs.tmp rfl) fun w' hh => ⟨_, rfl, hh.below, (show _ from rfl)⟩
 ·
  rw [hc1, cond_false] at hF
  refine T.skip_code ?_
  refine T.seq ?_
  refine T.seq ?_
  refine T.region ?_
  refine T.pure (.pointer (some ⟨b1, 1, none⟩)) (by kernel_rfl) (fun _ => by kernel_rfl) ?_
  refine T.look (.agg #[.int .i64 p0.roles.x0, .int .i64 p0.roles.x1, .int .i64 p0.roles.x2, .int .i64 p0.roles.x3, .int .i64 p0.roles.x4, .int .i64 p0.roles.x5, .int .i64 p0.roles.x6, .int .i64 p0.roles.x7, .int .i64 p0.roles.x8, .int .i64 p0.roles.x9, .int .i64 p0.roles.x10, .int .i64 p0.roles.x11, .int .i64 p0.roles.x12, .int .i64 p0.roles.x13, .int .i64 p0.roles.x14, .int .i64 p0.roles.x15]) (by kernel_rfl) (fun w' hh => exec_loadN (cs := [.int .i64 p0.roles.x0, .int .i64 p0.roles.x1, .int .i64 p0.roles.x2, .int .i64 p0.roles.x3, .int .i64 p0.roles.x4, .int .i64 p0.roles.x5, .int .i64 p0.roles.x6, .int .i64 p0.roles.x7, .int .i64 p0.roles.x8, .int .i64 p0.roles.x9, .int .i64 p0.roles.x10, .int .i64 p0.roles.x11, .int .i64 p0.roles.x12, .int .i64 p0.roles.x13, .int .i64 p0.roles.x14, .int .i64 p0.roles.x15]) rfl rfl (by kernel_rfl) (by kernel_rfl) (fun j u hj => (hh.box_at (i := 0) (cs := ((.slice A1 p0.run.length c1) :: (DA16.cells p0.roles ++ (DA16.cells p0.fed)))) (by rfl) 1 j).trans (seg_at (n := 16) (by rfl) hj))) ?_
  refine T.pure (.int .i64 0) (by kernel_rfl) (fun _ => by kernel_rfl) ?_
  refine T.nil ?_
  obtain ⟨q1, hz1, hF⟩ := Option.bind_eq_some_iff.1 hF
  refine T.mid (fun a w' => q1 = Sum.inl () ∧ Fr 85 [(1, .pointer (some ⟨b1, 0, none⟩))] a ∧ Hp w V1 [box b1 26 ((.slice A1 p0.run.length c1) :: (DA16.cells p0.roles ++ (DA16.cells p0.fed)))] w') ?_ ?_
  ·
   refine T.block ?_
   refine T.iter (fun x1 a w' => Fr 85 [(1, .pointer (some ⟨b1, 0, none⟩)), (16, .agg #[.int .i64 p0.roles.x0, .int .i64 p0.roles.x1, .int .i64 p0.roles.x2, .int .i64 p0.roles.x3, .int .i64 p0.roles.x4, .int .i64 p0.roles.x5, .int .i64 p0.roles.x6, .int .i64 p0.roles.x7, .int .i64 p0.roles.x8, .int .i64 p0.roles.x9, .int .i64 p0.roles.x10, .int .i64 p0.roles.x11, .int .i64 p0.roles.x12, .int .i64 p0.roles.x13, .int .i64 p0.roles.x14, .int .i64 p0.roles.x15]), (17, .int .i64 x1)] a ∧ Hp w V1 [box b1 26 ((.slice A1 p0.run.length c1) :: (DA16.cells p0.roles ++ (DA16.cells p0.fed)))] w') hz1 ?_ ?_
   ·
    exact fun a w' hf hh => And.intro ((((Fr.nil hf).pick hf 17 rfl).pick hf 16 rfl).pick hf 1 rfl) (hh.sub (.cons_cons _ List.Sublist.slnil))
   ·
    rintro x1 y1 hY1 hr1 a w' ⟨hf, hh⟩
    refine (?_ : T 85 w V1 [box b1 26 ((.slice A1 p0.run.length c1) :: (DA16.cells p0.roles ++ (DA16.cells p0.fed)))] [(1, .pointer (some ⟨b1, 0, none⟩)), (16, .agg #[.int .i64 p0.roles.x0, .int .i64 p0.roles.x1, .int .i64 p0.roles.x2, .int .i64 p0.roles.x3, .int .i64 p0.roles.x4, .int .i64 p0.roles.x5, .int .i64 p0.roles.x6, .int .i64 p0.roles.x7, .int .i64 p0.roles.x8, .int .i64 p0.roles.x9, .int .i64 p0.roles.x10, .int .i64 p0.roles.x11, .int .i64 p0.roles.x12, .int .i64 p0.roles.x13, .int .i64 p0.roles.x14, .int .i64 p0.roles.x15]), (17, .int .i64 x1)] _) a w' hf hh
    clear hf hh
    try dsimp only at hY1
    refine T.seq ?_
    refine T.region ?_
    refine T.pure (.bool (decide (x1 < 16))) (by kernel_rfl) (fun _ => by kernel_rfl) ?_
    refine T.nil ?_
    refine T.seq ?_
    refine T.cond (decide (x1 < 16)) (by kernel_rfl) (by kernel_rfl) (fun hc2 => ?_) (fun hc2 => ?_)
    ·
     rw [hc2, cond_true] at hY1
     refine T.skip_code ?_
     refine T.seq ?_
     refine T.block ?_
     refine T.seq ?_
     refine T.region ?_
     refine T.pure (.int .i64 x1) (by kernel_rfl) (fun _ => by kernel_rfl) ?_
     obtain ⟨e1, hb2, hY1⟩ := Option.bind_eq_some_iff.1 hY1
     obtain ⟨hi1, hi2, hi3⟩ := idx_some hb2
     refine T.look (.int .i64 e1) (by kernel_rfl) (fun w' hh => exec_index_arr (a := p0.roles) (e := 3) rfl rfl rfl (by kernel_rfl) (by kernel_rfl) (by kernel_rfl) hi1 hi2 hi3) ?_
     refine T.pure (.int .i64 x1) (by kernel_rfl) (fun _ => by kernel_rfl) ?_
     refine T.pure (.int .i64 e1) (by kernel_rfl) (fun _ => by kernel_rfl) ?_
     refine T.nil ?_
     obtain ⟨z1, hX1, hY1⟩ := Option.bind_eq_some_iff.1 hY1
     refine T.cut (fun a w' => Fr 85 [(1, .pointer (some ⟨b1, 0, none⟩)), (16, .agg #[.int .i64 p0.roles.x0, .int .i64 p0.roles.x1, .int .i64 p0.roles.x2, .int .i64 p0.roles.x3, .int .i64 p0.roles.x4, .int .i64 p0.roles.x5, .int .i64 p0.roles.x6, .int .i64 p0.roles.x7, .int .i64 p0.roles.x8, .int .i64 p0.roles.x9, .int .i64 p0.roles.x10, .int .i64 p0.roles.x11, .int .i64 p0.roles.x12, .int .i64 p0.roles.x13, .int .i64 p0.roles.x14, .int .i64 p0.roles.x15]), (17, .int .i64 x1), (51, .bool z1)] a ∧ Hp w V1 [box b1 26 ((.slice A1 p0.run.length c1) :: (DA16.cells p0.roles ++ (DA16.cells p0.fed)))] w') ?_ ?_
     ·
      refine T.region ?_
      refine T.pure (.int .i64 e1) (by kernel_rfl) (fun _ => by kernel_rfl) ?_
      refine T.pure (.bool (decide (e1 < 0))) (by kernel_rfl) (fun _ => by kernel_rfl) ?_
      refine T.pure (.bool (decide (e1 < 0))) (by kernel_rfl) (fun _ => by kernel_rfl) ?_
      cases hg1 : decide (e1 < 0)
      ·
       skip
       rw [hg1, cond_false] at hX1
       refine T.pure (.int .i64 e1) (by kernel_rfl) (fun _ => by kernel_rfl) ?_
       refine T.pure (.bool (decide ((2 : Int) < e1))) (by kernel_rfl) (fun _ => by kernel_rfl) ?_
       refine T.pure (.bool (decide ((2 : Int) < e1))) (by kernel_rfl) (fun _ => by kernel_rfl) ?_
       refine T.pure (.bool (decide ((2 : Int) < e1))) (by kernel_rfl) (fun _ => by kernel_rfl) ?_
       cases hg2 : decide ((2 : Int) < e1)
       ·
        skip
        rw [hg2, cond_false] at hX1
        refine T.pure (.int .i64 x1) (by kernel_rfl) (fun _ => by kernel_rfl) ?_
        refine T.pure (.pointer (some ⟨b1, 17, none⟩)) (by kernel_rfl) (fun _ => by kernel_rfl) ?_
        obtain ⟨e2, hb3, hX1⟩ := Option.bind_eq_some_iff.1 hX1
        obtain ⟨hi4, hi5, hi6⟩ := idx_some hb3
        refine T.look (.pointer (some ((⟨b1, 17, none⟩ : Addr).add (x1.toNat * 1)))) (by kernel_rfl) (fun w' hh => exec_arrAddr (e := 3) rfl rfl rfl (by kernel_rfl) (by kernel_rfl) hi4 hi5) ?_
        refine T.look (.int .i64 e2) (by kernel_rfl) (fun w' hh => exec_load1 rfl rfl (by kernel_rfl) (hh.arr_at (i := 0) (by rfl) 17 p0.fed rfl hi6)) ?_
        refine T.pure (.bool (decide (e2 < 0))) (by kernel_rfl) (fun _ => by kernel_rfl) ?_
        refine T.pure (.bool (decide (e2 < 0))) (by kernel_rfl) (fun _ => by kernel_rfl) ?_
        refine T.pure (.bool (decide (e2 < 0))) (by kernel_rfl) (fun _ => by kernel_rfl) ?_
        cases hg3 : decide (e2 < 0)
        ·
         skip
         rw [hg3, cond_false] at hX1
         refine T.pure (.int .i64 x1) (by kernel_rfl) (fun _ => by kernel_rfl) ?_
         refine T.pure (.pointer (some ⟨b1, 17, none⟩)) (by kernel_rfl) (fun _ => by kernel_rfl) ?_
         obtain ⟨e3, hb4, hX1⟩ := Option.bind_eq_some_iff.1 hX1
         obtain ⟨hi7, hi8, hi9⟩ := idx_some hb4
         refine T.look (.pointer (some ((⟨b1, 17, none⟩ : Addr).add (x1.toNat * 1)))) (by kernel_rfl) (fun w' hh => exec_arrAddr (e := 3) rfl rfl rfl (by kernel_rfl) (by kernel_rfl) hi7 hi8) ?_
         refine T.look (.int .i64 e3) (by kernel_rfl) (fun w' hh => exec_load1 rfl rfl (by kernel_rfl) (hh.arr_at (i := 0) (by rfl) 17 p0.fed rfl hi9)) ?_
         refine T.pure (.bool (decide ((2147483647 : Int) < e3))) (by kernel_rfl) (fun _ => by kernel_rfl) ?_
         refine T.pure (.bool (decide ((2147483647 : Int) < e3))) (by kernel_rfl) (fun _ => by kernel_rfl) ?_
         refine T.pure (.bool (decide ((2147483647 : Int) < e3))) (by kernel_rfl) (fun _ => by kernel_rfl) ?_
         cases hg4 : decide ((2147483647 : Int) < e3)
         ·
          skip
          rw [hg4, cond_false] at hX1
          refine T.pure (.int .i64 e1) (by kernel_rfl) (fun _ => by kernel_rfl) ?_
          refine T.pure (.bool (e1 != 2)) (by kernel_rfl) (fun _ => by kernel_rfl) ?_
          refine T.pure (.bool (e1 != 2)) (by kernel_rfl) (fun _ => by kernel_rfl) ?_
          cases hg5 : (e1 != 2)
          ·
           skip
           rw [hg5, cond_false] at hX1
           refine T.pass (by kernel_rfl) (by kernel_rfl) ?_
           refine T.pass (by kernel_rfl) (by kernel_rfl) ?_
           refine T.pass (by kernel_rfl) (by kernel_rfl) ?_
           refine T.pass (by kernel_rfl) (by kernel_rfl) ?_
           refine T.pass (by kernel_rfl) (by kernel_rfl) ?_
           refine T.pure (.bool false) (by kernel_rfl) (fun _ => by kernel_rfl) ?_
           refine T.pure (.bool false) (by kernel_rfl) (fun _ => by kernel_rfl) ?_
           refine T.nil ?_
           cases hX1
           exact fun a w' hf hh => And.intro (((((Fr.nil hf).pick hf 51 rfl).pick hf 17 rfl).pick hf 16 rfl).pick hf 1 rfl) (hh.sub (.cons_cons _ List.Sublist.slnil))
          ·
           skip
           rw [hg5, cond_true] at hX1
           refine T.pure (.int .i64 x1) (by kernel_rfl) (fun _ => by kernel_rfl) ?_
           refine T.pure (.pointer (some ⟨b1, 17, none⟩)) (by kernel_rfl) (fun _ => by kernel_rfl) ?_
           obtain ⟨e4, hb5, hX1⟩ := Option.bind_eq_some_iff.1 hX1
           obtain ⟨hi10, hi11, hi12⟩ := idx_some hb5
           refine T.look (.pointer (some ((⟨b1, 17, none⟩ : Addr).add (x1.toNat * 1)))) (by kernel_rfl) (fun w' hh => exec_arrAddr (e := 3) rfl rfl rfl (by kernel_rfl) (by kernel_rfl) hi10 hi11) ?_
           refine T.look (.int .i64 e4) (by kernel_rfl) (fun w' hh => exec_load1 rfl rfl (by kernel_rfl) (hh.arr_at (i := 0) (by rfl) 17 p0.fed rfl hi12)) ?_
           refine T.pure (.bool (decide ((0 : Int) < e4))) (by kernel_rfl) (fun _ => by kernel_rfl) ?_
           refine T.pure (.bool (decide ((0 : Int) < e4))) (by kernel_rfl) (fun _ => by kernel_rfl) ?_
           refine T.pure (.bool (decide ((0 : Int) < e4))) (by kernel_rfl) (fun _ => by kernel_rfl) ?_
           refine T.nil ?_
           cases hX1
           exact fun a w' hf hh => And.intro (((((Fr.nil hf).pick hf 51 rfl).pick hf 17 rfl).pick hf 16 rfl).pick hf 1 rfl) (hh.sub (.cons_cons _ List.Sublist.slnil))
         ·
          skip
          rw [hg4, cond_true] at hX1
          refine T.pass (by kernel_rfl) (by kernel_rfl) ?_
          refine T.pass (by kernel_rfl) (by kernel_rfl) ?_
          refine T.pass (by kernel_rfl) (by kernel_rfl) ?_
          refine T.pass (by kernel_rfl) (by kernel_rfl) ?_
          refine T.pass (by kernel_rfl) (by kernel_rfl) ?_
          refine T.pass (by kernel_rfl) (by kernel_rfl) ?_
          refine T.pass (by kernel_rfl) (by kernel_rfl) ?_
          refine T.pass (by kernel_rfl) (by kernel_rfl) ?_
          refine T.pass (by kernel_rfl) (by kernel_rfl) ?_
          refine T.pure (.bool true) (by kernel_rfl) (fun _ => by kernel_rfl) ?_
          refine T.nil ?_
          cases hX1
          exact fun a w' hf hh => And.intro (((((Fr.nil hf).pick hf 51 rfl).pick hf 17 rfl).pick hf 16 rfl).pick hf 1 rfl) (hh.sub (.cons_cons _ List.Sublist.slnil))
        ·
         skip
         rw [hg3, cond_true] at hX1
         refine T.pass (by kernel_rfl) (by kernel_rfl) ?_
         refine T.pass (by kernel_rfl) (by kernel_rfl) ?_
         refine T.pass (by kernel_rfl) (by kernel_rfl) ?_
         refine T.pass (by kernel_rfl) (by kernel_rfl) ?_
         refine T.pass (by kernel_rfl) (by kernel_rfl) ?_
         refine T.pure (.bool true) (by kernel_rfl) (fun _ => by kernel_rfl) ?_
         refine T.pure (.bool true) (by kernel_rfl) (fun _ => by kernel_rfl) ?_
         refine T.pass (by kernel_rfl) (by kernel_rfl) ?_
         refine T.pass (by kernel_rfl) (by kernel_rfl) ?_
         refine T.pass (by kernel_rfl) (by kernel_rfl) ?_
         refine T.pass (by kernel_rfl) (by kernel_rfl) ?_
         refine T.pass (by kernel_rfl) (by kernel_rfl) ?_
         refine T.pass (by kernel_rfl) (by kernel_rfl) ?_
         refine T.pass (by kernel_rfl) (by kernel_rfl) ?_
         refine T.pass (by kernel_rfl) (by kernel_rfl) ?_
         refine T.pass (by kernel_rfl) (by kernel_rfl) ?_
         refine T.pure (.bool true) (by kernel_rfl) (fun _ => by kernel_rfl) ?_
         refine T.nil ?_
         cases hX1
         exact fun a w' hf hh => And.intro (((((Fr.nil hf).pick hf 51 rfl).pick hf 17 rfl).pick hf 16 rfl).pick hf 1 rfl) (hh.sub (.cons_cons _ List.Sublist.slnil))
       ·
        skip
        rw [hg2, cond_true] at hX1
        refine T.pass (by kernel_rfl) (by kernel_rfl) ?_
        refine T.pass (by kernel_rfl) (by kernel_rfl) ?_
        refine T.pass (by kernel_rfl) (by kernel_rfl) ?_
        refine T.pass (by kernel_rfl) (by kernel_rfl) ?_
        refine T.pass (by kernel_rfl) (by kernel_rfl) ?_
        refine T.pure (.bool true) (by kernel_rfl) (fun _ => by kernel_rfl) ?_
        refine T.pure (.bool true) (by kernel_rfl) (fun _ => by kernel_rfl) ?_
        refine T.pass (by kernel_rfl) (by kernel_rfl) ?_
        refine T.pass (by kernel_rfl) (by kernel_rfl) ?_
        refine T.pass (by kernel_rfl) (by kernel_rfl) ?_
        refine T.pass (by kernel_rfl) (by kernel_rfl) ?_
        refine T.pass (by kernel_rfl) (by kernel_rfl) ?_
        refine T.pure (.bool true) (by kernel_rfl) (fun _ => by kernel_rfl) ?_
        refine T.pure (.bool true) (by kernel_rfl) (fun _ => by kernel_rfl) ?_
        refine T.pass (by kernel_rfl) (by kernel_rfl) ?_
        refine T.pass (by kernel_rfl) (by kernel_rfl) ?_
        refine T.pass (by kernel_rfl) (by kernel_rfl) ?_
        refine T.pass (by kernel_rfl) (by kernel_rfl) ?_
        refine T.pass (by kernel_rfl) (by kernel_rfl) ?_
        refine T.pass (by kernel_rfl) (by kernel_rfl) ?_
        refine T.pass (by kernel_rfl) (by kernel_rfl) ?_
        refine T.pass (by kernel_rfl) (by kernel_rfl) ?_
        refine T.pass (by kernel_rfl) (by kernel_rfl) ?_
        refine T.pure (.bool true) (by kernel_rfl) (fun _ => by kernel_rfl) ?_
        refine T.nil ?_
        cases hX1
        exact fun a w' hf hh => And.intro (((((Fr.nil hf).pick hf 51 rfl).pick hf 17 rfl).pick hf 16 rfl).pick hf 1 rfl) (hh.sub (.cons_cons _ List.Sublist.slnil))
      ·
       skip
       rw [hg1, cond_true] at hX1
       refine T.pass (by kernel_rfl) (by kernel_rfl) ?_
       refine T.pass (by kernel_rfl) (by kernel_rfl) ?_
       refine T.pure (.bool true) (by kernel_rfl) (fun _ => by kernel_rfl) ?_
       refine T.pure (.bool true) (by kernel_rfl) (fun _ => by kernel_rfl) ?_
       refine T.pass (by kernel_rfl) (by kernel_rfl) ?_
       refine T.pass (by kernel_rfl) (by kernel_rfl) ?_
       refine T.pass (by kernel_rfl) (by kernel_rfl) ?_
       refine T.pass (by kernel_rfl) (by kernel_rfl) ?_
       refine T.pass (by kernel_rfl) (by kernel_rfl) ?_
       refine T.pure (.bool true) (by kernel_rfl) (fun _ => by kernel_rfl) ?_
       refine T.pure (.bool true) (by kernel_rfl) (fun _ => by kernel_rfl) ?_
       refine T.pass (by kernel_rfl) (by kernel_rfl) ?_
       refine T.pass (by kernel_rfl) (by kernel_rfl) ?_
       refine T.pass (by kernel_rfl) (by kernel_rfl) ?_
       refine T.pass (by kernel_rfl) (by kernel_rfl) ?_
       refine T.pass (by kernel_rfl) (by kernel_rfl) ?_
       refine T.pure (.bool true) (by kernel_rfl) (fun _ => by kernel_rfl) ?_
       refine T.pure (.bool true) (by kernel_rfl) (fun _ => by kernel_rfl) ?_
       refine T.pass (by kernel_rfl) (by kernel_rfl) ?_
       refine T.pass (by kernel_rfl) (by kernel_rfl) ?_
       refine T.pass (by kernel_rfl) (by kernel_rfl) ?_
       refine T.pass (by kernel_rfl) (by kernel_rfl) ?_
       refine T.pass (by kernel_rfl) (by kernel_rfl) ?_
       refine T.pass (by kernel_rfl) (by kernel_rfl) ?_
       refine T.pass (by kernel_rfl) (by kernel_rfl) ?_
       refine T.pass (by kernel_rfl) (by kernel_rfl) ?_
       refine T.pass (by kernel_rfl) (by kernel_rfl) ?_
       refine T.pure (.bool true) (by kernel_rfl) (fun _ => by kernel_rfl) ?_
       refine T.nil ?_
       cases hX1
       exact fun a w' hf hh => And.intro (((((Fr.nil hf).pick hf 51 rfl).pick hf 17 rfl).pick hf 16 rfl).pick hf 1 rfl) (hh.sub (.cons_cons _ List.Sublist.slnil))
     ·
      rintro a w' ⟨hf, hh⟩
      refine (?_ : T 85 w V1 [box b1 26 ((.slice A1 p0.run.length c1) :: (DA16.cells p0.roles ++ (DA16.cells p0.fed)))] [(1, .pointer (some ⟨b1, 0, none⟩)), (16, .agg #[.int .i64 p0.roles.x0, .int .i64 p0.roles.x1, .int .i64 p0.roles.x2, .int .i64 p0.roles.x3, .int .i64 p0.roles.x4, .int .i64 p0.roles.x5, .int .i64 p0.roles.x6, .int .i64 p0.roles.x7, .int .i64 p0.roles.x8, .int .i64 p0.roles.x9, .int .i64 p0.roles.x10, .int .i64 p0.roles.x11, .int .i64 p0.roles.x12, .int .i64 p0.roles.x13, .int .i64 p0.roles.x14, .int .i64 p0.roles.x15]), (17, .int .i64 x1), (51, .bool z1)] _) a w' hf hh
      clear hf hh
      refine T.cond z1 (by kernel_rfl) (by kernel_rfl) (fun hc3 => ?_) (fun hc3 => ?_)
      ·
       rw [hc3, cond_true] at hY1
       refine T.seq ?_
       refine T.region ?_
       refine T.pure (.int .i64 3) (by kernel_rfl) (fun _ => by kernel_rfl) ?_
       refine T.nil ?_
       cases hY1
       cases (hr1 _ rfl)
       try dsimp only at hF
       cases hF
       refine T.ret rfl ?_
       exact T.ret1 rfl (ResIs.tmp rfl) fun w' hh => ⟨_, rfl, hh.below, (show _ from rfl)⟩
      ·
       rw [hc3, cond_false] at hY1
       refine T.skip_code ?_
       refine T.region ?_
       refine T.pure (.int .i64 (IntKind.i64.wrap (x1 + 1))) (by kernel_rfl) (fun _ => by kernel_rfl) ?_
       refine T.pure (.int .i64 (IntKind.i64.wrap (x1 + 1))) (by kernel_rfl) (fun _ => by kernel_rfl) ?_
       refine T.nil ?_
       cases hY1
       exact fun a w' hf hh => Exists.intro (IntKind.i64.wrap (x1 + 1)) (And.intro rfl (And.intro ((((Fr.nil hf).pick hf 17 rfl).pick hf 16 rfl).pick hf 1 rfl) (hh.sub (.cons_cons _ List.Sublist.slnil))))
    ·
     rw [hc2, cond_false] at hY1
     refine T.exit ?_
     cases hY1
     cases (hr1 _ rfl)
     exact fun a w' hf hh => And.intro rfl (And.intro ((Fr.nil hf).pick hf 1 rfl) (hh.sub (.cons_cons _ List.Sublist.slnil)))
  ·
   rintro a w' ⟨rfl, hf, hh⟩
   try dsimp only at hF
   refine (?_ : T 85 w V1 [box b1 26 ((.slice A1 p0.run.length c1) :: (DA16.cells p0.roles ++ (DA16.cells p0.fed)))] [(1, .pointer (some ⟨b1, 0, none⟩))] _) a w' hf hh
   clear hf hh
   refine T.seq ?_
   refine T.seq ?_
   refine T.region ?_
   refine T.pure (.pointer (some ⟨b1, 0, none⟩)) (by kernel_rfl) (fun _ => by kernel_rfl) ?_
   refine T.look (.slice A1 p0.run.length c1) (by kernel_rfl) (fun w' hh => exec_load1 rfl rfl (by kernel_rfl) (hh.cellBox (i := 0) (by rfl) 0)) ?_
   refine T.pure (.int .i64 (p0.run.length : Int)) (by kernel_rfl) (fun _ => by kernel_rfl) ?_
   refine T.pure (.int .i64 0) (by kernel_rfl) (fun _ => by kernel_rfl) ?_
   refine T.nil ?_
   obtain ⟨q2, hz2, hF⟩ := Option.bind_eq_some_iff.1 hF
   refine T.mid (fun a w' => q2 = Sum.inl () ∧ Fr 85 [] a ∧ Hp w V1 [] w') ?_ ?_
   ·
    refine T.block ?_
    refine T.iter (fun x2 a w' => Fr 85 [(1, .pointer (some ⟨b1, 0, none⟩)), (54, .slice A1 p0.run.length c1), (55, .int .i64 (p0.run.length : Int)), (56, .int .i64 x2)] a ∧ Hp w V1 [box b1 26 ((.slice A1 p0.run.length c1) :: (DA16.cells p0.roles ++ (DA16.cells p0.fed)))] w') hz2 ?_ ?_
    ·
     exact fun a w' hf hh => And.intro (((((Fr.nil hf).pick hf 56 rfl).pick hf 55 rfl).pick hf 54 rfl).pick hf 1 rfl) (hh.sub (.cons_cons _ List.Sublist.slnil))
    ·
     rintro x2 y2 hY2 hr2 a w' ⟨hf, hh⟩
     refine (?_ : T 85 w V1 [box b1 26 ((.slice A1 p0.run.length c1) :: (DA16.cells p0.roles ++ (DA16.cells p0.fed)))] [(1, .pointer (some ⟨b1, 0, none⟩)), (54, .slice A1 p0.run.length c1), (55, .int .i64 (p0.run.length : Int)), (56, .int .i64 x2)] _) a w' hf hh
     clear hf hh
     try dsimp only at hY2
     refine T.seq ?_
     refine T.region ?_
     refine T.pure (.bool (decide (x2 < (p0.run.length : Int)))) (by kernel_rfl) (fun _ => by kernel_rfl) ?_
     refine T.nil ?_
     refine T.seq ?_
     refine T.cond (decide (x2 < (p0.run.length : Int))) (by kernel_rfl) (by kernel_rfl) (fun hc4 => ?_) (fun hc4 => ?_)
     ·
      rw [hc4, cond_true] at hY2
      refine T.skip_code ?_
      refine T.seq ?_
      refine T.block ?_
      refine T.seq ?_
      refine T.region ?_
      obtain ⟨e5, hb6, hY2⟩ := Option.bind_eq_some_iff.1 hY2
      obtain ⟨hi13, hi14, hi15⟩ := idx_some hb6
      refine T.look (.pointer (some ((sadr A1).add (x2.toNat * 6)))) (by kernel_rfl) (fun w' hh => exec_indexAddr (e := 41) (s := 6) rfl rfl rfl (by kernel_rfl) (by kernel_rfl) hi13 hi14 ((SlOk.mono hs1 hV1).some_ hi15 (by decide))) ?_
      refine T.look (.agg #[.int .i64 e5.key.pfs, .int .i64 e5.key.obj, .int .i64 e5.key.off, .int .i64 e5.made, .int .i64 e5.gone, .string e5.val]) (by kernel_rfl) (fun w' hh => exec_loadN (cs := [.int .i64 e5.key.pfs, .int .i64 e5.key.obj, .int .i64 e5.key.off, .int .i64 e5.made, .int .i64 e5.gone, .string e5.val]) rfl rfl (by kernel_rfl) (by kernel_rfl) (fun j u hj => (hh.cell_view (SlOk.cellF (E := eElem) (SlOk.mono hs1 hV1) hi15 j (fun _ _ _ h => h) hj)))) ?_
      refine T.step (W1.new 41 [.int .i64 0, .int .i64 0, .int .i64 0, .int .i64 0, .int .i64 0, .string (ByteArray.mk #[])] (fun b => .pointer (some ⟨b, 0, none⟩)) (by kernel_rfl) (fun _ => by kernel_rfl) (fun b2 => ?_))
      refine T.step (W1.store 0 [.int .i64 e5.key.pfs, .int .i64 e5.key.obj, .int .i64 e5.key.off, .int .i64 e5.made, .int .i64 e5.gone, .string e5.val] [box b2 41 [.int .i64 e5.key.pfs, .int .i64 e5.key.obj, .int .i64 e5.key.off, .int .i64 e5.made, .int .i64 e5.gone, .string e5.val], box b1 26 ((.slice A1 p0.run.length c1) :: (DA16.cells p0.roles ++ (DA16.cells p0.fed)))] (by rfl) rfl (by kernel_rfl) (fun w' hw => exec_store (vs := [.int .i64 e5.key.pfs, .int .i64 e5.key.obj, .int .i64 e5.key.off, .int .i64 e5.made, .int .i64 e5.gone, .string e5.val]) rfl rfl rfl rfl (by kernel_rfl) (one_of rfl) (by simp) rfl hw) ?_)
      refine T.nil ?_
      refine T.seq ?_
      refine T.region ?_
      refine T.pure (.pointer (some ⟨b2, 0, none⟩)) (by kernel_rfl) (fun _ => by kernel_rfl) ?_
      refine T.pure (.pointer (some ⟨b2, 0, none⟩)) (by kernel_rfl) (fun _ => by kernel_rfl) ?_
      refine T.look (.int .i64 e5.key.pfs) (by kernel_rfl) (fun w' hh => exec_load1 rfl rfl (by kernel_rfl) (hh.cellBox (i := 0) (by rfl) 0)) ?_
      refine T.pure (.int .i64 e5.key.pfs) (by kernel_rfl) (fun _ => by kernel_rfl) ?_
      refine T.nil ?_
      obtain ⟨z2, hX2, hY2⟩ := Option.bind_eq_some_iff.1 hY2
      refine T.cut (fun a w' => Fr 85 [(1, .pointer (some ⟨b1, 0, none⟩)), (54, .slice A1 p0.run.length c1), (55, .int .i64 (p0.run.length : Int)), (56, .int .i64 x2), (83, .bool z2)] a ∧ Hp w V1 [box b1 26 ((.slice A1 p0.run.length c1) :: (DA16.cells p0.roles ++ (DA16.cells p0.fed)))] w') ?_ ?_
      ·
       refine T.quiet (by kernel_rfl) (by kernel_rfl) ?_
       refine TQ.pure (.int .i64 e5.key.pfs) (by kernel_rfl) (fun _ => by kernel_rfl) ?_
       refine TQ.pure (.pointer (some ⟨b1, 1, none⟩)) (by kernel_rfl) (fun _ => by kernel_rfl) ?_
       obtain ⟨e6, hb7, hX2⟩ := Option.bind_eq_some_iff.1 hX2
       obtain ⟨hi16, hi17, hi18⟩ := idx_some hb7
       refine TQ.look (.pointer (some ((⟨b1, 1, none⟩ : Addr).add (e5.key.pfs.toNat * 1)))) (by kernel_rfl) (fun w' hh => exec_arrAddr (e := 3) rfl rfl rfl (by kernel_rfl) (by kernel_rfl) hi16 hi17) ?_
       refine TQ.look (.int .i64 e6) (by kernel_rfl) (fun w' hh => exec_load1 rfl rfl (by kernel_rfl) (hh.arr_at (i := 1) (by rfl) 1 p0.roles rfl hi18)) ?_
       refine TQ.pure (.bool (e6 == 0)) (by kernel_rfl) (fun _ => by kernel_rfl) ?_
       refine TQ.pure (.bool (e6 == 0)) (by kernel_rfl) (fun _ => by kernel_rfl) ?_
       cases hg6 : (e6 == 0)
       ·
        skip
        rw [hg6, cond_false] at hX2
        refine TQ.pure (.int .i64 e5.key.pfs) (by kernel_rfl) (fun _ => by kernel_rfl) ?_
        refine TQ.pure (.pointer (some ⟨b1, 1, none⟩)) (by kernel_rfl) (fun _ => by kernel_rfl) ?_
        obtain ⟨e7, hb8, hX2⟩ := Option.bind_eq_some_iff.1 hX2
        obtain ⟨hi19, hi20, hi21⟩ := idx_some hb8
        refine TQ.look (.pointer (some ((⟨b1, 1, none⟩ : Addr).add (e5.key.pfs.toNat * 1)))) (by kernel_rfl) (fun w' hh => exec_arrAddr (e := 3) rfl rfl rfl (by kernel_rfl) (by kernel_rfl) hi19 hi20) ?_
        refine TQ.look (.int .i64 e7) (by kernel_rfl) (fun w' hh => exec_load1 rfl rfl (by kernel_rfl) (hh.arr_at (i := 1) (by rfl) 1 p0.roles rfl hi21)) ?_
        refine TQ.pure (.bool (e7 == 2)) (by kernel_rfl) (fun _ => by kernel_rfl) ?_
        refine TQ.pure (.bool (e7 == 2)) (by kernel_rfl) (fun _ => by kernel_rfl) ?_
        cases hg7 : (e7 == 2)
        ·
         skip
         rw [hg7, cond_false] at hX2
         refine TQ.pass (by kernel_rfl) (by kernel_rfl) ?_
         refine TQ.pass (by kernel_rfl) (by kernel_rfl) ?_
         refine TQ.pass (by kernel_rfl) (by kernel_rfl) ?_
         refine TQ.pass (by kernel_rfl) (by kernel_rfl) ?_
         refine TQ.pass (by kernel_rfl) (by kernel_rfl) ?_
         refine TQ.pass (by kernel_rfl) (by kernel_rfl) ?_
         refine TQ.pass (by kernel_rfl) (by kernel_rfl) ?_
         refine TQ.pure (.bool false) (by kernel_rfl) (fun _ => by kernel_rfl) ?_
         refine TQ.pure (.bool false) (by kernel_rfl) (fun _ => by kernel_rfl) ?_
         refine TQ.nil ?_
         cases hX2
         exact fun a w' hf hh => And.intro ((((((Fr.nil hf).pick hf 83 rfl).pick hf 56 rfl).pick hf 55 rfl).pick hf 54 rfl).pick hf 1 rfl) (hh.sub (.cons _ (.cons_cons _ List.Sublist.slnil)))
        ·
         skip
         rw [hg7, cond_true] at hX2
         refine TQ.look (.agg #[.int .i64 e5.key.pfs, .int .i64 e5.key.obj, .int .i64 e5.key.off, .int .i64 e5.made, .int .i64 e5.gone, .string e5.val]) (by kernel_rfl) (fun w' hh => exec_loadN (cs := [.int .i64 e5.key.pfs, .int .i64 e5.key.obj, .int .i64 e5.key.off, .int .i64 e5.made, .int .i64 e5.gone, .string e5.val]) rfl rfl (by kernel_rfl) (by kernel_rfl) (fun j u hj => (hh.box_at (i := 0) (cs := [.int .i64 e5.key.pfs, .int .i64 e5.key.obj, .int .i64 e5.key.off, .int .i64 e5.made, .int .i64 e5.gone, .string e5.val]) (by rfl) 0 j).trans (seg_at (n := 6) (by rfl) hj))) ?_
         obtain ⟨r2, hb9, hX2⟩ := Option.bind_eq_some_iff.1 hX2
         refine TQ.call (vSc eInt) r2 60 #[.agg #[.int .i64 e5.key.pfs, .int .i64 e5.key.obj, .int .i64 e5.key.off, .int .i64 e5.made, .int .i64 e5.gone, .string e5.val]] (.int .i64 r2) (fun V u hu => sureInt V u _ hu) (by kernel_rfl) (fun _ => by kernel_rfl) (fun w' hh => elem_Last_l e5 r2 hb9 w' ) ?_
         refine TQ.pure (.int .i64 e5.key.pfs) (by kernel_rfl) (fun _ => by kernel_rfl) ?_
         refine TQ.pure (.pointer (some ⟨b1, 17, none⟩)) (by kernel_rfl) (fun _ => by kernel_rfl) ?_
         obtain ⟨e8, hb10, hX2⟩ := Option.bind_eq_some_iff.1 hX2
         obtain ⟨hi22, hi23, hi24⟩ := idx_some hb10
         refine TQ.look (.pointer (some ((⟨b1, 17, none⟩ : Addr).add (e5.key.pfs.toNat * 1)))) (by kernel_rfl) (fun w' hh => exec_arrAddr (e := 3) rfl rfl rfl (by kernel_rfl) (by kernel_rfl) hi22 hi23) ?_
         refine TQ.look (.int .i64 e8) (by kernel_rfl) (fun w' hh => exec_load1 rfl rfl (by kernel_rfl) (hh.arr_at (i := 1) (by rfl) 17 p0.fed rfl hi24)) ?_
         refine TQ.pure (.bool (decide (e8 < r2))) (by kernel_rfl) (fun _ => by kernel_rfl) ?_
         refine TQ.pure (.bool (decide (e8 < r2))) (by kernel_rfl) (fun _ => by kernel_rfl) ?_
         refine TQ.pure (.bool (decide (e8 < r2))) (by kernel_rfl) (fun _ => by kernel_rfl) ?_
         refine TQ.nil ?_
         cases hX2
         exact fun a w' hf hh => And.intro ((((((Fr.nil hf).pick hf 83 rfl).pick hf 56 rfl).pick hf 55 rfl).pick hf 54 rfl).pick hf 1 rfl) (hh.sub (.cons _ (.cons_cons _ List.Sublist.slnil)))
       ·
        skip
        rw [hg6, cond_true] at hX2
        refine TQ.pass (by kernel_rfl) (by kernel_rfl) ?_
        refine TQ.pass (by kernel_rfl) (by kernel_rfl) ?_
        refine TQ.pass (by kernel_rfl) (by kernel_rfl) ?_
        refine TQ.pass (by kernel_rfl) (by kernel_rfl) ?_
        refine TQ.pass (by kernel_rfl) (by kernel_rfl) ?_
        refine TQ.pass (by kernel_rfl) (by kernel_rfl) ?_
        refine TQ.pass (by kernel_rfl) (by kernel_rfl) ?_
        refine TQ.pass (by kernel_rfl) (by kernel_rfl) ?_
        refine TQ.pass (by kernel_rfl) (by kernel_rfl) ?_
        refine TQ.pass (by kernel_rfl) (by kernel_rfl) ?_
        refine TQ.pass (by kernel_rfl) (by kernel_rfl) ?_
        refine TQ.pass (by kernel_rfl) (by kernel_rfl) ?_
        refine TQ.pass (by kernel_rfl) (by kernel_rfl) ?_
        refine TQ.pass (by kernel_rfl) (by kernel_rfl) ?_
        refine TQ.pure (.bool true) (by kernel_rfl) (fun _ => by kernel_rfl) ?_
        refine TQ.nil ?_
        cases hX2
        exact fun a w' hf hh => And.intro ((((((Fr.nil hf).pick hf 83 rfl).pick hf 56 rfl).pick hf 55 rfl).pick hf 54 rfl).pick hf 1 rfl) (hh.sub (.cons _ (.cons_cons _ List.Sublist.slnil)))
      ·
       rintro a w' ⟨hf, hh⟩
       refine (?_ : T 85 w V1 [box b1 26 ((.slice A1 p0.run.length c1) :: (DA16.cells p0.roles ++ (DA16.cells p0.fed)))] [(1, .pointer (some ⟨b1, 0, none⟩)), (54, .slice A1 p0.run.length c1), (55, .int .i64 (p0.run.length : Int)), (56, .int .i64 x2), (83, .bool z2)] _) a w' hf hh
       clear hf hh
       refine T.cond z2 (by kernel_rfl) (by kernel_rfl) (fun hc5 => ?_) (fun hc5 => ?_)
       ·
        rw [hc5, cond_true] at hY2
        refine T.seq ?_
        refine T.region ?_
        refine T.pure (.int .i64 3) (by kernel_rfl) (fun _ => by kernel_rfl) ?_
        refine T.nil ?_
        cases hY2
        cases (hr2 _ rfl)
        try dsimp only at hF
        cases hF
        refine T.ret rfl ?_
        exact T.ret1 rfl (ResIs.tmp rfl) fun w' hh => ⟨_, rfl, hh.below, (show _ from rfl)⟩
       ·
        rw [hc5, cond_false] at hY2
        refine T.skip_code ?_
        refine T.region ?_
        refine T.pure (.int .i64 (IntKind.i64.wrap (x2 + 1))) (by kernel_rfl) (fun _ => by kernel_rfl) ?_
        refine T.pure (.int .i64 (IntKind.i64.wrap (x2 + 1))) (by kernel_rfl) (fun _ => by kernel_rfl) ?_
        refine T.nil ?_
        cases hY2
        exact fun a w' hf hh => Exists.intro (IntKind.i64.wrap (x2 + 1)) (And.intro rfl (And.intro (((((Fr.nil hf).pick hf 56 rfl).pick hf 55 rfl).pick hf 54 rfl).pick hf 1 rfl) (hh.sub (.cons_cons _ List.Sublist.slnil))))
     ·
      rw [hc4, cond_false] at hY2
      refine T.exit ?_
      cases hY2
      cases (hr2 _ rfl)
      exact fun a w' hf hh => And.intro rfl (And.intro (Fr.nil hf) (hh.sub (.cons _ List.Sublist.slnil)))
   ·
    rintro a w' ⟨rfl, hf, hh⟩
    try dsimp only at hF
    refine (?_ : T 85 w V1 [] [] _) a w' hf hh
    clear hf hh
    refine T.seq ?_
    refine T.region ?_
    refine T.pure (.int .i64 0) (by kernel_rfl) (fun _ => by kernel_rfl) ?_
    refine T.nil ?_
    cases hF
    refine T.ret rfl ?_
    exact T.ret1 rfl (ResIs.tmp rfl) fun w' hh => ⟨_, rfl, hh.below, (show _ from rfl)⟩

set_option maxRecDepth 100000 in
set_option maxHeartbeats 4000000 in
theorem realm_copied_l (p0 : DBook) (r : DBook) (hF : realm_copied p0 = some r) (w : World) (A1 : Option Addr) (c1 : Nat) (hs1 : SlOk (vw w) eElem A1 c1 p0.run) :
    Calls Try.prog 48 #[.agg (List.toArray ((.slice A1 p0.run.length c1) :: (DA16.cells p0.roles ++ (DA16.cells p0.fed))))] w (Post (vAg eBook) r w) := by
 unfold realm_copied at hF
 refine T.start (l := [.agg (List.toArray ((.slice A1 p0.run.length c1) :: (DA16.cells p0.roles ++ (DA16.cells p0.fed))))]) Try.func48 rfl rfl rfl ?_
 refine T.seq ?_
 refine T.region ?_
 refine T.step (W1.new 26 ((.slice A1 p0.run.length c1) :: (DA16.cells p0.roles ++ (DA16.cells p0.fed))) (fun b => .pointer (some ⟨b, 0, none⟩)) (by kernel_rfl) (fun _ => by kernel_rfl) (fun b1 => ?_))
 refine T.step (W1.new 26 ((.slice none 0 0) :: (DA16.cells (DA16.mk 0 0 0 0 0 0 0 0 0 0 0 0 0 0 0 0) ++ (DA16.cells (DA16.mk 0 0 0 0 0 0 0 0 0 0 0 0 0 0 0 0)))) (fun b => .pointer (some ⟨b, 0, none⟩)) (by kernel_rfl) (fun _ => by kernel_rfl) (fun b2 => ?_))
 refine T.nil ?_
 refine T.seq ?_
 refine T.region ?_
 refine T.pure (.pointer (some ⟨b1, 0, none⟩)) (by kernel_rfl) (fun _ => by kernel_rfl) ?_
 refine T.look (.slice A1 p0.run.length c1) (by kernel_rfl) (fun w' hh => exec_load1 rfl rfl (by kernel_rfl) (hh.cellBox (i := 1) (by rfl) 0)) ?_
 refine T.rownil 41 eElem ?_
 obtain ⟨y1, hb1, hF⟩ := Option.bind_eq_some_iff.1 hF
 obtain ⟨hb1_r, hb1_m, rfl⟩ := grow_some hb1
 obtain ⟨ti, hti, hz1, hz2, hz3⟩ := info_parts (P := Try.prog) (e := 41) (z := .agg #[.int .i64 0, .int .i64 0, .int .i64 0, .int .i64 0, .int .i64 0, .string (ByteArray.mk #[])]) (size := 6) (bytes := 56) (by kernel_rfl)
 refine T.step (W1.append (E := eElem) (l := ([] : List DElem)) (m := p0.run) 0 _ _ 56 ti _ (by rfl) (by kernel_rfl) rfl (by kernel_rfl) hti hz1 hz2 hz3 rfl (by decide) rfl rfl (fun w' hh => (SlOk.srcF (SlOk.mono hs1 hh.view) (fun _ _ _ _ h => h))) hb1_r hb1_m (fun A2 c2 => ?_))
 refine T.pure (.pointer (some ⟨b1, 0, none⟩)) (by kernel_rfl) (fun _ => by kernel_rfl) ?_
 refine T.step (W1.store 2 ((.slice A2 ((([] : List DElem) ++ p0.run).length) c2) :: (DA16.cells p0.roles ++ (DA16.cells p0.fed))) [row 41 eElem A2 c2 (([] : List DElem) ++ p0.run), box b2 26 ((.slice none 0 0) :: (DA16.cells (DA16.mk 0 0 0 0 0 0 0 0 0 0 0 0 0 0 0 0) ++ (DA16.cells (DA16.mk 0 0 0 0 0 0 0 0 0 0 0 0 0 0 0 0)))), box b1 26 ((.slice A2 ((([] : List DElem) ++ p0.run).length) c2) :: (DA16.cells p0.roles ++ (DA16.cells p0.fed)))] (by rfl) rfl (by kernel_rfl) (fun w' hw => exec_store (vs := [.slice A2 ((([] : List DElem) ++ p0.run).length) c2]) rfl rfl rfl rfl (by kernel_rfl) (one_of rfl) (Nat.le_of_ble_eq_true (by rfl)) rfl hw) ?_)
 refine T.nil ?_
 refine T.seq ?_
 refine T.region ?_
 refine T.look (.agg (List.toArray ((.slice A2 ((([] : List DElem) ++ p0.run).length) c2) :: (DA16.cells p0.roles ++ (DA16.cells p0.fed))))) (by kernel_rfl) (fun w' hh => exec_loadN (cs := ((.slice A2 ((([] : List DElem) ++ p0.run).length) c2) :: (DA16.cells p0.roles ++ (DA16.cells p0.fed)))) rfl rfl (by kernel_rfl) (by kernel_rfl) (fun j u hj => (hh.box_at (i := 2) (cs := ((.slice A2 ((([] : List DElem) ++ p0.run).length) c2) :: (DA16.cells p0.roles ++ (DA16.cells p0.fed)))) (by rfl) 0 j).trans (seg_at (n := 33) (by rfl) hj))) ?_
 refine T.step (W1.store 1 ((.slice A2 ((([] : List DElem) ++ p0.run).length) c2) :: (DA16.cells p0.roles ++ (DA16.cells p0.fed))) [row 41 eElem A2 c2 (([] : List DElem) ++ p0.run), box b2 26 ((.slice A2 ((([] : List DElem) ++ p0.run).length) c2) :: (DA16.cells p0.roles ++ (DA16.cells p0.fed))), box b1 26 ((.slice A2 ((([] : List DElem) ++ p0.run).length) c2) :: (DA16.cells p0.roles ++ (DA16.cells p0.fed)))] (by rfl) rfl (by kernel_rfl) (fun w' hw => exec_store (vs := ((.slice A2 ((([] : List DElem) ++ p0.run).length) c2) :: (DA16.cells p0.roles ++ (DA16.cells p0.fed)))) rfl rfl rfl rfl (by kernel_rfl) (one_of rfl) (Nat.le_of_ble_eq_true (by rfl)) rfl hw) ?_)
 refine T.nil ?_
 cases hF
 refine T.ret rfl ?_
 exact T.ret1 rfl (ResIs.cellN 1 rfl (by rfl) (fun _ => by kernel_rfl) (fun _ => by kernel_rfl)) fun w' hh => ⟨_, rfl, hh.below, (vAg.mk ⟨_, _, rfl, (hh.row_fresh (i := 0) (by rfl) (fun _ h => h))⟩)⟩

set_option maxRecDepth 100000 in
set_option maxHeartbeats 4000000 in
theorem realm_look_l (F : Nat) (p0 : DBook) (p1 : Int) (r : Int) (hF : realm_look F p0 p1 = some r) (w : World) (A1 : Option Addr) (c1 : Nat) (hs1 : SlOk (vw w) eElem A1 c1 p0.run) :
    Calls Try.prog 47 #[.agg (List.toArray ((.slice A1 p0.run.length c1) :: (DA16.cells p0.roles ++ (DA16.cells p0.fed)))), .int .i64 p1] w (Post (vSc eInt) r w) := by
 unfold realm_look at hF
 refine T.start (l := [.agg (List.toArray ((.slice A1 p0.run.length c1) :: (DA16.cells p0.roles ++ (DA16.cells p0.fed)))), .int .i64 p1]) Try.func47 rfl rfl rfl ?_
 refine T.seq ?_
 refine T.region ?_
 refine T.step (W1.new 26 ((.slice A1 p0.run.length c1) :: (DA16.cells p0.roles ++ (DA16.cells p0.fed))) (fun b => .pointer (some ⟨b, 0, none⟩)) (by kernel_rfl) (fun _ => by kernel_rfl) (fun b1 => ?_))
 refine T.pure (.int .i64 0) (by kernel_rfl) (fun _ => by kernel_rfl) ?_
 refine T.nil ?_
 refine T.seq ?_
 refine T.seq ?_
 refine T.region ?_
 refine T.look (.agg (List.toArray ((.slice A1 p0.run.length c1) :: (DA16.cells p0.roles ++ (DA16.cells p0.fed))))) (by kernel_rfl) (fun w' hh => exec_loadN (cs := ((.slice A1 p0.run.length c1) :: (DA16.cells p0.roles ++ (DA16.cells p0.fed)))) rfl rfl (by kernel_rfl) (by kernel_rfl) (fun j u hj => (hh.box_at (i := 0) (cs := ((.slice A1 p0.run.length c1) :: (DA16.cells p0.roles ++ (DA16.cells p0.fed)))) (by rfl) 0 j).trans (seg_at (n := 33) (by rfl) hj))) ?_
 obtain ⟨r1, hb1, hF⟩ := Option.bind_eq_some_iff.1 hF
 refine T.step (W1.call (vSc eInt) r1 35 #[.agg (List.toArray ((.slice A1 p0.run.length c1) :: (DA16.cells p0.roles ++ (DA16.cells p0.fed))))] (by kernel_rfl) (fun _ => by kernel_rfl) (fun w' hh => realm_Check_l F p0 r1 hb1 w' A1 c1 (SlOk.mono hs1 hh.view)) ?_)
 intro u V1 hV1 hu
 obtain rfl := sureInt _ _ _ hu
 refine T.pure (.int .i64 r1) (by kernel_rfl) (fun _ => by kernel_rfl) ?_
 refine T.nil ?_
 refine T.seq ?_
 refine T.region ?_
 refine T.pure (.int .i64 r1) (by kernel_rfl) (fun _ => by kernel_rfl) ?_
 refine T.pure (.bool (r1 != 0)) (by kernel_rfl) (fun _ => by kernel_rfl) ?_
 refine T.nil ?_
 refine T.cond (r1 != 0) (by kernel_rfl) (by kernel_rfl) (fun hc1 => ?_) (fun hc1 => ?_)
 ·
  rw [hc1, cond_true] at hF
  refine T.seq ?_
  refine T.region ?_
  refine T.pure (.int .i64 r1) (by kernel_rfl) (fun _ => by kernel_rfl) ?_
  refine T.pure (.int .i64 r1) (by kernel_rfl) (fun _ => by kernel_rfl) ?_
  refine T.nil ?_
  cases hF
  refine T.ret rfl ?_
  exact T.ret1 rfl (ResIs.tmp rfl) fun w' hh => ⟨_, rfl, hh.below, (show _ from rfl)⟩
 ·
  rw [hc1, cond_false] at hF
  refine T.skip_code ?_
  refine T.seq ?_
  refine T.cut (fun a w' => Fr 17 [(16, .bool ((decide (p1 < 0)) || (decide ((15 : Int) < p1))))] a ∧ Hp w V1 [] w') ?_ ?_
  ·
   refine T.region ?_
   refine T.pure (.int .i64 p1) (by kernel_rfl) (fun _ => by kernel_rfl) ?_
   refine T.pure (.bool (decide (p1 < 0))) (by kernel_rfl) (fun _ => by kernel_rfl) ?_
   refine T.pure (.bool (decide (p1 < 0))) (by kernel_rfl) (fun _ => by kernel_rfl) ?_
   cases hg1 : decide (p1 < 0)
   ·
    skip
    refine T.pure (.int .i64 p1) (by kernel_rfl) (fun _ => by kernel_rfl) ?_
    refine T.pure (.bool (decide ((15 : Int) < p1))) (by kernel_rfl) (fun _ => by kernel_rfl) ?_
    refine T.pure (.bool (decide ((15 : Int) < p1))) (by kernel_rfl) (fun _ => by kernel_rfl) ?_
    refine T.nil ?_
    exact fun a w' hf hh => And.intro ((Fr.nil hf).pick hf 16 rfl) (hh.sub (.cons _ List.Sublist.slnil))
   ·
    skip
    refine T.pass (by kernel_rfl) (by kernel_rfl) ?_
    refine T.pass (by kernel_rfl) (by kernel_rfl) ?_
    refine T.pure (.bool true) (by kernel_rfl) (fun _ => by kernel_rfl) ?_
    refine T.nil ?_
    exact fun a w' hf hh => And.intro ((Fr.nil hf).pick hf 16 rfl) (hh.sub (.cons _ List.Sublist.slnil))
  ·
   rintro a w' ⟨hf, hh⟩
   refine (?_ : T 17 w V1 [] [(16, .bool ((decide (p1 < 0)) || (decide ((15 : Int) < p1))))] _) a w' hf hh
   clear hf hh
   refine T.cond ((decide (p1 < 0)) || (decide ((15 : Int) < p1))) (by kernel_rfl) (by kernel_rfl) (fun hc2 => ?_) (fun hc2 => ?_)
   ·
    rw [hc2, cond_true] at hF
    refine T.seq ?_
    refine T.region ?_
    refine T.pure (.int .i64 1) (by kernel_rfl) (fun _ => by kernel_rfl) ?_
    refine T.nil ?_
    cases hF
    refine T.ret rfl ?_
    exact T.ret1 rfl (ResIs.tmp rfl) fun w' hh => ⟨_, rfl, hh.below, (show _ from rfl)⟩
   ·
    rw [hc2, cond_false] at hF
    refine T.skip_code ?_
    refine T.seq ?_
    refine T.region ?_
    refine T.pure (.int .i64 0) (by kernel_rfl) (fun _ => by kernel_rfl) ?_
    refine T.nil ?_
    cases hF
    refine T.ret rfl ?_
    exact T.ret1 rfl (ResIs.tmp rfl) fun w' hh => ⟨_, rfl, hh.below, (show _ from rfl)⟩

end Go.Proofs.Ytiomghobbcgkdaa
