/- The Go functions of group WFileSame compute the pure functions of that group: written by walkgen.py. Condition of each: the pure function yields a result. -/
import Derived.Test.YtiaoncjkfgebdaaFileL
import Derived.Test.YtiaoncjkfgebdaaEqsL
import Derived.Test.YtiaoncjkfgebdaaWFileSameF
import Derived.Test.YtiaoncjkfgebdaaEqL
namespace Go.Proofs.Ytiaoncjkfgebdaa
set_option linter.unusedVariables false

set_option maxRecDepth 100000 in
set_option maxHeartbeats 4000000 in
theorem annalkeep_FileSame_l (F : Nat) (p0 : (List DElem)) (p1 : Int) (p2 : Int) (p3 : Int) (r : Bool) (hF : annalkeep_FileSame F p0 p1 p2 p3 = some r) (w : World) (A1 : Option Addr) (c1 : Nat) (hs1 : SlOk (vw w) eElem A1 c1 p0) :
    Calls Try.prog 20 #[.slice A1 p0.length c1, .int .i64 p1, .int .i64 p2, .int .i64 p3] w (Post (vSc eBool) r w) := by
  unfold annalkeep_FileSame at hF
  refine T.start (l := [.slice A1 p0.length c1, .int .i64 p1, .int .i64 p2, .int .i64 p3]) Try.func20 rfl rfl rfl ?_
  refine T.seq ?_
  refine T.region ?_
  refine T.pure (.bool false) (by kernel_rfl) (fun _ => by kernel_rfl) ?_
  refine T.nil ?_
  refine T.seq ?_
  refine T.region ?_
  obtain ⟨r1, hb1, hF⟩ := Option.bind_eq_some_iff.1 hF
  refine T.step (W1.call (vT2 (vSc (eList eElem)) (vSc eInt)) r1 54 #[.slice none 0 0, .int .i64 0, .int .i64 5, .string (ByteArray.mk #[97, 98, 99]), .int .i64 1] (by kernel_rfl) (fun _ => by kernel_rfl) (fun w' hh => file_Set_l F ([] : List DElem) 0 5 (ByteArray.mk #[97, 98, 99]) 1 r1 hb1 w' none 0 (SlOk.nil _ _)) ?_)
  intro u V1 hV1 hu
  obtain ⟨u1, u2, rfl, hu1, hu2⟩ := vT2_elim hu
  obtain ⟨A2, c2, rfl, hs2⟩ := vlist_elim hu1
  obtain rfl := sureInt _ _ _ hu2
  refine T.pure (.tuple #[.slice A2 r1.1.length c2, .int .i64 r1.2]) (by kernel_rfl) (fun _ => by kernel_rfl) ?_
  refine T.pure (.slice A2 r1.1.length c2) (by kernel_rfl) (fun _ => by kernel_rfl) ?_
  refine T.pure (.int .i64 r1.2) (by kernel_rfl) (fun _ => by kernel_rfl) ?_
  refine T.pure (.slice A2 r1.1.length c2) (by kernel_rfl) (fun _ => by kernel_rfl) ?_
  refine T.pure (.int .i64 r1.2) (by kernel_rfl) (fun _ => by kernel_rfl) ?_
  refine T.nil ?_
  refine T.seq ?_
  refine T.region ?_
  refine T.pure (.slice A2 r1.1.length c2) (by kernel_rfl) (fun _ => by kernel_rfl) ?_
  obtain ⟨r2, hb2, hF⟩ := Option.bind_eq_some_iff.1 hF
  refine T.step (W1.call (vT2 (vSc (eList eElem)) (vSc eInt)) r2 54 #[.slice A2 r1.1.length c2, .int .i64 0, .int .i64 5, .string (ByteArray.mk #[]), .int .i64 2] (by kernel_rfl) (fun _ => by kernel_rfl) (fun w' hh => file_Set_l F r1.1 0 5 (ByteArray.mk #[]) 2 r2 hb2 w' A2 c2 (SlOk.mono (SlOk.mono hs2 (View.le_trans (made_le _ _) (View.le_refl _))) hh.view)) ?_)
  intro u V2 hV2 hu
  obtain ⟨u3, u4, rfl, hu3, hu4⟩ := vT2_elim hu
  obtain ⟨A3, c3, rfl, hs3⟩ := vlist_elim hu3
  obtain rfl := sureInt _ _ _ hu4
  refine T.pure (.tuple #[.slice A3 r2.1.length c3, .int .i64 r2.2]) (by kernel_rfl) (fun _ => by kernel_rfl) ?_
  refine T.pure (.slice A3 r2.1.length c3) (by kernel_rfl) (fun _ => by kernel_rfl) ?_
  refine T.pure (.int .i64 r2.2) (by kernel_rfl) (fun _ => by kernel_rfl) ?_
  refine T.pure (.slice A3 r2.1.length c3) (by kernel_rfl) (fun _ => by kernel_rfl) ?_
  refine T.pure (.int .i64 r2.2) (by kernel_rfl) (fun _ => by kernel_rfl) ?_
  refine T.nil ?_
  refine T.seq ?_
  obtain ⟨z1, hX1, hF⟩ := Option.bind_eq_some_iff.1 hF
  refine T.cut (fun a w' => Fr 122 [(0, .slice A1 p0.length c1), (1, .int .i64 p1), (2, .int .i64 p2), (3, .int .i64 p3), (50, .bool z1)] a ∧ Hp w V2 [] w') ?_ ?_
  ·
    refine T.region ?_
    refine T.pure (.int .i64 r1.2) (by kernel_rfl) (fun _ => by kernel_rfl) ?_
    refine T.pure (.bool (r1.2 != 0)) (by kernel_rfl) (fun _ => by kernel_rfl) ?_
    refine T.pure (.bool (r1.2 != 0)) (by kernel_rfl) (fun _ => by kernel_rfl) ?_
    cases hg1 : (r1.2 != 0)
    ·
      skip
      rw [hg1, cond_false] at hX1
      refine T.pure (.int .i64 r2.2) (by kernel_rfl) (fun _ => by kernel_rfl) ?_
      refine T.pure (.bool (r2.2 != 0)) (by kernel_rfl) (fun _ => by kernel_rfl) ?_
      refine T.pure (.bool (r2.2 != 0)) (by kernel_rfl) (fun _ => by kernel_rfl) ?_
      refine T.pure (.bool (r2.2 != 0)) (by kernel_rfl) (fun _ => by kernel_rfl) ?_
      cases hg2 : (r2.2 != 0)
      ·
        skip
        rw [hg2, cond_false] at hX1
        refine T.pure (.slice A2 r1.1.length c2) (by kernel_rfl) (fun _ => by kernel_rfl) ?_
        refine T.pure (.int .i64 (r1.1.length : Int)) (by kernel_rfl) (fun _ => by kernel_rfl) ?_
        refine T.pure (.bool ((r1.1.length : Int) != 1)) (by kernel_rfl) (fun _ => by kernel_rfl) ?_
        refine T.pure (.bool ((r1.1.length : Int) != 1)) (by kernel_rfl) (fun _ => by kernel_rfl) ?_
        refine T.pure (.bool ((r1.1.length : Int) != 1)) (by kernel_rfl) (fun _ => by kernel_rfl) ?_
        cases hg3 : ((r1.1.length : Int) != 1)
        ·
          skip
          rw [hg3, cond_false] at hX1
          refine T.pure (.slice A3 r2.1.length c3) (by kernel_rfl) (fun _ => by kernel_rfl) ?_
          refine T.pure (.int .i64 (r2.1.length : Int)) (by kernel_rfl) (fun _ => by kernel_rfl) ?_
          refine T.pure (.bool ((r2.1.length : Int) != 1)) (by kernel_rfl) (fun _ => by kernel_rfl) ?_
          refine T.pure (.bool ((r2.1.length : Int) != 1)) (by kernel_rfl) (fun _ => by kernel_rfl) ?_
          refine T.pure (.bool ((r2.1.length : Int) != 1)) (by kernel_rfl) (fun _ => by kernel_rfl) ?_
          cases hg4 : ((r2.1.length : Int) != 1)
          ·
            skip
            rw [hg4, cond_false] at hX1
            refine T.pure (.slice A3 r2.1.length c3) (by kernel_rfl) (fun _ => by kernel_rfl) ?_
            obtain ⟨e1, hb3, hX1⟩ := Option.bind_eq_some_iff.1 hX1
            obtain ⟨hi1, hi2, hi3⟩ := idx_some hb3
            refine T.look (.pointer (some ((sadr A3).add (((0 : Int).toNat) * 6)))) (by kernel_rfl) (fun w' hh => exec_indexAddr (e := 26) (s := 6) rfl rfl rfl (by kernel_rfl) (by kernel_rfl) hi1 hi2 ((SlOk.mono hs3 (View.le_trans (made_le _ _) (View.le_refl _))).some_ hi3 (by decide))) ?_
            refine T.pure (.pointer (some (((sadr A3).add (((0 : Int).toNat) * 6)).add 4))) (by kernel_rfl) (fun _ => by kernel_rfl) ?_
            refine T.look (.int .i64 e1.gone) (by kernel_rfl) (fun w' hh => exec_load1 rfl rfl (by kernel_rfl) (hh.cell_view (SlOk.cellF (E := eElem) (SlOk.mono hs3 (View.le_trans (made_le _ _) (View.le_refl _))) hi3 4 (fun _ _ _ h => h) rfl))) ?_
            refine T.pure (.bool (e1.gone != 2)) (by kernel_rfl) (fun _ => by kernel_rfl) ?_
            refine T.pure (.bool (e1.gone != 2)) (by kernel_rfl) (fun _ => by kernel_rfl) ?_
            refine T.nil ?_
            cases hX1
            exact fun a w' hf hh => And.intro ((((((Fr.nil hf).pick hf 50 rfl).pick hf 3 rfl).pick hf 2 rfl).pick hf 1 rfl).pick hf 0 rfl) (hh.sub List.Sublist.slnil)
          ·
            skip
            rw [hg4, cond_true] at hX1
            refine T.pass (by kernel_rfl) (by kernel_rfl) ?_
            refine T.pass (by kernel_rfl) (by kernel_rfl) ?_
            refine T.pass (by kernel_rfl) (by kernel_rfl) ?_
            refine T.pass (by kernel_rfl) (by kernel_rfl) ?_
            refine T.pass (by kernel_rfl) (by kernel_rfl) ?_
            refine T.pure (.bool true) (by kernel_rfl) (fun _ => by kernel_rfl) ?_
            refine T.nil ?_
            cases hX1
            exact fun a w' hf hh => And.intro ((((((Fr.nil hf).pick hf 50 rfl).pick hf 3 rfl).pick hf 2 rfl).pick hf 1 rfl).pick hf 0 rfl) (hh.sub List.Sublist.slnil)
        ·
          skip
          rw [hg3, cond_true] at hX1
          refine T.pass (by kernel_rfl) (by kernel_rfl) ?_
          refine T.pass (by kernel_rfl) (by kernel_rfl) ?_
          refine T.pass (by kernel_rfl) (by kernel_rfl) ?_
          refine T.pure (.bool true) (by kernel_rfl) (fun _ => by kernel_rfl) ?_
          refine T.pure (.bool true) (by kernel_rfl) (fun _ => by kernel_rfl) ?_
          refine T.pass (by kernel_rfl) (by kernel_rfl) ?_
          refine T.pass (by kernel_rfl) (by kernel_rfl) ?_
          refine T.pass (by kernel_rfl) (by kernel_rfl) ?_
          refine T.pass (by kernel_rfl) (by kernel_rfl) ?_
          refine T.pass (by kernel_rfl) (by kernel_rfl) ?_
          refine T.pure (.bool true) (by kernel_rfl) (fun _ => by kernel_rfl) ?_
          refine T.nil ?_
          cases hX1
          exact fun a w' hf hh => And.intro ((((((Fr.nil hf).pick hf 50 rfl).pick hf 3 rfl).pick hf 2 rfl).pick hf 1 rfl).pick hf 0 rfl) (hh.sub List.Sublist.slnil)
      ·
        skip
        rw [hg2, cond_true] at hX1
        refine T.pass (by kernel_rfl) (by kernel_rfl) ?_
        refine T.pass (by kernel_rfl) (by kernel_rfl) ?_
        refine T.pass (by kernel_rfl) (by kernel_rfl) ?_
        refine T.pure (.bool true) (by kernel_rfl) (fun _ => by kernel_rfl) ?_
        refine T.pure (.bool true) (by kernel_rfl) (fun _ => by kernel_rfl) ?_
        refine T.pass (by kernel_rfl) (by kernel_rfl) ?_
        refine T.pass (by kernel_rfl) (by kernel_rfl) ?_
        refine T.pass (by kernel_rfl) (by kernel_rfl) ?_
        refine T.pure (.bool true) (by kernel_rfl) (fun _ => by kernel_rfl) ?_
        refine T.pure (.bool true) (by kernel_rfl) (fun _ => by kernel_rfl) ?_
        refine T.pass (by kernel_rfl) (by kernel_rfl) ?_
        refine T.pass (by kernel_rfl) (by kernel_rfl) ?_
        refine T.pass (by kernel_rfl) (by kernel_rfl) ?_
        refine T.pass (by kernel_rfl) (by kernel_rfl) ?_
        refine T.pass (by kernel_rfl) (by kernel_rfl) ?_
        refine T.pure (.bool true) (by kernel_rfl) (fun _ => by kernel_rfl) ?_
        refine T.nil ?_
        cases hX1
        exact fun a w' hf hh => And.intro ((((((Fr.nil hf).pick hf 50 rfl).pick hf 3 rfl).pick hf 2 rfl).pick hf 1 rfl).pick hf 0 rfl) (hh.sub List.Sublist.slnil)
    ·
      skip
      rw [hg1, cond_true] at hX1
      refine T.pass (by kernel_rfl) (by kernel_rfl) ?_
      refine T.pass (by kernel_rfl) (by kernel_rfl) ?_
      refine T.pure (.bool true) (by kernel_rfl) (fun _ => by kernel_rfl) ?_
      refine T.pure (.bool true) (by kernel_rfl) (fun _ => by kernel_rfl) ?_
      refine T.pass (by kernel_rfl) (by kernel_rfl) ?_
      refine T.pass (by kernel_rfl) (by kernel_rfl) ?_
      refine T.pass (by kernel_rfl) (by kernel_rfl) ?_
      refine T.pure (.bool true) (by kernel_rfl) (fun _ => by kernel_rfl) ?_
      refine T.pure (.bool true) (by kernel_rfl) (fun _ => by kernel_rfl) ?_
      refine T.pass (by kernel_rfl) (by kernel_rfl) ?_
      refine T.pass (by kernel_rfl) (by kernel_rfl) ?_
      refine T.pass (by kernel_rfl) (by kernel_rfl) ?_
      refine T.pure (.bool true) (by kernel_rfl) (fun _ => by kernel_rfl) ?_
      refine T.pure (.bool true) (by kernel_rfl) (fun _ => by kernel_rfl) ?_
      refine T.pass (by kernel_rfl) (by kernel_rfl) ?_
      refine T.pass (by kernel_rfl) (by kernel_rfl) ?_
      refine T.pass (by kernel_rfl) (by kernel_rfl) ?_
      refine T.pass (by kernel_rfl) (by kernel_rfl) ?_
      refine T.pass (by kernel_rfl) (by kernel_rfl) ?_
      refine T.pure (.bool true) (by kernel_rfl) (fun _ => by kernel_rfl) ?_
      refine T.nil ?_
      cases hX1
      exact fun a w' hf hh => And.intro ((((((Fr.nil hf).pick hf 50 rfl).pick hf 3 rfl).pick hf 2 rfl).pick hf 1 rfl).pick hf 0 rfl) (hh.sub List.Sublist.slnil)
  ·
    rintro a w' ⟨hf, hh⟩
    refine (?_ : T 122 w V2 [] [(0, .slice A1 p0.length c1), (1, .int .i64 p1), (2, .int .i64 p2), (3, .int .i64 p3), (50, .bool z1)] _) a w' hf hh
    clear hf hh
    refine T.cond z1 (by kernel_rfl) (by kernel_rfl) (fun hc1 => ?_) (fun hc1 => ?_)
    ·
      rw [hc1, cond_true] at hF
      refine T.seq ?_
      refine T.region ?_
      refine T.pure (.bool false) (by kernel_rfl) (fun _ => by kernel_rfl) ?_
      refine T.nil ?_
      cases hF
      refine T.ret rfl ?_
      exact T.ret1 rfl (ResIs.tmp rfl) fun w' hh => ⟨_, rfl, hh.below, (show _ from rfl)⟩
    ·
      rw [hc1, cond_false] at hF
      refine T.skip_code ?_
      refine T.seq ?_
      refine T.region ?_
      refine T.pure (.slice A1 p0.length c1) (by kernel_rfl) (fun _ => by kernel_rfl) ?_
      refine T.pure (.int .i64 p1) (by kernel_rfl) (fun _ => by kernel_rfl) ?_
      refine T.pure (.int .i64 p2) (by kernel_rfl) (fun _ => by kernel_rfl) ?_
      obtain ⟨r3, hb4, hF⟩ := Option.bind_eq_some_iff.1 hF
      refine T.step (W1.call (vT2 (vSc eStr) (vSc eInt)) r3 55 #[.slice A1 p0.length c1, .int .i64 p1, .int .i64 p2, .int .i64 2147483647] (by kernel_rfl) (fun _ => by kernel_rfl) (fun w' hh => file_Get_l F p0 p1 p2 2147483647 r3 hb4 w' A1 c1 (SlOk.mono (SlOk.mono hs1 (View.le_trans hV1 hV2)) hh.view)) ?_)
      intro u V3 hV3 hu
      obtain rfl := (Sure.t2 sureStr sureInt) _ _ _ hu
      refine T.pure (.tuple #[.string r3.1, .int .i64 r3.2]) (by kernel_rfl) (fun _ => by kernel_rfl) ?_
      refine T.pure (.string r3.1) (by kernel_rfl) (fun _ => by kernel_rfl) ?_
      refine T.pure (.int .i64 r3.2) (by kernel_rfl) (fun _ => by kernel_rfl) ?_
      refine T.pure (.string r3.1) (by kernel_rfl) (fun _ => by kernel_rfl) ?_
      refine T.pure (.int .i64 r3.2) (by kernel_rfl) (fun _ => by kernel_rfl) ?_
      refine T.nil ?_
      refine T.seq ?_
      refine T.region ?_
      refine T.pure (.slice A1 p0.length c1) (by kernel_rfl) (fun _ => by kernel_rfl) ?_
      refine T.pure (.int .i64 p1) (by kernel_rfl) (fun _ => by kernel_rfl) ?_
      refine T.pure (.int .i64 p2) (by kernel_rfl) (fun _ => by kernel_rfl) ?_
      refine T.pure (.string r3.1) (by kernel_rfl) (fun _ => by kernel_rfl) ?_
      refine T.pure (.int .i64 p3) (by kernel_rfl) (fun _ => by kernel_rfl) ?_
      obtain ⟨r4, hb5, hF⟩ := Option.bind_eq_some_iff.1 hF
      refine T.step (W1.call (vT2 (vSc (eList eElem)) (vSc eInt)) r4 54 #[.slice A1 p0.length c1, .int .i64 p1, .int .i64 p2, .string r3.1, .int .i64 p3] (by kernel_rfl) (fun _ => by kernel_rfl) (fun w' hh => file_Set_l F p0 p1 p2 r3.1 p3 r4 hb5 w' A1 c1 (SlOk.mono (SlOk.mono hs1 (View.le_trans (View.le_trans hV1 hV2) hV3)) hh.view)) ?_)
      intro u V4 hV4 hu
      obtain ⟨u5, u6, rfl, hu5, hu6⟩ := vT2_elim hu
      obtain ⟨A4, c4, rfl, hs4⟩ := vlist_elim hu5
      obtain rfl := sureInt _ _ _ hu6
      refine T.pure (.tuple #[.slice A4 r4.1.length c4, .int .i64 r4.2]) (by kernel_rfl) (fun _ => by kernel_rfl) ?_
      refine T.pure (.slice A4 r4.1.length c4) (by kernel_rfl) (fun _ => by kernel_rfl) ?_
      refine T.pure (.int .i64 r4.2) (by kernel_rfl) (fun _ => by kernel_rfl) ?_
      refine T.pure (.slice A4 r4.1.length c4) (by kernel_rfl) (fun _ => by kernel_rfl) ?_
      refine T.pure (.int .i64 r4.2) (by kernel_rfl) (fun _ => by kernel_rfl) ?_
      refine T.nil ?_
      refine T.seq ?_
      refine T.region ?_
      refine T.pure (.slice A1 p0.length c1) (by kernel_rfl) (fun _ => by kernel_rfl) ?_
      refine T.pure (.int .i64 p1) (by kernel_rfl) (fun _ => by kernel_rfl) ?_
      refine T.pure (.int .i64 p2) (by kernel_rfl) (fun _ => by kernel_rfl) ?_
      refine T.pure (.int .i64 p3) (by kernel_rfl) (fun _ => by kernel_rfl) ?_
      obtain ⟨r5, hb6, hF⟩ := Option.bind_eq_some_iff.1 hF
      refine T.step (W1.call (vT2 (vSc (eList eElem)) (vSc eInt)) r5 54 #[.slice A1 p0.length c1, .int .i64 p1, .int .i64 p2, .string (ByteArray.mk #[]), .int .i64 p3] (by kernel_rfl) (fun _ => by kernel_rfl) (fun w' hh => file_Set_l F p0 p1 p2 (ByteArray.mk #[]) p3 r5 hb6 w' A1 c1 (SlOk.mono (SlOk.mono hs1 (View.le_trans (View.le_trans (View.le_trans hV1 hV2) hV3) hV4)) hh.view)) ?_)
      intro u V5 hV5 hu
      obtain ⟨u7, u8, rfl, hu7, hu8⟩ := vT2_elim hu
      obtain ⟨A5, c5, rfl, hs5⟩ := vlist_elim hu7
      obtain rfl := sureInt _ _ _ hu8
      refine T.pure (.tuple #[.slice A5 r5.1.length c5, .int .i64 r5.2]) (by kernel_rfl) (fun _ => by kernel_rfl) ?_
      refine T.pure (.slice A5 r5.1.length c5) (by kernel_rfl) (fun _ => by kernel_rfl) ?_
      refine T.pure (.int .i64 r5.2) (by kernel_rfl) (fun _ => by kernel_rfl) ?_
      refine T.pure (.slice A5 r5.1.length c5) (by kernel_rfl) (fun _ => by kernel_rfl) ?_
      refine T.pure (.int .i64 r5.2) (by kernel_rfl) (fun _ => by kernel_rfl) ?_
      refine T.nil ?_
      refine T.seq ?_
      refine T.cut (fun a w' => Fr 122 [(1, .int .i64 p1), (2, .int .i64 p2), (3, .int .i64 p3), (10, .int .i64 r3.2), (13, .string r3.1), (14, .slice A4 r4.1.length c4), (15, .slice A5 r5.1.length c5), (84, .bool ((r3.2 != 0) || ((r4.2 != 0) || (r5.2 != 0))))] a ∧ Hp w V5 [] w') ?_ ?_
      ·
        refine T.region ?_
        refine T.pure (.int .i64 r3.2) (by kernel_rfl) (fun _ => by kernel_rfl) ?_
        refine T.pure (.bool (r3.2 != 0)) (by kernel_rfl) (fun _ => by kernel_rfl) ?_
        refine T.pure (.bool (r3.2 != 0)) (by kernel_rfl) (fun _ => by kernel_rfl) ?_
        cases hg5 : (r3.2 != 0)
        ·
          skip
          refine T.pure (.int .i64 r4.2) (by kernel_rfl) (fun _ => by kernel_rfl) ?_
          refine T.pure (.bool (r4.2 != 0)) (by kernel_rfl) (fun _ => by kernel_rfl) ?_
          refine T.pure (.bool (r4.2 != 0)) (by kernel_rfl) (fun _ => by kernel_rfl) ?_
          refine T.pure (.bool (r4.2 != 0)) (by kernel_rfl) (fun _ => by kernel_rfl) ?_
          cases hg6 : (r4.2 != 0)
          ·
            skip
            refine T.pure (.int .i64 r5.2) (by kernel_rfl) (fun _ => by kernel_rfl) ?_
            refine T.pure (.bool (r5.2 != 0)) (by kernel_rfl) (fun _ => by kernel_rfl) ?_
            refine T.pure (.bool (r5.2 != 0)) (by kernel_rfl) (fun _ => by kernel_rfl) ?_
            refine T.nil ?_
            exact fun a w' hf hh => And.intro (((((((((Fr.nil hf).pick hf 84 rfl).pick hf 15 rfl).pick hf 14 rfl).pick hf 13 rfl).pick hf 10 rfl).pick hf 3 rfl).pick hf 2 rfl).pick hf 1 rfl) (hh.sub List.Sublist.slnil)
          ·
            skip
            refine T.pass (by kernel_rfl) (by kernel_rfl) ?_
            refine T.pass (by kernel_rfl) (by kernel_rfl) ?_
            refine T.pure (.bool true) (by kernel_rfl) (fun _ => by kernel_rfl) ?_
            refine T.nil ?_
            exact fun a w' hf hh => And.intro (((((((((Fr.nil hf).pick hf 84 rfl).pick hf 15 rfl).pick hf 14 rfl).pick hf 13 rfl).pick hf 10 rfl).pick hf 3 rfl).pick hf 2 rfl).pick hf 1 rfl) (hh.sub List.Sublist.slnil)
        ·
          skip
          refine T.pass (by kernel_rfl) (by kernel_rfl) ?_
          refine T.pass (by kernel_rfl) (by kernel_rfl) ?_
          refine T.pure (.bool true) (by kernel_rfl) (fun _ => by kernel_rfl) ?_
          refine T.pure (.bool true) (by kernel_rfl) (fun _ => by kernel_rfl) ?_
          refine T.pass (by kernel_rfl) (by kernel_rfl) ?_
          refine T.pass (by kernel_rfl) (by kernel_rfl) ?_
          refine T.pure (.bool true) (by kernel_rfl) (fun _ => by kernel_rfl) ?_
          refine T.nil ?_
          exact fun a w' hf hh => And.intro (((((((((Fr.nil hf).pick hf 84 rfl).pick hf 15 rfl).pick hf 14 rfl).pick hf 13 rfl).pick hf 10 rfl).pick hf 3 rfl).pick hf 2 rfl).pick hf 1 rfl) (hh.sub List.Sublist.slnil)
      ·
        rintro a w' ⟨hf, hh⟩
        refine (?_ : T 122 w V5 [] [(1, .int .i64 p1), (2, .int .i64 p2), (3, .int .i64 p3), (10, .int .i64 r3.2), (13, .string r3.1), (14, .slice A4 r4.1.length c4), (15, .slice A5 r5.1.length c5), (84, .bool ((r3.2 != 0) || ((r4.2 != 0) || (r5.2 != 0))))] _) a w' hf hh
        clear hf hh
        refine T.cond ((r3.2 != 0) || ((r4.2 != 0) || (r5.2 != 0))) (by kernel_rfl) (by kernel_rfl) (fun hc2 => ?_) (fun hc2 => ?_)
        ·
          rw [hc2, cond_true] at hF
          refine T.cut (fun a w' => Fr 122 [(8, .bool ((r3.2 == 0) || (seq r3.1 (ByteArray.mk #[]))))] a ∧ Hp w V5 [] w') ?_ ?_
          ·
            refine T.region ?_
            refine T.pure (.int .i64 r3.2) (by kernel_rfl) (fun _ => by kernel_rfl) ?_
            refine T.pure (.bool (r3.2 == 0)) (by kernel_rfl) (fun _ => by kernel_rfl) ?_
            refine T.pure (.bool (r3.2 == 0)) (by kernel_rfl) (fun _ => by kernel_rfl) ?_
            cases hg7 : (r3.2 == 0)
            ·
              skip
              refine T.pure (.string r3.1) (by kernel_rfl) (fun _ => by kernel_rfl) ?_
              refine T.pure (.bool (seq r3.1 (ByteArray.mk #[]))) (by kernel_rfl) (fun _ => by kernel_rfl) ?_
              refine T.pure (.bool (seq r3.1 (ByteArray.mk #[]))) (by kernel_rfl) (fun _ => by kernel_rfl) ?_
              refine T.pure (.bool (seq r3.1 (ByteArray.mk #[]))) (by kernel_rfl) (fun _ => by kernel_rfl) ?_
              refine T.nil ?_
              exact fun a w' hf hh => And.intro ((Fr.nil hf).pick hf 8 rfl) (hh.sub List.Sublist.slnil)
            ·
              skip
              refine T.pass (by kernel_rfl) (by kernel_rfl) ?_
              refine T.pass (by kernel_rfl) (by kernel_rfl) ?_
              refine T.pure (.bool true) (by kernel_rfl) (fun _ => by kernel_rfl) ?_
              refine T.pure (.bool true) (by kernel_rfl) (fun _ => by kernel_rfl) ?_
              refine T.nil ?_
              exact fun a w' hf hh => And.intro ((Fr.nil hf).pick hf 8 rfl) (hh.sub List.Sublist.slnil)
          ·
            rintro a w' ⟨hf, hh⟩
            refine (?_ : T 122 w V5 [] [(8, .bool ((r3.2 == 0) || (seq r3.1 (ByteArray.mk #[]))))] _) a w' hf hh
            clear hf hh
            cases hF
            refine T.ret rfl ?_
            exact T.ret1 rfl (ResIs.tmp rfl) fun w' hh => ⟨_, rfl, hh.below, (show _ from rfl)⟩
        ·
          rw [hc2, cond_false] at hF
          refine T.skip_code ?_
          refine T.seq ?_
          refine T.region ?_
          refine T.pure (.slice A4 r4.1.length c4) (by kernel_rfl) (fun _ => by kernel_rfl) ?_
          refine T.pure (.int .i64 p1) (by kernel_rfl) (fun _ => by kernel_rfl) ?_
          refine T.pure (.int .i64 p2) (by kernel_rfl) (fun _ => by kernel_rfl) ?_
          refine T.pure (.string r3.1) (by kernel_rfl) (fun _ => by kernel_rfl) ?_
          refine T.pure (.int .i64 p3) (by kernel_rfl) (fun _ => by kernel_rfl) ?_
          obtain ⟨r6, hb7, hF⟩ := Option.bind_eq_some_iff.1 hF
          refine T.step (W1.call (vT2 (vSc (eList eElem)) (vSc eInt)) r6 54 #[.slice A4 r4.1.length c4, .int .i64 p1, .int .i64 p2, .string r3.1, .int .i64 p3] (by kernel_rfl) (fun _ => by kernel_rfl) (fun w' hh => file_Set_l F r4.1 p1 p2 r3.1 p3 r6 hb7 w' A4 c4 (SlOk.mono (SlOk.mono hs4 (View.le_trans (made_le _ _) hV5)) hh.view)) ?_)
          intro u V6 hV6 hu
          obtain ⟨u9, u10, rfl, hu9, hu10⟩ := vT2_elim hu
          obtain ⟨A6, c6, rfl, hs6⟩ := vlist_elim hu9
          obtain rfl := sureInt _ _ _ hu10
          refine T.pure (.tuple #[.slice A6 r6.1.length c6, .int .i64 r6.2]) (by kernel_rfl) (fun _ => by kernel_rfl) ?_
          refine T.pure (.slice A6 r6.1.length c6) (by kernel_rfl) (fun _ => by kernel_rfl) ?_
          refine T.pure (.int .i64 r6.2) (by kernel_rfl) (fun _ => by kernel_rfl) ?_
          refine T.pure (.slice A6 r6.1.length c6) (by kernel_rfl) (fun _ => by kernel_rfl) ?_
          refine T.pure (.int .i64 r6.2) (by kernel_rfl) (fun _ => by kernel_rfl) ?_
          refine T.nil ?_
          refine T.seq ?_
          refine T.region ?_
          refine T.pure (.slice A5 r5.1.length c5) (by kernel_rfl) (fun _ => by kernel_rfl) ?_
          refine T.pure (.int .i64 p1) (by kernel_rfl) (fun _ => by kernel_rfl) ?_
          refine T.pure (.int .i64 p2) (by kernel_rfl) (fun _ => by kernel_rfl) ?_
          obtain ⟨r7, hb8, hF⟩ := Option.bind_eq_some_iff.1 hF
          refine T.step (W1.call (vT2 (vSc eStr) (vSc eInt)) r7 55 #[.slice A5 r5.1.length c5, .int .i64 p1, .int .i64 p2, .int .i64 2147483647] (by kernel_rfl) (fun _ => by kernel_rfl) (fun w' hh => file_Get_l F r5.1 p1 p2 2147483647 r7 hb8 w' A5 c5 (SlOk.mono (SlOk.mono hs5 (View.le_trans (made_le _ _) hV6)) hh.view)) ?_)
          intro u V7 hV7 hu
          obtain rfl := (Sure.t2 sureStr sureInt) _ _ _ hu
          refine T.pure (.tuple #[.string r7.1, .int .i64 r7.2]) (by kernel_rfl) (fun _ => by kernel_rfl) ?_
          refine T.pure (.string r7.1) (by kernel_rfl) (fun _ => by kernel_rfl) ?_
          refine T.pure (.int .i64 r7.2) (by kernel_rfl) (fun _ => by kernel_rfl) ?_
          refine T.pure (.string r7.1) (by kernel_rfl) (fun _ => by kernel_rfl) ?_
          refine T.pure (.int .i64 r7.2) (by kernel_rfl) (fun _ => by kernel_rfl) ?_
          refine T.nil ?_
          obtain ⟨z2, hX2, hF⟩ := Option.bind_eq_some_iff.1 hF
          refine T.cut (fun a w' => ∃ (V8 : View), View.le V7 V8 ∧ Fr 122 [(8, .bool z2)] a ∧ Hp w V8 [] w') ?_ ?_
          ·
            refine T.region ?_
            refine T.pure (.int .i64 r6.2) (by kernel_rfl) (fun _ => by kernel_rfl) ?_
            refine T.pure (.bool (r6.2 == 0)) (by kernel_rfl) (fun _ => by kernel_rfl) ?_
            refine T.pure (.bool (r6.2 == 0)) (by kernel_rfl) (fun _ => by kernel_rfl) ?_
            cases hg8 : (r6.2 == 0)
            ·
              skip
              rw [hg8, cond_false] at hX2
              refine T.pass (by kernel_rfl) (by kernel_rfl) ?_
              refine T.pass (by kernel_rfl) (by kernel_rfl) ?_
              refine T.pure (.bool false) (by kernel_rfl) (fun _ => by kernel_rfl) ?_
              refine T.pure (.bool false) (by kernel_rfl) (fun _ => by kernel_rfl) ?_
              refine T.pass (by kernel_rfl) (by kernel_rfl) ?_
              refine T.pass (by kernel_rfl) (by kernel_rfl) ?_
              refine T.pass (by kernel_rfl) (by kernel_rfl) ?_
              refine T.pure (.bool false) (by kernel_rfl) (fun _ => by kernel_rfl) ?_
              refine T.pure (.bool false) (by kernel_rfl) (fun _ => by kernel_rfl) ?_
              refine T.pass (by kernel_rfl) (by kernel_rfl) ?_
              refine T.pass (by kernel_rfl) (by kernel_rfl) ?_
              refine T.pure (.bool false) (by kernel_rfl) (fun _ => by kernel_rfl) ?_
              refine T.pure (.bool false) (by kernel_rfl) (fun _ => by kernel_rfl) ?_
              refine T.nil ?_
              cases hX2
              exact fun a w' hf hh => Exists.intro V7 (And.intro (View.le_refl _) (And.intro ((Fr.nil hf).pick hf 8 rfl) (hh.sub List.Sublist.slnil)))
            ·
              skip
              rw [hg8, cond_true] at hX2
              refine T.pure (.int .i64 r7.2) (by kernel_rfl) (fun _ => by kernel_rfl) ?_
              refine T.pure (.bool (r7.2 == 0)) (by kernel_rfl) (fun _ => by kernel_rfl) ?_
              refine T.pure (.bool (r7.2 == 0)) (by kernel_rfl) (fun _ => by kernel_rfl) ?_
              refine T.pure (.bool (r7.2 == 0)) (by kernel_rfl) (fun _ => by kernel_rfl) ?_
              cases hg9 : (r7.2 == 0)
              ·
                skip
                rw [hg9, cond_false] at hX2
                refine T.pass (by kernel_rfl) (by kernel_rfl) ?_
                refine T.pass (by kernel_rfl) (by kernel_rfl) ?_
                refine T.pass (by kernel_rfl) (by kernel_rfl) ?_
                refine T.pure (.bool false) (by kernel_rfl) (fun _ => by kernel_rfl) ?_
                refine T.pure (.bool false) (by kernel_rfl) (fun _ => by kernel_rfl) ?_
                refine T.pass (by kernel_rfl) (by kernel_rfl) ?_
                refine T.pass (by kernel_rfl) (by kernel_rfl) ?_
                refine T.pure (.bool false) (by kernel_rfl) (fun _ => by kernel_rfl) ?_
                refine T.pure (.bool false) (by kernel_rfl) (fun _ => by kernel_rfl) ?_
                refine T.nil ?_
                cases hX2
                exact fun a w' hf hh => Exists.intro V7 (And.intro (View.le_refl _) (And.intro ((Fr.nil hf).pick hf 8 rfl) (hh.sub List.Sublist.slnil)))
              ·
                skip
                rw [hg9, cond_true] at hX2
                refine T.pure (.slice A6 r6.1.length c6) (by kernel_rfl) (fun _ => by kernel_rfl) ?_
                refine T.pure (.slice A4 r4.1.length c4) (by kernel_rfl) (fun _ => by kernel_rfl) ?_
                obtain ⟨r8, hb9, hX2⟩ := Option.bind_eq_some_iff.1 hX2
                refine T.step (W1.call (vSc eBool) r8 29 #[.slice A6 r6.1.length c6, .slice A4 r4.1.length c4] (by kernel_rfl) (fun _ => by kernel_rfl) (fun w' hh => slices_Equal_Elem_l F r6.1 r4.1 r8 hb9 w' A6 c6 (SlOk.mono (SlOk.mono hs6 (View.le_trans (made_le _ _) hV7)) hh.view) A4 c4 (SlOk.mono (SlOk.mono hs4 (View.le_trans (made_le _ _) (View.le_trans (View.le_trans hV5 hV6) hV7))) hh.view)) ?_)
                intro u V9 hV9 hu
                obtain rfl := sureBool _ _ _ hu
                refine T.pure (.bool r8) (by kernel_rfl) (fun _ => by kernel_rfl) ?_
                refine T.pure (.bool r8) (by kernel_rfl) (fun _ => by kernel_rfl) ?_
                cases hg10 : r8
                ·
                  skip
                  rw [hg10, cond_false] at hX2
                  refine T.pass (by kernel_rfl) (by kernel_rfl) ?_
                  refine T.pass (by kernel_rfl) (by kernel_rfl) ?_
                  refine T.pure (.bool false) (by kernel_rfl) (fun _ => by kernel_rfl) ?_
                  refine T.pure (.bool false) (by kernel_rfl) (fun _ => by kernel_rfl) ?_
                  refine T.nil ?_
                  cases hX2
                  exact fun a w' hf hh => Exists.intro V9 (And.intro hV9 (And.intro ((Fr.nil hf).pick hf 8 rfl) (hh.sub List.Sublist.slnil)))
                ·
                  skip
                  rw [hg10, cond_true] at hX2
                  refine T.pure (.string r7.1) (by kernel_rfl) (fun _ => by kernel_rfl) ?_
                  refine T.pure (.bool (seq r7.1 (ByteArray.mk #[]))) (by kernel_rfl) (fun _ => by kernel_rfl) ?_
                  refine T.pure (.bool (seq r7.1 (ByteArray.mk #[]))) (by kernel_rfl) (fun _ => by kernel_rfl) ?_
                  refine T.pure (.bool (seq r7.1 (ByteArray.mk #[]))) (by kernel_rfl) (fun _ => by kernel_rfl) ?_
                  refine T.nil ?_
                  cases hX2
                  exact fun a w' hf hh => Exists.intro V9 (And.intro hV9 (And.intro ((Fr.nil hf).pick hf 8 rfl) (hh.sub List.Sublist.slnil)))
          ·
            rintro a w' ⟨V8, hV8, hf, hh⟩
            refine (?_ : T 122 w V8 [] [(8, .bool z2)] _) a w' hf hh
            clear hf hh
            cases hF
            refine T.ret rfl ?_
            exact T.ret1 rfl (ResIs.tmp rfl) fun w' hh => ⟨_, rfl, hh.below, (show _ from rfl)⟩

end Go.Proofs.Ytiaoncjkfgebdaa
