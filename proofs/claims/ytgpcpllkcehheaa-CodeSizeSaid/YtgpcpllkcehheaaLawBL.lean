/- The Go functions of group LawB compute the pure functions of that group: written by walkgen.py. Condition of each: the pure function yields a result. -/
import Derived.Test.YtgpcpllkcehheaaCodeL
import Derived.Test.YtgpcpllkcehheaaLawBF
import Derived.Test.YtgpcpllkcehheaaEqL
namespace Go.Proofs.Ytgpcpllkcehheaa
set_option linter.unusedVariables false

set_option maxRecDepth 100000 in
set_option maxHeartbeats 4000000 in
theorem annalkeep_SumBursts_l (p0 : ByteArray) (p1 : Int) (p2 : Int) (r : Bool) (hF : annalkeep_SumBursts p0 p1 p2 = some r) (w : World)  :
    Calls Try.prog 3 #[.string p0, .int .i64 p1, .int .u16 p2] w (Post (vSc eBool) r w) := by
  unfold annalkeep_SumBursts at hF
  refine T.start (l := [.string p0, .int .i64 p1, .int .u16 p2]) Try.func3 rfl rfl rfl ?_
  refine T.seq ?_
  refine T.region ?_
  refine T.pure (.bool false) (by kernel_rfl) (fun _ => by kernel_rfl) ?_
  refine T.nil ?_
  refine T.seq ?_
  obtain ⟨z1, hX1, hF⟩ := Option.bind_eq_some_iff.1 hF
  refine T.cut (fun a w' => ∃ (V1 : View), View.le (vw w) V1 ∧ Fr 60 [(0, .string p0), (1, .int .i64 p1), (2, .int .u16 p2), (15, .bool z1)] a ∧ Hp w V1 [] w') ?_ ?_
  ·
    refine T.region ?_
    obtain ⟨r1, hb1, hX1⟩ := Option.bind_eq_some_iff.1 hX1
    refine T.step (W1.call (vSc eInt) r1 21 #[.string (ByteArray.mk #[])] (by kernel_rfl) (fun _ => by kernel_rfl) (fun w' hh => sum_Of_l (ByteArray.mk #[]) r1 hb1 w' ) ?_)
    intro u V2 hV2 hu
    obtain rfl := sureInt _ _ _ hu
    refine T.pure (.bool (r1 != 0)) (by kernel_rfl) (fun _ => by kernel_rfl) ?_
    refine T.pure (.bool (r1 != 0)) (by kernel_rfl) (fun _ => by kernel_rfl) ?_
    cases hg1 : (r1 != 0)
    ·
      skip
      rw [hg1, cond_false] at hX1
      obtain ⟨r2, hb2, hX1⟩ := Option.bind_eq_some_iff.1 hX1
      refine T.step (W1.call (vSc eInt) r2 21 #[.string (ByteArray.mk #[97])] (by kernel_rfl) (fun _ => by kernel_rfl) (fun w' hh => sum_Of_l (ByteArray.mk #[97]) r2 hb2 w' ) ?_)
      intro u V3 hV3 hu
      obtain rfl := sureInt _ _ _ hu
      obtain ⟨r3, hb3, hX1⟩ := Option.bind_eq_some_iff.1 hX1
      refine T.step (W1.call (vSc eInt) r3 21 #[.string (ByteArray.mk #[98])] (by kernel_rfl) (fun _ => by kernel_rfl) (fun w' hh => sum_Of_l (ByteArray.mk #[98]) r3 hb3 w' ) ?_)
      intro u V4 hV4 hu
      obtain rfl := sureInt _ _ _ hu
      refine T.pure (.bool (r2 == r3)) (by kernel_rfl) (fun _ => by kernel_rfl) ?_
      refine T.pure (.bool (r2 == r3)) (by kernel_rfl) (fun _ => by kernel_rfl) ?_
      refine T.nil ?_
      cases hX1
      exact fun a w' hf hh => Exists.intro V4 (And.intro (View.le_trans (View.le_trans hV2 hV3) hV4) (And.intro (((((Fr.nil hf).pick hf 15 rfl).pick hf 2 rfl).pick hf 1 rfl).pick hf 0 rfl) (hh.sub List.Sublist.slnil)))
    ·
      skip
      rw [hg1, cond_true] at hX1
      refine T.pass (by kernel_rfl) (by kernel_rfl) ?_
      refine T.pass (by kernel_rfl) (by kernel_rfl) ?_
      refine T.pass (by kernel_rfl) (by kernel_rfl) ?_
      refine T.pure (.bool true) (by kernel_rfl) (fun _ => by kernel_rfl) ?_
      refine T.nil ?_
      cases hX1
      exact fun a w' hf hh => Exists.intro V2 (And.intro hV2 (And.intro (((((Fr.nil hf).pick hf 15 rfl).pick hf 2 rfl).pick hf 1 rfl).pick hf 0 rfl) (hh.sub List.Sublist.slnil)))
  ·
    rintro a w' ⟨V1, hV1, hf, hh⟩
    refine (?_ : T 60 w V1 [] [(0, .string p0), (1, .int .i64 p1), (2, .int .u16 p2), (15, .bool z1)] _) a w' hf hh
    clear hf hh
    refine T.cond z1 (by kernel_rfl) (by kernel_rfl) (fun hc1 => ?_) (fun hc1 => ?_)
    ·
      rw [hc1, cond_true] at hF
      refine T.seq ?_
      refine T.region ?_
      refine T.pure (.bool false) (by kernel_rfl) (fun _ => by kernel_rfl) ?_
      refine T.nil ?_
      cases hF
      refine T.ret rfl ?_
      exact T.ret1 rfl (ResIs.tmp rfl) fun w' hh => ⟨_, rfl, hh.below, (show _ from rfl)⟩
    ·
      rw [hc1, cond_false] at hF
      refine T.skip_code ?_
      refine T.seq ?_
      refine T.cut (fun a w' => Fr 60 [(0, .string p0), (1, .int .i64 p1), (2, .int .u16 p2), (22, .bool ((p2 == 0) || (decide ((p0.size : Int) < 2))))] a ∧ Hp w V1 [] w') ?_ ?_
      ·
        refine T.region ?_
        refine T.pure (.int .u16 p2) (by kernel_rfl) (fun _ => by kernel_rfl) ?_
        refine T.pure (.bool (p2 == 0)) (by kernel_rfl) (fun _ => by kernel_rfl) ?_
        refine T.pure (.bool (p2 == 0)) (by kernel_rfl) (fun _ => by kernel_rfl) ?_
        cases hg2 : (p2 == 0)
        ·
          skip
          refine T.pure (.string p0) (by kernel_rfl) (fun _ => by kernel_rfl) ?_
          refine T.pure (.int .i64 (p0.size : Int)) (by kernel_rfl) (fun _ => by kernel_rfl) ?_
          refine T.pure (.bool (decide ((p0.size : Int) < 2))) (by kernel_rfl) (fun _ => by kernel_rfl) ?_
          refine T.pure (.bool (decide ((p0.size : Int) < 2))) (by kernel_rfl) (fun _ => by kernel_rfl) ?_
          refine T.nil ?_
          exact fun a w' hf hh => And.intro (((((Fr.nil hf).pick hf 22 rfl).pick hf 2 rfl).pick hf 1 rfl).pick hf 0 rfl) (hh.sub List.Sublist.slnil)
        ·
          skip
          refine T.pass (by kernel_rfl) (by kernel_rfl) ?_
          refine T.pass (by kernel_rfl) (by kernel_rfl) ?_
          refine T.pass (by kernel_rfl) (by kernel_rfl) ?_
          refine T.pure (.bool true) (by kernel_rfl) (fun _ => by kernel_rfl) ?_
          refine T.nil ?_
          exact fun a w' hf hh => And.intro (((((Fr.nil hf).pick hf 22 rfl).pick hf 2 rfl).pick hf 1 rfl).pick hf 0 rfl) (hh.sub List.Sublist.slnil)
      ·
        rintro a w' ⟨hf, hh⟩
        refine (?_ : T 60 w V1 [] [(0, .string p0), (1, .int .i64 p1), (2, .int .u16 p2), (22, .bool ((p2 == 0) || (decide ((p0.size : Int) < 2))))] _) a w' hf hh
        clear hf hh
        refine T.cond ((p2 == 0) || (decide ((p0.size : Int) < 2))) (by kernel_rfl) (by kernel_rfl) (fun hc2 => ?_) (fun hc2 => ?_)
        ·
          rw [hc2, cond_true] at hF
          refine T.seq ?_
          refine T.region ?_
          refine T.pure (.bool true) (by kernel_rfl) (fun _ => by kernel_rfl) ?_
          refine T.nil ?_
          cases hF
          refine T.ret rfl ?_
          exact T.ret1 rfl (ResIs.tmp rfl) fun w' hh => ⟨_, rfl, hh.below, (show _ from rfl)⟩
        ·
          rw [hc2, cond_false] at hF
          refine T.skip_code ?_
          refine T.seq ?_
          refine T.region ?_
          refine T.pure (.int .i64 p1) (by kernel_rfl) (fun _ => by kernel_rfl) ?_
          refine T.pure (.string p0) (by kernel_rfl) (fun _ => by kernel_rfl) ?_
          refine T.pure (.int .i64 (p0.size : Int)) (by kernel_rfl) (fun _ => by kernel_rfl) ?_
          refine T.pure (.int .i64 (IntKind.i64.wrap (8 * (p0.size : Int)))) (by kernel_rfl) (fun _ => by kernel_rfl) ?_
          refine T.pure (.int .i64 (IntKind.i64.wrap ((IntKind.i64.wrap (8 * (p0.size : Int))) - 15))) (by kernel_rfl) (fun _ => by kernel_rfl) ?_
          obtain ⟨r4, hb4, hF⟩ := Option.bind_eq_some_iff.1 hF
          refine T.step (W1.call (vSc eInt) r4 22 #[.int .i64 p1, .int .i64 (IntKind.i64.wrap ((IntKind.i64.wrap (8 * (p0.size : Int))) - 15))] (by kernel_rfl) (fun _ => by kernel_rfl) (fun w' hh => annalkeep_Within_l p1 (IntKind.i64.wrap ((IntKind.i64.wrap (8 * (p0.size : Int))) - 15)) r4 hb4 w' ) ?_)
          intro u V5 hV5 hu
          obtain rfl := sureInt _ _ _ hu
          refine T.pure (.int .i64 r4) (by kernel_rfl) (fun _ => by kernel_rfl) ?_
          refine T.nil ?_
          refine T.seq ?_
          refine T.region ?_
          refine T.pure (.string p0) (by kernel_rfl) (fun _ => by kernel_rfl) ?_
          obtain ⟨u1, hb6, hF⟩ := Option.bind_eq_some_iff.1 hF
          refine T.step (W1.bytes (e := 5) p0 _ (by kernel_rfl) rfl rfl (by kernel_rfl) (by kernel_rfl) (by kernel_rfl) (fits_some hb6).1 (fun A1 c1 => ?_))
          refine T.pure (.slice A1 ((listOf p0).length) c1) (by kernel_rfl) (fun _ => by kernel_rfl) ?_
          refine T.nil ?_
          refine T.seq ?_
          refine T.seq ?_
          refine T.region ?_
          refine T.pure (.int .i64 0) (by kernel_rfl) (fun _ => by kernel_rfl) ?_
          refine T.nil ?_
          obtain ⟨z2, hz1, hF⟩ := Option.bind_eq_some_iff.1 hF
          refine T.mid (fun a w' => ∃ (A3 : Option Addr) (c3 : Nat), Fr 60 [(0, .string p0), (7, .slice A3 z2.length c3)] a ∧ Hp w V5 [rowf 5 (eK .u8) A3 c3 z2] w') ?_ ?_
          ·
            refine T.block ?_
            refine T.iter (fun s1 a w' => ∃ (x1 : List Int) (x2 : Int), s1 = (x1, x2) ∧ ∃ (A2 : Option Addr) (c2 : Nat), Fr 60 [(0, .string p0), (1, .int .i64 r4), (2, .int .u16 p2), (7, .slice A2 x1.length c2), (31, .int .i64 x2)] a ∧ Hp w V5 [rowf 5 (eK .u8) A2 c2 x1] w') hz1 ?_ ?_
            ·
              exact fun a w' hf hh => Exists.intro (listOf p0) (Exists.intro 0 (And.intro rfl (Exists.intro A1 (Exists.intro c1 (And.intro ((((((Fr.nil hf).pick hf 31 rfl).pick hf 7 rfl).pick hf 2 rfl).pick hf 1 rfl).pick hf 0 rfl) (hh.sub (.cons_cons _ List.Sublist.slnil)))))))
            ·
              rintro s1 y1 hY1 hr1 a w' ⟨x1, x2, rfl, A2, c2, hf, hh⟩
              refine (?_ : T 60 w V5 [rowf 5 (eK .u8) A2 c2 x1] [(0, .string p0), (1, .int .i64 r4), (2, .int .u16 p2), (7, .slice A2 x1.length c2), (31, .int .i64 x2)] _) a w' hf hh
              clear hf hh
              try dsimp only at hY1
              refine T.seq ?_
              refine T.region ?_
              refine T.pure (.bool (decide (x2 < 16))) (by kernel_rfl) (fun _ => by kernel_rfl) ?_
              refine T.nil ?_
              refine T.seq ?_
              refine T.cond (decide (x2 < 16)) (by kernel_rfl) (by kernel_rfl) (fun hc3 => ?_) (fun hc3 => ?_)
              ·
                rw [hc3, cond_true] at hY1
                refine T.skip_code ?_
                obtain ⟨z3, hX2, hY1⟩ := Option.bind_eq_some_iff.1 hY1
                refine T.cut (fun a w' => ∃ (A4 : Option Addr) (c4 : Nat), Fr 60 [(0, .string p0), (1, .int .i64 r4), (2, .int .u16 p2), (7, .slice A4 z3.length c4), (31, .int .i64 x2)] a ∧ Hp w V5 [rowf 5 (eK .u8) A4 c4 z3] w') ?_ ?_
                ·
                  refine T.block ?_
                  refine T.seq ?_
                  refine T.region ?_
                  refine T.pure (.int .i64 x2) (by kernel_rfl) (fun _ => by kernel_rfl) ?_
                  refine T.pure (.int .i64 x2) (by kernel_rfl) (fun _ => by kernel_rfl) ?_
                  refine T.nil ?_
                  refine T.seq ?_
                  refine T.region ?_
                  refine T.pure (.int .u16 p2) (by kernel_rfl) (fun _ => by kernel_rfl) ?_
                  refine T.pure (.int .i64 x2) (by kernel_rfl) (fun _ => by kernel_rfl) ?_
                  obtain ⟨n1, hb7, hX2⟩ := Option.bind_eq_some_iff.1 hX2
                  refine T.look (.int .u16 (shr .u16 p2 n1)) (by kernel_rfl) (fun w' hh => exec_shr rfl rfl rfl hb7) ?_
                  refine T.pure (.int .u16 (band .u16 (shr .u16 p2 n1) 1)) (by kernel_rfl) (fun _ => by kernel_rfl) ?_
                  refine T.pure (.bool ((band .u16 (shr .u16 p2 n1) 1) == 1)) (by kernel_rfl) (fun _ => by kernel_rfl) ?_
                  refine T.nil ?_
                  refine T.cond ((band .u16 (shr .u16 p2 n1) 1) == 1) (by kernel_rfl) (by kernel_rfl) (fun hc4 => ?_) (fun hc4 => ?_)
                  ·
                    rw [hc4, cond_true] at hX2
                    refine T.held [] (by kernel_rfl) ?_
                    refine TA.take 0 (.slice A2 x1.length c2) rfl (by kernel_rfl) (by kernel_rfl) (by kernel_rfl) (fun _ _ _ h => h) (Hp.old (View.le_refl _) (View.le_trans hV1 hV5) (.cons _ List.Sublist.slnil) OldAll.nil) (by kernel_rfl) (fun _ _ => by kernel_rfl) ?_
                    refine TA.take 1 (.int .i64 r4) rfl (by kernel_rfl) (by kernel_rfl) (by kernel_rfl) (fun _ _ _ h => h) (Hp.old (View.le_refl _) (View.le_trans hV1 hV5) (.cons _ List.Sublist.slnil) OldAll.nil) (by kernel_rfl) (fun _ _ => by kernel_rfl) ?_
                    refine TA.take 2 (.int .i64 x2) rfl (by kernel_rfl) (by kernel_rfl) (by kernel_rfl) (fun _ _ _ h => h) (Hp.old (View.le_refl _) (View.le_trans hV1 hV5) (.cons _ List.Sublist.slnil) OldAll.nil) (by kernel_rfl) (fun _ _ => by kernel_rfl) ?_
                    refine TA.take 3 (.int .i64 (IntKind.i64.wrap (r4 + x2))) rfl (by kernel_rfl) (by kernel_rfl) (by kernel_rfl) (fun _ _ _ h => h) (Hp.old (View.le_refl _) (View.le_trans hV1 hV5) (.cons _ List.Sublist.slnil) OldAll.nil) (by kernel_rfl) (fun _ _ => by kernel_rfl) ?_
                    refine TA.take 4 (.int .i64 (IntKind.i64.wrap ((IntKind.i64.wrap (r4 + x2) : Int).tdiv 8))) rfl (by kernel_rfl) (by kernel_rfl) (by kernel_rfl) (fun _ _ _ h => h) (Hp.old (View.le_refl _) (View.le_trans hV1 hV5) (.cons _ List.Sublist.slnil) OldAll.nil) (by kernel_rfl) (fun _ _ => by kernel_rfl) ?_
                    refine TA.take 7 (.int .i64 r4) rfl (by kernel_rfl) (by kernel_rfl) (by kernel_rfl) (fun _ _ _ h => h) (Hp.old (View.le_refl _) (View.le_trans hV1 hV5) (.cons _ List.Sublist.slnil) OldAll.nil) (by kernel_rfl) (fun _ _ => by kernel_rfl) ?_
                    refine TA.take 8 (.int .i64 x2) rfl (by kernel_rfl) (by kernel_rfl) (by kernel_rfl) (fun _ _ _ h => h) (Hp.old (View.le_refl _) (View.le_trans hV1 hV5) (.cons _ List.Sublist.slnil) OldAll.nil) (by kernel_rfl) (fun _ _ => by kernel_rfl) ?_
                    refine TA.take 9 (.int .i64 (IntKind.i64.wrap (r4 + x2))) rfl (by kernel_rfl) (by kernel_rfl) (by kernel_rfl) (fun _ _ _ h => h) (Hp.old (View.le_refl _) (View.le_trans hV1 hV5) (.cons _ List.Sublist.slnil) OldAll.nil) (by kernel_rfl) (fun _ _ => by kernel_rfl) ?_
                    refine TA.take 10 (.int .i64 ((IntKind.i64.wrap (r4 + x2) : Int).tmod 8)) rfl (by kernel_rfl) (by kernel_rfl) (by kernel_rfl) (fun _ _ _ h => h) (Hp.old (View.le_refl _) (View.le_trans hV1 hV5) (.cons _ List.Sublist.slnil) OldAll.nil) (by kernel_rfl) (fun _ _ => by kernel_rfl) ?_
                    obtain ⟨n2, hb8, hX2⟩ := Option.bind_eq_some_iff.1 hX2
                    refine TA.take 11 (.int .u8 (shr .u8 128 n2)) rfl (by kernel_rfl) (by kernel_rfl) (by kernel_rfl) (fun _ _ _ h => h) (Hp.old (View.le_refl _) (View.le_trans hV1 hV5) (.cons _ List.Sublist.slnil) OldAll.nil) (by kernel_rfl) (fun w' hh => exec_shr rfl rfl rfl hb8) ?_
                    refine TA.all [5] (by kernel_rfl) rfl ⟨?_, trivial⟩
                    obtain ⟨e1, hb9, hX2⟩ := Option.bind_eq_some_iff.1 hX2
                    obtain ⟨hi1, hi2, hi3⟩ := idx_some hb9
                    refine TA.br rfl (W1.look (.pointer (some ((sadr A2).add (((IntKind.i64.wrap ((IntKind.i64.wrap (r4 + x2) : Int).tdiv 8)).toNat) * 1)))) (by kernel_rfl) (fun w' hh => exec_indexAddr (e := 5) (s := 1) rfl rfl rfl (by kernel_rfl) (by kernel_rfl) hi1 hi2 ((hh.row_slOk (i := 0) (by rfl)).some_ hi3 (by decide))) ?_)
                    refine TA.on (Hp.old (View.le_refl _) (View.le_trans hV1 hV5) (.cons _ List.Sublist.slnil) OldAll.nil) ?_
                    refine TA.all [6] (by kernel_rfl) rfl ⟨?_, trivial⟩
                    refine TA.br rfl (W1.look (.int .u8 e1) (by kernel_rfl) (fun w' hh => exec_load1 rfl rfl (by kernel_rfl) (SlOk.wcellF0 (E := (eK .u8)) (hh.row_slOk (i := 0) (by rfl)) hi3 (fun _ _ _ h => h) rfl)) ?_)
                    refine TA.on (Hp.old (View.le_refl _) (View.le_trans hV1 hV5) (.cons _ List.Sublist.slnil) OldAll.nil) ?_
                    refine TA.take 12 (.int .u8 (bxor .u8 e1 (shr .u8 128 n2))) rfl (by kernel_rfl) (by kernel_rfl) (by kernel_rfl) (fun _ _ _ h => h) (Hp.old (View.le_refl _) (View.le_trans hV1 hV5) (.cons _ List.Sublist.slnil) OldAll.nil) (by kernel_rfl) (fun _ _ => by kernel_rfl) ?_
                    refine TA.all [13] (by kernel_rfl) rfl ⟨?_, trivial⟩
                    obtain ⟨e2, hb10, hX2⟩ := Option.bind_eq_some_iff.1 hX2
                    obtain ⟨hi4, hi5, hi6⟩ := idx_some hb10
                    refine TA.br rfl (W1.look (.pointer (some ((sadr A2).add (((IntKind.i64.wrap ((IntKind.i64.wrap (r4 + x2) : Int).tdiv 8)).toNat) * 1)))) (by kernel_rfl) (fun w' hh => exec_indexAddr (e := 5) (s := 1) rfl rfl rfl (by kernel_rfl) (by kernel_rfl) hi4 hi5 ((hh.row_slOk (i := 0) (by rfl)).some_ hi6 (by decide))) ?_)
                    refine TA.on (Hp.old (View.le_refl _) (View.le_trans hV1 hV5) (.cons _ List.Sublist.slnil) OldAll.nil) ?_
                    refine TA.all [14] (by kernel_rfl) rfl ⟨?_, trivial⟩
                    refine TA.br rfl (W1.storeRow (E := (eK .u8)) 0 ((IntKind.i64.wrap ((IntKind.i64.wrap (r4 + x2) : Int).tdiv 8)).toNat) 0 e2 (bxor .u8 e1 (shr .u8 128 n2)) _ (vs := [.int .u8 (bxor .u8 e1 (shr .u8 128 n2))]) (by rfl) (by kernel_rfl) rfl rfl (addr_add0 _).symm rfl rfl (fun _ => by kernel_rfl) (one_of rfl) hi6 (Nat.le_of_ble_eq_true (by kernel_rfl)) (fun _ _ h => by cases h; rfl) ?_)
                    refine TA.on (Hp.old (View.le_refl _) (View.le_trans hV1 hV5) (.cons _ List.Sublist.slnil) OldAll.nil) ?_
                    refine T.reslot 7 (.slice A2 ((x1.set ((IntKind.i64.wrap ((IntKind.i64.wrap (r4 + x2) : Int).tdiv 8)).toNat) (bxor .u8 e1 (shr .u8 128 n2))).length) c2) rfl (by simp only [List.length_set]) ?_
                    refine T.reslot 39 (.slice A2 ((x1.set ((IntKind.i64.wrap ((IntKind.i64.wrap (r4 + x2) : Int).tdiv 8)).toNat) (bxor .u8 e1 (shr .u8 128 n2))).length) c2) rfl (by simp only [List.length_set]) ?_
                    refine TA.done (by kernel_rfl) ?_
                    cases hX2
                    exact fun a w' hf hh => Exists.intro A2 (Exists.intro c2 (And.intro ((((((Fr.nil hf).pick hf 31 rfl).pick hf 7 rfl).pick hf 2 rfl).pick hf 1 rfl).pick hf 0 rfl) (hh.sub (.cons_cons _ List.Sublist.slnil))))
                  ·
                    rw [hc4, cond_false] at hX2
                    refine T.skip_code ?_
                    cases hX2
                    exact fun a w' hf hh => Exists.intro A2 (Exists.intro c2 (And.intro ((((((Fr.nil hf).pick hf 31 rfl).pick hf 7 rfl).pick hf 2 rfl).pick hf 1 rfl).pick hf 0 rfl) (hh.sub (.cons_cons _ List.Sublist.slnil))))
                ·
                  rintro a w' ⟨A4, c4, hf, hh⟩
                  refine (?_ : T 60 w V5 [rowf 5 (eK .u8) A4 c4 z3] [(0, .string p0), (1, .int .i64 r4), (2, .int .u16 p2), (7, .slice A4 z3.length c4), (31, .int .i64 x2)] _) a w' hf hh
                  clear hf hh
                  refine T.region ?_
                  refine T.pure (.int .i64 (IntKind.i64.wrap (x2 + 1))) (by kernel_rfl) (fun _ => by kernel_rfl) ?_
                  refine T.pure (.int .i64 (IntKind.i64.wrap (x2 + 1))) (by kernel_rfl) (fun _ => by kernel_rfl) ?_
                  refine T.nil ?_
                  cases hY1
                  exact fun a w' hf hh => Exists.intro (z3, IntKind.i64.wrap (x2 + 1)) (And.intro rfl (Exists.intro z3 (Exists.intro (IntKind.i64.wrap (x2 + 1)) (And.intro rfl (Exists.intro A4 (Exists.intro c4 (And.intro ((((((Fr.nil hf).pick hf 31 rfl).pick hf 7 rfl).pick hf 2 rfl).pick hf 1 rfl).pick hf 0 rfl) (hh.sub (.cons_cons _ List.Sublist.slnil)))))))))
              ·
                rw [hc3, cond_false] at hY1
                refine T.exit ?_
                cases hY1
                cases (hr1 _ rfl)
                exact fun a w' hf hh => Exists.intro A2 (Exists.intro c2 (And.intro (((Fr.nil hf).pick hf 7 rfl).pick hf 0 rfl) (hh.sub (.cons_cons _ List.Sublist.slnil))))
          ·
            rintro a w' ⟨A3, c3, hf, hh⟩
            refine (?_ : T 60 w V5 [rowf 5 (eK .u8) A3 c3 z2] [(0, .string p0), (7, .slice A3 z2.length c3)] _) a w' hf hh
            clear hf hh
            refine T.seq ?_
            refine T.region ?_
            refine T.pure (.slice A3 z2.length c3) (by kernel_rfl) (fun _ => by kernel_rfl) ?_
            refine T.look (.string (bytesOf z2)) (by kernel_rfl) (fun w' hh => exec_bytes_str (e := 5) rfl rfl (by kernel_rfl) (by kernel_rfl) (by kernel_rfl) (hh.row_slOk (i := 0) (by rfl))) ?_
            obtain ⟨r6, hb11, hF⟩ := Option.bind_eq_some_iff.1 hF
            refine T.step (W1.call (vSc eInt) r6 21 #[.string (bytesOf z2)] (by kernel_rfl) (fun _ => by kernel_rfl) (fun w' hh => sum_Of_l (bytesOf z2) r6 hb11 w' ) ?_)
            intro u V6 hV6 hu
            obtain rfl := sureInt _ _ _ hu
            refine T.pure (.string p0) (by kernel_rfl) (fun _ => by kernel_rfl) ?_
            obtain ⟨r7, hb12, hF⟩ := Option.bind_eq_some_iff.1 hF
            refine T.step (W1.call (vSc eInt) r7 21 #[.string p0] (by kernel_rfl) (fun _ => by kernel_rfl) (fun w' hh => sum_Of_l p0 r7 hb12 w' ) ?_)
            intro u V7 hV7 hu
            obtain rfl := sureInt _ _ _ hu
            refine T.pure (.bool (r6 != r7)) (by kernel_rfl) (fun _ => by kernel_rfl) ?_
            refine T.pure (.bool (r6 != r7)) (by kernel_rfl) (fun _ => by kernel_rfl) ?_
            refine T.nil ?_
            cases hF
            refine T.ret rfl ?_
            exact T.ret1 rfl (ResIs.tmp rfl) fun w' hh => ⟨_, rfl, hh.below, (show _ from rfl)⟩

set_option maxRecDepth 100000 in
set_option maxHeartbeats 4000000 in
theorem annalkeep_SumTogether_l (p0 : ByteArray) (p1 : ByteArray) (p2 : Int) (r : Bool) (hF : annalkeep_SumTogether p0 p1 p2 = some r) (w : World)  :
    Calls Try.prog 4 #[.string p0, .string p1, .int .i64 p2] w (Post (vSc eBool) r w) := by
  unfold annalkeep_SumTogether at hF
  refine T.start (l := [.string p0, .string p1, .int .i64 p2]) Try.func4 rfl rfl rfl ?_
  refine T.seq ?_
  refine T.region ?_
  refine T.pure (.bool false) (by kernel_rfl) (fun _ => by kernel_rfl) ?_
  refine T.nil ?_
  refine T.seq ?_
  refine T.seq ?_
  refine T.region ?_
  obtain ⟨r1, hb1, hF⟩ := Option.bind_eq_some_iff.1 hF
  refine T.step (W1.call (vSc eInt) r1 21 #[.string (ByteArray.mk #[49, 50, 51, 52, 53, 54, 55, 56, 57])] (by kernel_rfl) (fun _ => by kernel_rfl) (fun w' hh => sum_Of_l (ByteArray.mk #[49, 50, 51, 52, 53, 54, 55, 56, 57]) r1 hb1 w' ) ?_)
  intro u V1 hV1 hu
  obtain rfl := sureInt _ _ _ hu
  refine T.pure (.bool (r1 != 12739)) (by kernel_rfl) (fun _ => by kernel_rfl) ?_
  refine T.nil ?_
  refine T.cond (r1 != 12739) (by kernel_rfl) (by kernel_rfl) (fun hc1 => ?_) (fun hc1 => ?_)
  ·
    rw [hc1, cond_true] at hF
    refine T.seq ?_
    refine T.region ?_
    refine T.pure (.bool false) (by kernel_rfl) (fun _ => by kernel_rfl) ?_
    refine T.nil ?_
    cases hF
    refine T.ret rfl ?_
    exact T.ret1 rfl (ResIs.tmp rfl) fun w' hh => ⟨_, rfl, hh.below, (show _ from rfl)⟩
  ·
    rw [hc1, cond_false] at hF
    refine T.skip_code ?_
    refine T.seq ?_
    refine T.region ?_
    refine T.pure (.string p0) (by kernel_rfl) (fun _ => by kernel_rfl) ?_
    refine T.pure (.int .i64 (p0.size : Int)) (by kernel_rfl) (fun _ => by kernel_rfl) ?_
    refine T.pure (.string p1) (by kernel_rfl) (fun _ => by kernel_rfl) ?_
    refine T.pure (.int .i64 (p1.size : Int)) (by kernel_rfl) (fun _ => by kernel_rfl) ?_
    refine T.pure (.int .i64 (if (p1.size : Int) < (p0.size : Int) then (p1.size : Int) else (p0.size : Int))) (by kernel_rfl) (fun _ => by kernel_rfl) ?_
    refine T.pure (.int .i64 (if (p1.size : Int) < (p0.size : Int) then (p1.size : Int) else (p0.size : Int))) (by kernel_rfl) (fun _ => by kernel_rfl) ?_
    refine T.nil ?_
    refine T.seq ?_
    refine T.region ?_
    refine T.pure (.int .i64 (if (p1.size : Int) < (p0.size : Int) then (p1.size : Int) else (p0.size : Int))) (by kernel_rfl) (fun _ => by kernel_rfl) ?_
    obtain ⟨u1, hb2, hF⟩ := Option.bind_eq_some_iff.1 hF
    obtain ⟨ti, hti, hz1, hz2, hz3⟩ := info_parts (P := Try.prog) (e := 5) (z := .int .u8 0) (size := 1) (bytes := 1) (by kernel_rfl)
    obtain ⟨hb2_n, hb2_r, hb2_m⟩ := makes_some hb2
    refine T.step (W1.make (E := (eK .u8)) ((if (p1.size : Int) < (p0.size : Int) then (p1.size : Int) else (p0.size : Int)).toNat) (0 : Int) _ _ .i64 .i64 1 ti _ (by kernel_rfl) rfl (by kernel_rfl) hti hz1 hz2 hz3 (congrArg (Value.int _) hb2_n.symm) (congrArg (Value.int _) hb2_n.symm) (fun _ => rfl) rfl hb2_r hb2_m (fun A1 => ?_))
    refine T.pure (.slice A1 ((List.replicate ((if (p1.size : Int) < (p0.size : Int) then (p1.size : Int) else (p0.size : Int)).toNat) (0 : Int)).length) ((if (p1.size : Int) < (p0.size : Int) then (p1.size : Int) else (p0.size : Int)).toNat)) (by kernel_rfl) (fun _ => by kernel_rfl) ?_
    refine T.nil ?_
    refine T.seq ?_
    refine T.seq ?_
    refine T.region ?_
    refine T.pure (.slice A1 ((List.replicate ((if (p1.size : Int) < (p0.size : Int) then (p1.size : Int) else (p0.size : Int)).toNat) (0 : Int)).length) ((if (p1.size : Int) < (p0.size : Int) then (p1.size : Int) else (p0.size : Int)).toNat)) (by kernel_rfl) (fun _ => by kernel_rfl) ?_
    refine T.pure (.int .i64 ((List.replicate ((if (p1.size : Int) < (p0.size : Int) then (p1.size : Int) else (p0.size : Int)).toNat) (0 : Int)).length : Int)) (by kernel_rfl) (fun _ => by kernel_rfl) ?_
    refine T.pure (.int .i64 0) (by kernel_rfl) (fun _ => by kernel_rfl) ?_
    refine T.nil ?_
    obtain ⟨z1, hz1, hF⟩ := Option.bind_eq_some_iff.1 hF
    refine T.mid (fun a w' => ∃ (A3 : Option Addr) (c2 : Nat), Fr 62 [(0, .string p0), (1, .string p1), (2, .int .i64 p2), (7, .int .i64 (if (p1.size : Int) < (p0.size : Int) then (p1.size : Int) else (p0.size : Int))), (8, .slice A3 z1.length c2)] a ∧ Hp w V1 [row 5 (eK .u8) A3 c2 z1] w') ?_ ?_
    ·
      refine T.block ?_
      refine T.iter (fun s1 a w' => ∃ (x1 : List Int) (x2 : Int), s1 = (x1, x2) ∧ ∃ (A2 : Option Addr) (c1 : Nat), Fr 62 [(0, .string p0), (1, .string p1), (2, .int .i64 p2), (7, .int .i64 (if (p1.size : Int) < (p0.size : Int) then (p1.size : Int) else (p0.size : Int))), (8, .slice A2 x1.length c1), (21, .int .i64 ((List.replicate ((if (p1.size : Int) < (p0.size : Int) then (p1.size : Int) else (p0.size : Int)).toNat) (0 : Int)).length : Int)), (22, .int .i64 x2)] a ∧ Hp w V1 [row 5 (eK .u8) A2 c1 x1] w') hz1 ?_ ?_
      ·
        exact fun a w' hf hh => Exists.intro (List.replicate ((if (p1.size : Int) < (p0.size : Int) then (p1.size : Int) else (p0.size : Int)).toNat) (0 : Int)) (Exists.intro 0 (And.intro rfl (Exists.intro A1 (Exists.intro ((if (p1.size : Int) < (p0.size : Int) then (p1.size : Int) else (p0.size : Int)).toNat) (And.intro ((((((((Fr.nil hf).pick hf 22 rfl).pick hf 21 rfl).pick hf 8 rfl).pick hf 7 rfl).pick hf 2 rfl).pick hf 1 rfl).pick hf 0 rfl) (hh.sub (.cons_cons _ List.Sublist.slnil)))))))
      ·
        rintro s1 y1 hY1 hr1 a w' ⟨x1, x2, rfl, A2, c1, hf, hh⟩
        refine (?_ : T 62 w V1 [row 5 (eK .u8) A2 c1 x1] [(0, .string p0), (1, .string p1), (2, .int .i64 p2), (7, .int .i64 (if (p1.size : Int) < (p0.size : Int) then (p1.size : Int) else (p0.size : Int))), (8, .slice A2 x1.length c1), (21, .int .i64 ((List.replicate ((if (p1.size : Int) < (p0.size : Int) then (p1.size : Int) else (p0.size : Int)).toNat) (0 : Int)).length : Int)), (22, .int .i64 x2)] _) a w' hf hh
        clear hf hh
        try dsimp only at hY1
        refine T.seq ?_
        refine T.region ?_
        refine T.pure (.bool (decide (x2 < ((List.replicate ((if (p1.size : Int) < (p0.size : Int) then (p1.size : Int) else (p0.size : Int)).toNat) (0 : Int)).length : Int)))) (by kernel_rfl) (fun _ => by kernel_rfl) ?_
        refine T.nil ?_
        refine T.seq ?_
        refine T.cond (decide (x2 < ((List.replicate ((if (p1.size : Int) < (p0.size : Int) then (p1.size : Int) else (p0.size : Int)).toNat) (0 : Int)).length : Int))) (by kernel_rfl) (by kernel_rfl) (fun hc2 => ?_) (fun hc2 => ?_)
        ·
          rw [hc2, cond_true] at hY1
          refine T.skip_code ?_
          refine T.seq ?_
          refine T.block ?_
          refine T.seq ?_
          refine T.region ?_
          refine T.pure (.int .i64 x2) (by kernel_rfl) (fun _ => by kernel_rfl) ?_
          refine T.pure (.int .i64 x2) (by kernel_rfl) (fun _ => by kernel_rfl) ?_
          refine T.nil ?_
          refine T.held [] (by kernel_rfl) ?_
          refine TA.take 0 (.slice A2 x1.length c1) rfl (by kernel_rfl) (by kernel_rfl) (by kernel_rfl) (fun _ _ _ h => h) (Hp.old (View.le_refl _) hV1 (.cons _ List.Sublist.slnil) OldAll.nil) (by kernel_rfl) (fun _ _ => by kernel_rfl) ?_
          refine TA.take 1 (.int .i64 x2) rfl (by kernel_rfl) (by kernel_rfl) (by kernel_rfl) (fun _ _ _ h => h) (Hp.old (View.le_refl _) hV1 (.cons _ List.Sublist.slnil) OldAll.nil) (by kernel_rfl) (fun _ _ => by kernel_rfl) ?_
          refine TA.take 2 (.string p0) rfl (by kernel_rfl) (by kernel_rfl) (by kernel_rfl) (fun _ _ _ h => h) (Hp.old (View.le_refl _) hV1 (.cons _ List.Sublist.slnil) OldAll.nil) (by kernel_rfl) (fun _ _ => by kernel_rfl) ?_
          refine TA.take 3 (.int .i64 x2) rfl (by kernel_rfl) (by kernel_rfl) (by kernel_rfl) (fun _ _ _ h => h) (Hp.old (View.le_refl _) hV1 (.cons _ List.Sublist.slnil) OldAll.nil) (by kernel_rfl) (fun _ _ => by kernel_rfl) ?_
          obtain ⟨b1, hb3, hY1⟩ := Option.bind_eq_some_iff.1 hY1
          refine TA.take 4 (.int .u8 (b1.toNat : Int)) rfl (by kernel_rfl) (by kernel_rfl) (by kernel_rfl) (fun _ _ _ h => h) (Hp.old (View.le_refl _) hV1 (.cons _ List.Sublist.slnil) OldAll.nil) (by kernel_rfl) (fun w' hh => exec_index_str rfl rfl rfl (by kernel_rfl) hb3) ?_
          refine TA.take 5 (.string p1) rfl (by kernel_rfl) (by kernel_rfl) (by kernel_rfl) (fun _ _ _ h => h) (Hp.old (View.le_refl _) hV1 (.cons _ List.Sublist.slnil) OldAll.nil) (by kernel_rfl) (fun _ _ => by kernel_rfl) ?_
          refine TA.take 6 (.int .i64 x2) rfl (by kernel_rfl) (by kernel_rfl) (by kernel_rfl) (fun _ _ _ h => h) (Hp.old (View.le_refl _) hV1 (.cons _ List.Sublist.slnil) OldAll.nil) (by kernel_rfl) (fun _ _ => by kernel_rfl) ?_
          obtain ⟨b2, hb4, hY1⟩ := Option.bind_eq_some_iff.1 hY1
          refine TA.take 7 (.int .u8 (b2.toNat : Int)) rfl (by kernel_rfl) (by kernel_rfl) (by kernel_rfl) (fun _ _ _ h => h) (Hp.old (View.le_refl _) hV1 (.cons _ List.Sublist.slnil) OldAll.nil) (by kernel_rfl) (fun w' hh => exec_index_str rfl rfl rfl (by kernel_rfl) hb4) ?_
          refine TA.take 8 (.int .u8 (bxor .u8 (b1.toNat : Int) (b2.toNat : Int))) rfl (by kernel_rfl) (by kernel_rfl) (by kernel_rfl) (fun _ _ _ h => h) (Hp.old (View.le_refl _) hV1 (.cons _ List.Sublist.slnil) OldAll.nil) (by kernel_rfl) (fun _ _ => by kernel_rfl) ?_
          refine TA.all [9] (by kernel_rfl) rfl ⟨?_, trivial⟩
          obtain ⟨e1, hb5, hY1⟩ := Option.bind_eq_some_iff.1 hY1
          obtain ⟨hi1, hi2, hi3⟩ := idx_some hb5
          refine TA.br rfl (W1.look (.pointer (some ((sadr A2).add (x2.toNat * 1)))) (by kernel_rfl) (fun w' hh => exec_indexAddr (e := 5) (s := 1) rfl rfl rfl (by kernel_rfl) (by kernel_rfl) hi1 hi2 ((hh.row_slOk (i := 0) (by rfl)).some_ hi3 (by decide))) ?_)
          refine TA.on (Hp.old (View.le_refl _) hV1 (.cons _ List.Sublist.slnil) OldAll.nil) ?_
          refine TA.all [10] (by kernel_rfl) rfl ⟨?_, trivial⟩
          refine TA.br rfl (W1.storeRow (E := (eK .u8)) 0 (x2.toNat) 0 e1 (bxor .u8 (b1.toNat : Int) (b2.toNat : Int)) _ (vs := [.int .u8 (bxor .u8 (b1.toNat : Int) (b2.toNat : Int))]) (by rfl) (by kernel_rfl) rfl rfl (addr_add0 _).symm rfl rfl (fun _ => by kernel_rfl) (one_of rfl) hi3 (Nat.le_of_ble_eq_true (by kernel_rfl)) (fun _ _ h => by cases h; rfl) ?_)
          refine TA.on (Hp.old (View.le_refl _) hV1 (.cons _ List.Sublist.slnil) OldAll.nil) ?_
          refine T.reslot 8 (.slice A2 ((x1.set x2.toNat (bxor .u8 (b1.toNat : Int) (b2.toNat : Int))).length) c1) rfl (by simp only [List.length_set]) ?_
          refine T.reslot 25 (.slice A2 ((x1.set x2.toNat (bxor .u8 (b1.toNat : Int) (b2.toNat : Int))).length) c1) rfl (by simp only [List.length_set]) ?_
          refine TA.done (by kernel_rfl) ?_
          refine T.region ?_
          refine T.pure (.int .i64 (IntKind.i64.wrap (x2 + 1))) (by kernel_rfl) (fun _ => by kernel_rfl) ?_
          refine T.pure (.int .i64 (IntKind.i64.wrap (x2 + 1))) (by kernel_rfl) (fun _ => by kernel_rfl) ?_
          refine T.nil ?_
          cases hY1
          exact fun a w' hf hh => Exists.intro ((x1.set x2.toNat (bxor .u8 (b1.toNat : Int) (b2.toNat : Int))), IntKind.i64.wrap (x2 + 1)) (And.intro rfl (Exists.intro (x1.set x2.toNat (bxor .u8 (b1.toNat : Int) (b2.toNat : Int))) (Exists.intro (IntKind.i64.wrap (x2 + 1)) (And.intro rfl (Exists.intro A2 (Exists.intro c1 (And.intro ((((((((Fr.nil hf).pick hf 22 rfl).pick hf 21 rfl).pick hf 8 rfl).pick hf 7 rfl).pick hf 2 rfl).pick hf 1 rfl).pick hf 0 rfl) (hh.sub (.cons_cons _ List.Sublist.slnil)))))))))
        ·
          rw [hc2, cond_false] at hY1
          refine T.exit ?_
          cases hY1
          cases (hr1 _ rfl)
          exact fun a w' hf hh => Exists.intro A2 (Exists.intro c1 (And.intro ((((((Fr.nil hf).pick hf 8 rfl).pick hf 7 rfl).pick hf 2 rfl).pick hf 1 rfl).pick hf 0 rfl) (hh.sub (.cons_cons _ List.Sublist.slnil))))
    ·
      rintro a w' ⟨A3, c2, hf, hh⟩
      refine (?_ : T 62 w V1 [row 5 (eK .u8) A3 c2 z1] [(0, .string p0), (1, .string p1), (2, .int .i64 p2), (7, .int .i64 (if (p1.size : Int) < (p0.size : Int) then (p1.size : Int) else (p0.size : Int))), (8, .slice A3 z1.length c2)] _) a w' hf hh
      clear hf hh
      refine T.seq ?_
      refine T.region ?_
      refine T.pure (.int .i64 p2) (by kernel_rfl) (fun _ => by kernel_rfl) ?_
      obtain ⟨r3, hb6, hF⟩ := Option.bind_eq_some_iff.1 hF
      refine T.step (W1.call (vSc eInt) r3 22 #[.int .i64 p2, .int .i64 40] (by kernel_rfl) (fun _ => by kernel_rfl) (fun w' hh => annalkeep_Within_l p2 40 r3 hb6 w' ) ?_)
      intro u V2 hV2 hu
      obtain rfl := sureInt _ _ _ hu
      obtain ⟨u2, hb7, hF⟩ := Option.bind_eq_some_iff.1 hF
      obtain ⟨ti, hti, hz1, hz2, hz3⟩ := info_parts (P := Try.prog) (e := 5) (z := .int .u8 0) (size := 1) (bytes := 1) (by kernel_rfl)
      obtain ⟨hb7_n, hb7_r, hb7_m⟩ := makes_some hb7
      refine T.step (W1.make (E := (eK .u8)) r3.toNat (0 : Int) _ _ .i64 .i64 1 ti _ (by kernel_rfl) rfl (by kernel_rfl) hti hz1 hz2 hz3 (congrArg (Value.int _) hb7_n.symm) (congrArg (Value.int _) hb7_n.symm) (fun _ => rfl) rfl hb7_r hb7_m (fun A4 => ?_))
      refine T.look (.string (bytesOf (List.replicate r3.toNat (0 : Int)))) (by kernel_rfl) (fun w' hh => exec_bytes_str (e := 5) rfl rfl (by kernel_rfl) (by kernel_rfl) (by kernel_rfl) (hh.row_slOk (i := 0) (by rfl))) ?_
      refine T.pure (.string (bytesOf (List.replicate r3.toNat (0 : Int)))) (by kernel_rfl) (fun _ => by kernel_rfl) ?_
      refine T.nil ?_
      obtain ⟨z2, hX1, hF⟩ := Option.bind_eq_some_iff.1 hF
      refine T.cut (fun a w' => Fr 62 [(6, .bool z2)] a ∧ Hp w V2 [] w') ?_ ?_
      ·
        refine T.quiet (by kernel_rfl) (by kernel_rfl) ?_
        refine TQ.pure (.slice A3 z1.length c2) (by kernel_rfl) (fun _ => by kernel_rfl) ?_
        refine TQ.look (.string (bytesOf z1)) (by kernel_rfl) (fun w' hh => exec_bytes_str (e := 5) rfl rfl (by kernel_rfl) (by kernel_rfl) (by kernel_rfl) (hh.row_slOk (i := 1) (by rfl))) ?_
        obtain ⟨r5, hb8, hX1⟩ := Option.bind_eq_some_iff.1 hX1
        refine TQ.call (vSc eInt) r5 21 #[.string (bytesOf z1)] (.int .i64 r5) (fun V u hu => sureInt V u _ hu) (by kernel_rfl) (fun _ => by kernel_rfl) (fun w' hh => sum_Of_l (bytesOf z1) r5 hb8 w' ) ?_
        refine TQ.pure (.string p0) (by kernel_rfl) (fun _ => by kernel_rfl) ?_
        refine TQ.pure (.int .i64 (if (p1.size : Int) < (p0.size : Int) then (p1.size : Int) else (p0.size : Int))) (by kernel_rfl) (fun _ => by kernel_rfl) ?_
        obtain ⟨s2, hb9, hX1⟩ := Option.bind_eq_some_iff.1 hX1
        refine TQ.look (.string s2) (by kernel_rfl) (fun w' hh => exec_slice_str_hi rfl rfl rfl (by kernel_rfl) hb9) ?_
        obtain ⟨r6, hb10, hX1⟩ := Option.bind_eq_some_iff.1 hX1
        refine TQ.call (vSc eInt) r6 21 #[.string s2] (.int .i64 r6) (fun V u hu => sureInt V u _ hu) (by kernel_rfl) (fun _ => by kernel_rfl) (fun w' hh => sum_Of_l s2 r6 hb10 w' ) ?_
        refine TQ.pure (.string p1) (by kernel_rfl) (fun _ => by kernel_rfl) ?_
        refine TQ.pure (.int .i64 (if (p1.size : Int) < (p0.size : Int) then (p1.size : Int) else (p0.size : Int))) (by kernel_rfl) (fun _ => by kernel_rfl) ?_
        obtain ⟨s3, hb11, hX1⟩ := Option.bind_eq_some_iff.1 hX1
        refine TQ.look (.string s3) (by kernel_rfl) (fun w' hh => exec_slice_str_hi rfl rfl rfl (by kernel_rfl) hb11) ?_
        obtain ⟨r7, hb12, hX1⟩ := Option.bind_eq_some_iff.1 hX1
        refine TQ.call (vSc eInt) r7 21 #[.string s3] (.int .i64 r7) (fun V u hu => sureInt V u _ hu) (by kernel_rfl) (fun _ => by kernel_rfl) (fun w' hh => sum_Of_l s3 r7 hb12 w' ) ?_
        refine TQ.pure (.int .i64 (bxor .i64 r6 r7)) (by kernel_rfl) (fun _ => by kernel_rfl) ?_
        refine TQ.pure (.bool (r5 == (bxor .i64 r6 r7))) (by kernel_rfl) (fun _ => by kernel_rfl) ?_
        refine TQ.pure (.bool (r5 == (bxor .i64 r6 r7))) (by kernel_rfl) (fun _ => by kernel_rfl) ?_
        cases hg1 : (r5 == (bxor .i64 r6 r7))
        ·
          skip
          rw [hg1, cond_false] at hX1
          refine TQ.pass (by kernel_rfl) (by kernel_rfl) ?_
          refine TQ.pass (by kernel_rfl) (by kernel_rfl) ?_
          refine TQ.pass (by kernel_rfl) (by kernel_rfl) ?_
          refine TQ.pass (by kernel_rfl) (by kernel_rfl) ?_
          refine TQ.pass (by kernel_rfl) (by kernel_rfl) ?_
          refine TQ.pass (by kernel_rfl) (by kernel_rfl) ?_
          refine TQ.pass (by kernel_rfl) (by kernel_rfl) ?_
          refine TQ.pure (.bool false) (by kernel_rfl) (fun _ => by kernel_rfl) ?_
          refine TQ.pure (.bool false) (by kernel_rfl) (fun _ => by kernel_rfl) ?_
          refine TQ.nil ?_
          cases hX1
          exact fun a w' hf hh => And.intro ((Fr.nil hf).pick hf 6 rfl) (hh.sub (.cons _ (.cons _ List.Sublist.slnil)))
        ·
          skip
          rw [hg1, cond_true] at hX1
          refine TQ.pure (.string (bytesOf (List.replicate r3.toNat (0 : Int)))) (by kernel_rfl) (fun _ => by kernel_rfl) ?_
          refine TQ.pure (.string p0) (by kernel_rfl) (fun _ => by kernel_rfl) ?_
          obtain ⟨s4, hb13, hX1⟩ := Option.bind_eq_some_iff.1 hX1
          refine TQ.look (.string s4) (by kernel_rfl) (fun w' hh => exec_scat rfl rfl rfl hb13) ?_
          obtain ⟨r8, hb14, hX1⟩ := Option.bind_eq_some_iff.1 hX1
          refine TQ.call (vSc eInt) r8 21 #[.string s4] (.int .i64 r8) (fun V u hu => sureInt V u _ hu) (by kernel_rfl) (fun _ => by kernel_rfl) (fun w' hh => sum_Of_l s4 r8 hb14 w' ) ?_
          refine TQ.pure (.string p0) (by kernel_rfl) (fun _ => by kernel_rfl) ?_
          obtain ⟨r9, hb15, hX1⟩ := Option.bind_eq_some_iff.1 hX1
          refine TQ.call (vSc eInt) r9 21 #[.string p0] (.int .i64 r9) (fun V u hu => sureInt V u _ hu) (by kernel_rfl) (fun _ => by kernel_rfl) (fun w' hh => sum_Of_l p0 r9 hb15 w' ) ?_
          refine TQ.pure (.bool (r8 == r9)) (by kernel_rfl) (fun _ => by kernel_rfl) ?_
          refine TQ.pure (.bool (r8 == r9)) (by kernel_rfl) (fun _ => by kernel_rfl) ?_
          refine TQ.pure (.bool (r8 == r9)) (by kernel_rfl) (fun _ => by kernel_rfl) ?_
          refine TQ.nil ?_
          cases hX1
          exact fun a w' hf hh => And.intro ((Fr.nil hf).pick hf 6 rfl) (hh.sub (.cons _ (.cons _ List.Sublist.slnil)))
      ·
        rintro a w' ⟨hf, hh⟩
        refine (?_ : T 62 w V2 [] [(6, .bool z2)] _) a w' hf hh
        clear hf hh
        cases hF
        refine T.ret rfl ?_
        exact T.ret1 rfl (ResIs.tmp rfl) fun w' hh => ⟨_, rfl, hh.below, (show _ from rfl)⟩

set_option maxRecDepth 100000 in
set_option maxHeartbeats 4000000 in
theorem annalkeep_SumNought_l (p0 : ByteArray) (r : Bool) (hF : annalkeep_SumNought p0 = some r) (w : World)  :
    Calls Try.prog 5 #[.string p0] w (Post (vSc eBool) r w) := by
  unfold annalkeep_SumNought at hF
  refine T.start (l := [.string p0]) Try.func5 rfl rfl rfl ?_
  refine T.seq ?_
  refine T.region ?_
  refine T.pure (.bool false) (by kernel_rfl) (fun _ => by kernel_rfl) ?_
  refine T.nil ?_
  refine T.seq ?_
  refine T.region ?_
  refine T.pure (.string p0) (by kernel_rfl) (fun _ => by kernel_rfl) ?_
  obtain ⟨r1, hb1, hF⟩ := Option.bind_eq_some_iff.1 hF
  refine T.step (W1.call (vSc eInt) r1 21 #[.string p0] (by kernel_rfl) (fun _ => by kernel_rfl) (fun w' hh => sum_Of_l p0 r1 hb1 w' ) ?_)
  intro u V1 hV1 hu
  obtain rfl := sureInt _ _ _ hu
  refine T.pure (.int .i64 r1) (by kernel_rfl) (fun _ => by kernel_rfl) ?_
  refine T.nil ?_
  obtain ⟨z1, hX1, hF⟩ := Option.bind_eq_some_iff.1 hF
  refine T.cut (fun a w' => ∃ (V2 : View), View.le V1 V2 ∧ Fr 33 [(2, .bool z1)] a ∧ Hp w V2 [] w') ?_ ?_
  ·
    refine T.region ?_
    obtain ⟨r2, hb2, hX1⟩ := Option.bind_eq_some_iff.1 hX1
    refine T.step (W1.call (vSc eInt) r2 21 #[.string (ByteArray.mk #[49, 50, 51, 52, 53, 54, 55, 56, 57, 49, 195])] (by kernel_rfl) (fun _ => by kernel_rfl) (fun w' hh => sum_Of_l (ByteArray.mk #[49, 50, 51, 52, 53, 54, 55, 56, 57, 49, 195]) r2 hb2 w' ) ?_)
    intro u V3 hV3 hu
    obtain rfl := sureInt _ _ _ hu
    refine T.pure (.bool (r2 == 0)) (by kernel_rfl) (fun _ => by kernel_rfl) ?_
    refine T.pure (.bool (r2 == 0)) (by kernel_rfl) (fun _ => by kernel_rfl) ?_
    cases hg1 : (r2 == 0)
    ·
      skip
      rw [hg1, cond_false] at hX1
      refine T.pass (by kernel_rfl) (by kernel_rfl) ?_
      refine T.pass (by kernel_rfl) (by kernel_rfl) ?_
      refine T.pure (.bool false) (by kernel_rfl) (fun _ => by kernel_rfl) ?_
      refine T.pure (.bool false) (by kernel_rfl) (fun _ => by kernel_rfl) ?_
      refine T.pass (by kernel_rfl) (by kernel_rfl) ?_
      refine T.pass (by kernel_rfl) (by kernel_rfl) ?_
      refine T.pure (.bool false) (by kernel_rfl) (fun _ => by kernel_rfl) ?_
      refine T.pure (.bool false) (by kernel_rfl) (fun _ => by kernel_rfl) ?_
      refine T.pass (by kernel_rfl) (by kernel_rfl) ?_
      refine T.pass (by kernel_rfl) (by kernel_rfl) ?_
      refine T.pure (.bool false) (by kernel_rfl) (fun _ => by kernel_rfl) ?_
      refine T.pure (.bool false) (by kernel_rfl) (fun _ => by kernel_rfl) ?_
      refine T.pass (by kernel_rfl) (by kernel_rfl) ?_
      refine T.pass (by kernel_rfl) (by kernel_rfl) ?_
      refine T.pass (by kernel_rfl) (by kernel_rfl) ?_
      refine T.pass (by kernel_rfl) (by kernel_rfl) ?_
      refine T.pass (by kernel_rfl) (by kernel_rfl) ?_
      refine T.pass (by kernel_rfl) (by kernel_rfl) ?_
      refine T.pass (by kernel_rfl) (by kernel_rfl) ?_
      refine T.pass (by kernel_rfl) (by kernel_rfl) ?_
      refine T.pass (by kernel_rfl) (by kernel_rfl) ?_
      refine T.pass (by kernel_rfl) (by kernel_rfl) ?_
      refine T.pass (by kernel_rfl) (by kernel_rfl) ?_
      refine T.pure (.bool false) (by kernel_rfl) (fun _ => by kernel_rfl) ?_
      refine T.pure (.bool false) (by kernel_rfl) (fun _ => by kernel_rfl) ?_
      refine T.nil ?_
      cases hX1
      exact fun a w' hf hh => Exists.intro V3 (And.intro hV3 (And.intro ((Fr.nil hf).pick hf 2 rfl) (hh.sub List.Sublist.slnil)))
    ·
      skip
      rw [hg1, cond_true] at hX1
      obtain ⟨r3, hb3, hX1⟩ := Option.bind_eq_some_iff.1 hX1
      refine T.step (W1.call (vSc eInt) r3 21 #[.string (ByteArray.mk #[49, 50, 51, 52, 53, 54, 55, 56, 57])] (by kernel_rfl) (fun _ => by kernel_rfl) (fun w' hh => sum_Of_l (ByteArray.mk #[49, 50, 51, 52, 53, 54, 55, 56, 57]) r3 hb3 w' ) ?_)
      intro u V4 hV4 hu
      obtain rfl := sureInt _ _ _ hu
      refine T.pure (.bool (r3 == 12739)) (by kernel_rfl) (fun _ => by kernel_rfl) ?_
      refine T.pure (.bool (r3 == 12739)) (by kernel_rfl) (fun _ => by kernel_rfl) ?_
      refine T.pure (.bool (r3 == 12739)) (by kernel_rfl) (fun _ => by kernel_rfl) ?_
      cases hg2 : (r3 == 12739)
      ·
        skip
        rw [hg2, cond_false] at hX1
        refine T.pass (by kernel_rfl) (by kernel_rfl) ?_
        refine T.pass (by kernel_rfl) (by kernel_rfl) ?_
        refine T.pure (.bool false) (by kernel_rfl) (fun _ => by kernel_rfl) ?_
        refine T.pure (.bool false) (by kernel_rfl) (fun _ => by kernel_rfl) ?_
        refine T.pass (by kernel_rfl) (by kernel_rfl) ?_
        refine T.pass (by kernel_rfl) (by kernel_rfl) ?_
        refine T.pure (.bool false) (by kernel_rfl) (fun _ => by kernel_rfl) ?_
        refine T.pure (.bool false) (by kernel_rfl) (fun _ => by kernel_rfl) ?_
        refine T.pass (by kernel_rfl) (by kernel_rfl) ?_
        refine T.pass (by kernel_rfl) (by kernel_rfl) ?_
        refine T.pass (by kernel_rfl) (by kernel_rfl) ?_
        refine T.pass (by kernel_rfl) (by kernel_rfl) ?_
        refine T.pass (by kernel_rfl) (by kernel_rfl) ?_
        refine T.pass (by kernel_rfl) (by kernel_rfl) ?_
        refine T.pass (by kernel_rfl) (by kernel_rfl) ?_
        refine T.pass (by kernel_rfl) (by kernel_rfl) ?_
        refine T.pass (by kernel_rfl) (by kernel_rfl) ?_
        refine T.pass (by kernel_rfl) (by kernel_rfl) ?_
        refine T.pass (by kernel_rfl) (by kernel_rfl) ?_
        refine T.pure (.bool false) (by kernel_rfl) (fun _ => by kernel_rfl) ?_
        refine T.pure (.bool false) (by kernel_rfl) (fun _ => by kernel_rfl) ?_
        refine T.nil ?_
        cases hX1
        exact fun a w' hf hh => Exists.intro V4 (And.intro (View.le_trans hV3 hV4) (And.intro ((Fr.nil hf).pick hf 2 rfl) (hh.sub List.Sublist.slnil)))
      ·
        skip
        rw [hg2, cond_true] at hX1
        refine T.pure (.int .i64 r1) (by kernel_rfl) (fun _ => by kernel_rfl) ?_
        refine T.pure (.bool (decide ((0 : Int) ≤ r1))) (by kernel_rfl) (fun _ => by kernel_rfl) ?_
        refine T.pure (.bool (decide ((0 : Int) ≤ r1))) (by kernel_rfl) (fun _ => by kernel_rfl) ?_
        refine T.pure (.bool (decide ((0 : Int) ≤ r1))) (by kernel_rfl) (fun _ => by kernel_rfl) ?_
        cases hg3 : decide ((0 : Int) ≤ r1)
        ·
          skip
          rw [hg3, cond_false] at hX1
          refine T.pass (by kernel_rfl) (by kernel_rfl) ?_
          refine T.pass (by kernel_rfl) (by kernel_rfl) ?_
          refine T.pure (.bool false) (by kernel_rfl) (fun _ => by kernel_rfl) ?_
          refine T.pure (.bool false) (by kernel_rfl) (fun _ => by kernel_rfl) ?_
          refine T.pass (by kernel_rfl) (by kernel_rfl) ?_
          refine T.pass (by kernel_rfl) (by kernel_rfl) ?_
          refine T.pass (by kernel_rfl) (by kernel_rfl) ?_
          refine T.pass (by kernel_rfl) (by kernel_rfl) ?_
          refine T.pass (by kernel_rfl) (by kernel_rfl) ?_
          refine T.pass (by kernel_rfl) (by kernel_rfl) ?_
          refine T.pass (by kernel_rfl) (by kernel_rfl) ?_
          refine T.pass (by kernel_rfl) (by kernel_rfl) ?_
          refine T.pass (by kernel_rfl) (by kernel_rfl) ?_
          refine T.pass (by kernel_rfl) (by kernel_rfl) ?_
          refine T.pass (by kernel_rfl) (by kernel_rfl) ?_
          refine T.pure (.bool false) (by kernel_rfl) (fun _ => by kernel_rfl) ?_
          refine T.pure (.bool false) (by kernel_rfl) (fun _ => by kernel_rfl) ?_
          refine T.nil ?_
          cases hX1
          exact fun a w' hf hh => Exists.intro V4 (And.intro (View.le_trans hV3 hV4) (And.intro ((Fr.nil hf).pick hf 2 rfl) (hh.sub List.Sublist.slnil)))
        ·
          skip
          rw [hg3, cond_true] at hX1
          refine T.pure (.int .i64 r1) (by kernel_rfl) (fun _ => by kernel_rfl) ?_
          refine T.pure (.bool (decide (r1 < 65536))) (by kernel_rfl) (fun _ => by kernel_rfl) ?_
          refine T.pure (.bool (decide (r1 < 65536))) (by kernel_rfl) (fun _ => by kernel_rfl) ?_
          refine T.pure (.bool (decide (r1 < 65536))) (by kernel_rfl) (fun _ => by kernel_rfl) ?_
          cases hg4 : decide (r1 < 65536)
          ·
            skip
            rw [hg4, cond_false] at hX1
            refine T.pass (by kernel_rfl) (by kernel_rfl) ?_
            refine T.pass (by kernel_rfl) (by kernel_rfl) ?_
            refine T.pass (by kernel_rfl) (by kernel_rfl) ?_
            refine T.pass (by kernel_rfl) (by kernel_rfl) ?_
            refine T.pass (by kernel_rfl) (by kernel_rfl) ?_
            refine T.pass (by kernel_rfl) (by kernel_rfl) ?_
            refine T.pass (by kernel_rfl) (by kernel_rfl) ?_
            refine T.pass (by kernel_rfl) (by kernel_rfl) ?_
            refine T.pass (by kernel_rfl) (by kernel_rfl) ?_
            refine T.pass (by kernel_rfl) (by kernel_rfl) ?_
            refine T.pass (by kernel_rfl) (by kernel_rfl) ?_
            refine T.pure (.bool false) (by kernel_rfl) (fun _ => by kernel_rfl) ?_
            refine T.pure (.bool false) (by kernel_rfl) (fun _ => by kernel_rfl) ?_
            refine T.nil ?_
            cases hX1
            exact fun a w' hf hh => Exists.intro V4 (And.intro (View.le_trans hV3 hV4) (And.intro ((Fr.nil hf).pick hf 2 rfl) (hh.sub List.Sublist.slnil)))
          ·
            skip
            rw [hg4, cond_true] at hX1
            refine T.pure (.string p0) (by kernel_rfl) (fun _ => by kernel_rfl) ?_
            refine T.pure (.int .i64 r1) (by kernel_rfl) (fun _ => by kernel_rfl) ?_
            refine T.pure (.int .i64 (shr .i64 r1 8)) (by kernel_rfl) (fun _ => by kernel_rfl) ?_
            refine T.pure (.int .u8 (IntKind.u8.wrap (shr .i64 r1 8))) (by kernel_rfl) (fun _ => by kernel_rfl) ?_
            refine T.pure (.int .i64 r1) (by kernel_rfl) (fun _ => by kernel_rfl) ?_
            refine T.pure (.int .u8 (IntKind.u8.wrap r1)) (by kernel_rfl) (fun _ => by kernel_rfl) ?_
            refine T.step (W1.new 5 [.int .u8 (IntKind.u8.wrap (shr .i64 r1 8)), .int .u8 (IntKind.u8.wrap r1)] (fun b => .slice (some ⟨b, 0, none⟩) 2 2) (by kernel_rfl) (fun _ => by kernel_rfl) (fun b1 => ?_))
            refine T.look (.string (bytesOf [IntKind.u8.wrap (shr .i64 r1 8), IntKind.u8.wrap r1])) (by kernel_rfl) (fun w' hh => exec_bytes_str (e := 5) rfl rfl (by kernel_rfl) (by kernel_rfl) (by kernel_rfl) (slok_lit (E := (eK .u8)) (f := (fun x => [.int .u8 x])) [IntKind.u8.wrap (shr .i64 r1 8), IntKind.u8.wrap r1] (fun _ _ => rfl) (Nat.le_of_ble_eq_true (by rfl)) (fun j => hh.cellBox (i := 0) (by rfl) j))) ?_
            obtain ⟨s1, hb4, hX1⟩ := Option.bind_eq_some_iff.1 hX1
            refine T.look (.string s1) (by kernel_rfl) (fun w' hh => exec_scat rfl rfl rfl hb4) ?_
            obtain ⟨r4, hb5, hX1⟩ := Option.bind_eq_some_iff.1 hX1
            refine T.step (W1.call (vSc eInt) r4 21 #[.string s1] (by kernel_rfl) (fun _ => by kernel_rfl) (fun w' hh => sum_Of_l s1 r4 hb5 w' ) ?_)
            intro u V5 hV5 hu
            obtain rfl := sureInt _ _ _ hu
            refine T.pure (.bool (r4 == 0)) (by kernel_rfl) (fun _ => by kernel_rfl) ?_
            refine T.pure (.bool (r4 == 0)) (by kernel_rfl) (fun _ => by kernel_rfl) ?_
            refine T.pure (.bool (r4 == 0)) (by kernel_rfl) (fun _ => by kernel_rfl) ?_
            refine T.nil ?_
            cases hX1
            exact fun a w' hf hh => Exists.intro V5 (And.intro (View.le_trans (View.le_trans hV3 hV4) hV5) (And.intro ((Fr.nil hf).pick hf 2 rfl) (hh.sub (.cons _ List.Sublist.slnil))))
  ·
    rintro a w' ⟨V2, hV2, hf, hh⟩
    refine (?_ : T 33 w V2 [] [(2, .bool z1)] _) a w' hf hh
    clear hf hh
    cases hF
    refine T.ret rfl ?_
    exact T.ret1 rfl (ResIs.tmp rfl) fun w' hh => ⟨_, rfl, hh.below, (show _ from rfl)⟩

set_option maxRecDepth 100000 in
set_option maxHeartbeats 4000000 in
theorem annalkeep_FrameBack_l (p0 : DFrame) (p1 : ByteArray) (p2 : Int) (r : Bool) (hF : annalkeep_FrameBack p0 p1 p2 = some r) (w : World)  :
    Calls Try.prog 8 #[.agg #[.int .i64 p0.kind, .string p0.body], .string p1, .int .i64 p2] w (Post (vSc eBool) r w) := by
  unfold annalkeep_FrameBack at hF
  refine T.start (l := [.agg #[.int .i64 p0.kind, .string p0.body], .string p1, .int .i64 p2]) Try.func8 rfl rfl rfl ?_
  refine T.seq ?_
  refine T.region ?_
  refine T.step (W1.new 44 [.int .i64 p0.kind, .string p0.body] (fun b => .pointer (some ⟨b, 0, none⟩)) (by kernel_rfl) (fun _ => by kernel_rfl) (fun b1 => ?_))
  refine T.pure (.bool false) (by kernel_rfl) (fun _ => by kernel_rfl) ?_
  refine T.nil ?_
  refine T.seq ?_
  refine T.seq ?_
  refine T.region ?_
  refine T.pure (.agg #[.int .i64 3, .string (ByteArray.mk #[])]) (by kernel_rfl) (fun _ => by kernel_rfl) ?_
  obtain ⟨r1, hb1, hF⟩ := Option.bind_eq_some_iff.1 hF
  refine T.step (W1.call (vT2 (vSc eStr) (vSc eInt)) r1 28 #[.agg #[.int .i64 3, .string (ByteArray.mk #[])]] (by kernel_rfl) (fun _ => by kernel_rfl) (fun w' hh => frame_Put_l (DFrame.mk 3 (ByteArray.mk #[])) r1 hb1 w' ) ?_)
  intro u V1 hV1 hu
  obtain rfl := (Sure.t2 sureStr sureInt) _ _ _ hu
  refine T.pure (.tuple #[.string r1.1, .int .i64 r1.2]) (by kernel_rfl) (fun _ => by kernel_rfl) ?_
  refine T.pure (.string r1.1) (by kernel_rfl) (fun _ => by kernel_rfl) ?_
  refine T.pure (.int .i64 r1.2) (by kernel_rfl) (fun _ => by kernel_rfl) ?_
  refine T.pure (.string r1.1) (by kernel_rfl) (fun _ => by kernel_rfl) ?_
  refine T.pure (.int .i64 r1.2) (by kernel_rfl) (fun _ => by kernel_rfl) ?_
  refine T.nil ?_
  obtain ⟨z1, hX1, hF⟩ := Option.bind_eq_some_iff.1 hF
  refine T.cut (fun a w' => Fr 78 [(1, .string p1), (2, .int .i64 p2), (3, .pointer (some ⟨b1, 0, none⟩)), (32, .bool z1)] a ∧ Hp w V1 [box b1 44 [.int .i64 p0.kind, .string p0.body]] w') ?_ ?_
  ·
    refine T.region ?_
    refine T.pure (.int .i64 r1.2) (by kernel_rfl) (fun _ => by kernel_rfl) ?_
    refine T.pure (.bool (r1.2 != 0)) (by kernel_rfl) (fun _ => by kernel_rfl) ?_
    refine T.pure (.bool (r1.2 != 0)) (by kernel_rfl) (fun _ => by kernel_rfl) ?_
    cases hg1 : (r1.2 != 0)
    ·
      skip
      rw [hg1, cond_false] at hX1
      refine T.pure (.string r1.1) (by kernel_rfl) (fun _ => by kernel_rfl) ?_
      refine T.pure (.int .i64 (r1.1.size : Int)) (by kernel_rfl) (fun _ => by kernel_rfl) ?_
      refine T.pure (.bool ((r1.1.size : Int) != 5)) (by kernel_rfl) (fun _ => by kernel_rfl) ?_
      refine T.pure (.bool ((r1.1.size : Int) != 5)) (by kernel_rfl) (fun _ => by kernel_rfl) ?_
      refine T.pure (.bool ((r1.1.size : Int) != 5)) (by kernel_rfl) (fun _ => by kernel_rfl) ?_
      cases hg2 : ((r1.1.size : Int) != 5)
      ·
        skip
        rw [hg2, cond_false] at hX1
        refine T.pure (.string r1.1) (by kernel_rfl) (fun _ => by kernel_rfl) ?_
        obtain ⟨s1, hb2, hX1⟩ := Option.bind_eq_some_iff.1 hX1
        refine T.look (.string s1) (by kernel_rfl) (fun w' hh => exec_slice_str_hi rfl rfl rfl (by kernel_rfl) hb2) ?_
        refine T.pure (.bool (!(seq s1 (ByteArray.mk #[3, 0, 0])))) (by kernel_rfl) (fun _ => by kernel_rfl) ?_
        refine T.pure (.bool (!(seq s1 (ByteArray.mk #[3, 0, 0])))) (by kernel_rfl) (fun _ => by kernel_rfl) ?_
        refine T.nil ?_
        cases hX1
        exact fun a w' hf hh => And.intro (((((Fr.nil hf).pick hf 32 rfl).pick hf 3 rfl).pick hf 2 rfl).pick hf 1 rfl) (hh.sub (.cons_cons _ List.Sublist.slnil))
      ·
        skip
        rw [hg2, cond_true] at hX1
        refine T.pass (by kernel_rfl) (by kernel_rfl) ?_
        refine T.pass (by kernel_rfl) (by kernel_rfl) ?_
        refine T.pass (by kernel_rfl) (by kernel_rfl) ?_
        refine T.pure (.bool true) (by kernel_rfl) (fun _ => by kernel_rfl) ?_
        refine T.nil ?_
        cases hX1
        exact fun a w' hf hh => And.intro (((((Fr.nil hf).pick hf 32 rfl).pick hf 3 rfl).pick hf 2 rfl).pick hf 1 rfl) (hh.sub (.cons_cons _ List.Sublist.slnil))
    ·
      skip
      rw [hg1, cond_true] at hX1
      refine T.pass (by kernel_rfl) (by kernel_rfl) ?_
      refine T.pass (by kernel_rfl) (by kernel_rfl) ?_
      refine T.pass (by kernel_rfl) (by kernel_rfl) ?_
      refine T.pure (.bool true) (by kernel_rfl) (fun _ => by kernel_rfl) ?_
      refine T.pure (.bool true) (by kernel_rfl) (fun _ => by kernel_rfl) ?_
      refine T.pass (by kernel_rfl) (by kernel_rfl) ?_
      refine T.pass (by kernel_rfl) (by kernel_rfl) ?_
      refine T.pass (by kernel_rfl) (by kernel_rfl) ?_
      refine T.pure (.bool true) (by kernel_rfl) (fun _ => by kernel_rfl) ?_
      refine T.nil ?_
      cases hX1
      exact fun a w' hf hh => And.intro (((((Fr.nil hf).pick hf 32 rfl).pick hf 3 rfl).pick hf 2 rfl).pick hf 1 rfl) (hh.sub (.cons_cons _ List.Sublist.slnil))
  ·
    rintro a w' ⟨hf, hh⟩
    refine (?_ : T 78 w V1 [box b1 44 [.int .i64 p0.kind, .string p0.body]] [(1, .string p1), (2, .int .i64 p2), (3, .pointer (some ⟨b1, 0, none⟩)), (32, .bool z1)] _) a w' hf hh
    clear hf hh
    refine T.cond z1 (by kernel_rfl) (by kernel_rfl) (fun hc1 => ?_) (fun hc1 => ?_)
    ·
      rw [hc1, cond_true] at hF
      refine T.seq ?_
      refine T.region ?_
      refine T.pure (.bool false) (by kernel_rfl) (fun _ => by kernel_rfl) ?_
      refine T.nil ?_
      cases hF
      refine T.ret rfl ?_
      exact T.ret1 rfl (ResIs.tmp rfl) fun w' hh => ⟨_, rfl, hh.below, (show _ from rfl)⟩
    ·
      rw [hc1, cond_false] at hF
      refine T.skip_code ?_
      refine T.seq ?_
      refine T.region ?_
      refine T.look (.agg #[.int .i64 p0.kind, .string p0.body]) (by kernel_rfl) (fun w' hh => exec_loadN (cs := [.int .i64 p0.kind, .string p0.body]) rfl rfl (by kernel_rfl) (by kernel_rfl) (fun j u hj => (hh.box_at (i := 0) (cs := [.int .i64 p0.kind, .string p0.body]) (by rfl) 0 j).trans (seg_at (n := 2) rfl hj))) ?_
      obtain ⟨r2, hb3, hF⟩ := Option.bind_eq_some_iff.1 hF
      refine T.step (W1.call (vT2 (vSc eStr) (vSc eInt)) r2 28 #[.agg #[.int .i64 p0.kind, .string p0.body]] (by kernel_rfl) (fun _ => by kernel_rfl) (fun w' hh => frame_Put_l p0 r2 hb3 w' ) ?_)
      intro u V2 hV2 hu
      obtain rfl := (Sure.t2 sureStr sureInt) _ _ _ hu
      refine T.pure (.tuple #[.string r2.1, .int .i64 r2.2]) (by kernel_rfl) (fun _ => by kernel_rfl) ?_
      refine T.pure (.string r2.1) (by kernel_rfl) (fun _ => by kernel_rfl) ?_
      refine T.pure (.int .i64 r2.2) (by kernel_rfl) (fun _ => by kernel_rfl) ?_
      refine T.pure (.string r2.1) (by kernel_rfl) (fun _ => by kernel_rfl) ?_
      refine T.pure (.int .i64 r2.2) (by kernel_rfl) (fun _ => by kernel_rfl) ?_
      refine T.nil ?_
      refine T.seq ?_
      refine T.seq ?_
      refine T.region ?_
      refine T.pure (.int .i64 r2.2) (by kernel_rfl) (fun _ => by kernel_rfl) ?_
      refine T.pure (.bool (r2.2 != 0)) (by kernel_rfl) (fun _ => by kernel_rfl) ?_
      refine T.nil ?_
      refine T.cond (r2.2 != 0) (by kernel_rfl) (by kernel_rfl) (fun hc2 => ?_) (fun hc2 => ?_)
      ·
        rw [hc2, cond_true] at hF
        refine T.seq ?_
        refine T.region ?_
        refine T.pure (.string r2.1) (by kernel_rfl) (fun _ => by kernel_rfl) ?_
        refine T.pure (.bool (seq r2.1 (ByteArray.mk #[]))) (by kernel_rfl) (fun _ => by kernel_rfl) ?_
        refine T.pure (.bool (seq r2.1 (ByteArray.mk #[]))) (by kernel_rfl) (fun _ => by kernel_rfl) ?_
        refine T.nil ?_
        cases hF
        refine T.ret rfl ?_
        exact T.ret1 rfl (ResIs.tmp rfl) fun w' hh => ⟨_, rfl, hh.below, (show _ from rfl)⟩
      ·
        rw [hc2, cond_false] at hF
        refine T.skip_code ?_
        refine T.seq ?_
        refine T.region ?_
        refine T.pure (.string r2.1) (by kernel_rfl) (fun _ => by kernel_rfl) ?_
        refine T.pure (.string p1) (by kernel_rfl) (fun _ => by kernel_rfl) ?_
        obtain ⟨s2, hb4, hF⟩ := Option.bind_eq_some_iff.1 hF
        refine T.look (.string s2) (by kernel_rfl) (fun w' hh => exec_scat rfl rfl rfl hb4) ?_
        obtain ⟨r3, hb5, hF⟩ := Option.bind_eq_some_iff.1 hF
        refine T.step (W1.call (vT3 (vAg eFrame) (vSc eInt) (vSc eInt)) r3 29 #[.string s2] (by kernel_rfl) (fun _ => by kernel_rfl) (fun w' hh => frame_Get_l s2 r3 hb5 w' ) ?_)
        intro u V3 hV3 hu
        obtain rfl := (Sure.t3 sureFrame sureInt sureInt) _ _ _ hu
        refine T.pure (.tuple #[.agg #[.int .i64 r3.1.kind, .string r3.1.body], .int .i64 r3.2.1, .int .i64 r3.2.2]) (by kernel_rfl) (fun _ => by kernel_rfl) ?_
        refine T.pure (.agg #[.int .i64 r3.1.kind, .string r3.1.body]) (by kernel_rfl) (fun _ => by kernel_rfl) ?_
        refine T.pure (.int .i64 r3.2.1) (by kernel_rfl) (fun _ => by kernel_rfl) ?_
        refine T.pure (.int .i64 r3.2.2) (by kernel_rfl) (fun _ => by kernel_rfl) ?_
        refine T.step (W1.new 44 [.int .i64 0, .string (ByteArray.mk #[])] (fun b => .pointer (some ⟨b, 0, none⟩)) (by kernel_rfl) (fun _ => by kernel_rfl) (fun b2 => ?_))
        refine T.step (W1.store 0 [.int .i64 r3.1.kind, .string r3.1.body] [box b2 44 [.int .i64 r3.1.kind, .string r3.1.body], box b1 44 [.int .i64 p0.kind, .string p0.body]] (by rfl) rfl (by kernel_rfl) (fun w' hw => exec_store (vs := [.int .i64 r3.1.kind, .string r3.1.body]) rfl rfl rfl rfl (by kernel_rfl) (one_of rfl) (by simp) rfl hw) ?_)
        refine T.pure (.int .i64 r3.2.1) (by kernel_rfl) (fun _ => by kernel_rfl) ?_
        refine T.pure (.int .i64 r3.2.2) (by kernel_rfl) (fun _ => by kernel_rfl) ?_
        refine T.nil ?_
        refine T.seq ?_
        refine T.region ?_
        refine T.pure (.string r2.1) (by kernel_rfl) (fun _ => by kernel_rfl) ?_
        refine T.pure (.int .i64 p2) (by kernel_rfl) (fun _ => by kernel_rfl) ?_
        refine T.pure (.string r2.1) (by kernel_rfl) (fun _ => by kernel_rfl) ?_
        refine T.pure (.int .i64 (r2.1.size : Int)) (by kernel_rfl) (fun _ => by kernel_rfl) ?_
        obtain ⟨r4, hb6, hF⟩ := Option.bind_eq_some_iff.1 hF
        refine T.step (W1.call (vSc eInt) r4 22 #[.int .i64 p2, .int .i64 (r2.1.size : Int)] (by kernel_rfl) (fun _ => by kernel_rfl) (fun w' hh => annalkeep_Within_l p2 (r2.1.size : Int) r4 hb6 w' ) ?_)
        intro u V4 hV4 hu
        obtain rfl := sureInt _ _ _ hu
        obtain ⟨s3, hb7, hF⟩ := Option.bind_eq_some_iff.1 hF
        refine T.look (.string s3) (by kernel_rfl) (fun w' hh => exec_slice_str_hi rfl rfl rfl (by kernel_rfl) hb7) ?_
        obtain ⟨r5, hb8, hF⟩ := Option.bind_eq_some_iff.1 hF
        refine T.step (W1.call (vT3 (vAg eFrame) (vSc eInt) (vSc eInt)) r5 29 #[.string s3] (by kernel_rfl) (fun _ => by kernel_rfl) (fun w' hh => frame_Get_l s3 r5 hb8 w' ) ?_)
        intro u V5 hV5 hu
        obtain rfl := (Sure.t3 sureFrame sureInt sureInt) _ _ _ hu
        refine T.pure (.tuple #[.agg #[.int .i64 r5.1.kind, .string r5.1.body], .int .i64 r5.2.1, .int .i64 r5.2.2]) (by kernel_rfl) (fun _ => by kernel_rfl) ?_
        refine T.pure (.agg #[.int .i64 r5.1.kind, .string r5.1.body]) (by kernel_rfl) (fun _ => by kernel_rfl) ?_
        refine T.pure (.int .i64 r5.2.1) (by kernel_rfl) (fun _ => by kernel_rfl) ?_
        refine T.pure (.int .i64 r5.2.2) (by kernel_rfl) (fun _ => by kernel_rfl) ?_
        refine T.step (W1.new 44 [.int .i64 0, .string (ByteArray.mk #[])] (fun b => .pointer (some ⟨b, 0, none⟩)) (by kernel_rfl) (fun _ => by kernel_rfl) (fun b3 => ?_))
        refine T.step (W1.store 0 [.int .i64 r5.1.kind, .string r5.1.body] [box b3 44 [.int .i64 r5.1.kind, .string r5.1.body], box b2 44 [.int .i64 r3.1.kind, .string r3.1.body], box b1 44 [.int .i64 p0.kind, .string p0.body]] (by rfl) rfl (by kernel_rfl) (fun w' hw => exec_store (vs := [.int .i64 r5.1.kind, .string r5.1.body]) rfl rfl rfl rfl (by kernel_rfl) (one_of rfl) (by simp) rfl hw) ?_)
        refine T.pure (.int .i64 r5.2.1) (by kernel_rfl) (fun _ => by kernel_rfl) ?_
        refine T.pure (.int .i64 r5.2.2) (by kernel_rfl) (fun _ => by kernel_rfl) ?_
        refine T.nil ?_
        refine T.cut (fun a w' => Fr 78 [(6, .bool ((r3.2.2 == 0) && ((r3.1 == p0) && ((r3.2.1 == (r2.1.size : Int)) && (r5.2.2 == 7)))))] a ∧ Hp w V5 [] w') ?_ ?_
        ·
          refine T.region ?_
          refine T.pure (.int .i64 r3.2.2) (by kernel_rfl) (fun _ => by kernel_rfl) ?_
          refine T.pure (.bool (r3.2.2 == 0)) (by kernel_rfl) (fun _ => by kernel_rfl) ?_
          refine T.pure (.bool (r3.2.2 == 0)) (by kernel_rfl) (fun _ => by kernel_rfl) ?_
          cases hg3 : (r3.2.2 == 0)
          ·
            skip
            refine T.pass (by kernel_rfl) (by kernel_rfl) ?_
            refine T.pass (by kernel_rfl) (by kernel_rfl) ?_
            refine T.pass (by kernel_rfl) (by kernel_rfl) ?_
            refine T.pure (.bool false) (by kernel_rfl) (fun _ => by kernel_rfl) ?_
            refine T.pure (.bool false) (by kernel_rfl) (fun _ => by kernel_rfl) ?_
            refine T.pass (by kernel_rfl) (by kernel_rfl) ?_
            refine T.pass (by kernel_rfl) (by kernel_rfl) ?_
            refine T.pass (by kernel_rfl) (by kernel_rfl) ?_
            refine T.pass (by kernel_rfl) (by kernel_rfl) ?_
            refine T.pure (.bool false) (by kernel_rfl) (fun _ => by kernel_rfl) ?_
            refine T.pure (.bool false) (by kernel_rfl) (fun _ => by kernel_rfl) ?_
            refine T.pass (by kernel_rfl) (by kernel_rfl) ?_
            refine T.pass (by kernel_rfl) (by kernel_rfl) ?_
            refine T.pure (.bool false) (by kernel_rfl) (fun _ => by kernel_rfl) ?_
            refine T.pure (.bool false) (by kernel_rfl) (fun _ => by kernel_rfl) ?_
            refine T.nil ?_
            exact fun a w' hf hh => And.intro ((Fr.nil hf).pick hf 6 rfl) (hh.sub (.cons _ (.cons _ (.cons _ List.Sublist.slnil))))
          ·
            skip
            refine T.look (.agg #[.int .i64 r3.1.kind, .string r3.1.body]) (by kernel_rfl) (fun w' hh => exec_loadN (cs := [.int .i64 r3.1.kind, .string r3.1.body]) rfl rfl (by kernel_rfl) (by kernel_rfl) (fun j u hj => (hh.box_at (i := 1) (cs := [.int .i64 r3.1.kind, .string r3.1.body]) (by rfl) 0 j).trans (seg_at (n := 2) rfl hj))) ?_
            refine T.look (.agg #[.int .i64 p0.kind, .string p0.body]) (by kernel_rfl) (fun w' hh => exec_loadN (cs := [.int .i64 p0.kind, .string p0.body]) rfl rfl (by kernel_rfl) (by kernel_rfl) (fun j u hj => (hh.box_at (i := 2) (cs := [.int .i64 p0.kind, .string p0.body]) (by rfl) 0 j).trans (seg_at (n := 2) rfl hj))) ?_
            refine T.look (.bool (r3.1 == p0)) (by kernel_rfl) (fun w' hh => exec_eql_DFrame r3.1 p0 w' rfl rfl rfl) ?_
            refine T.pure (.bool (r3.1 == p0)) (by kernel_rfl) (fun _ => by kernel_rfl) ?_
            refine T.pure (.bool (r3.1 == p0)) (by kernel_rfl) (fun _ => by kernel_rfl) ?_
            cases hg4 : (r3.1 == p0)
            ·
              skip
              refine T.pass (by kernel_rfl) (by kernel_rfl) ?_
              refine T.pass (by kernel_rfl) (by kernel_rfl) ?_
              refine T.pass (by kernel_rfl) (by kernel_rfl) ?_
              refine T.pass (by kernel_rfl) (by kernel_rfl) ?_
              refine T.pure (.bool false) (by kernel_rfl) (fun _ => by kernel_rfl) ?_
              refine T.pure (.bool false) (by kernel_rfl) (fun _ => by kernel_rfl) ?_
              refine T.pass (by kernel_rfl) (by kernel_rfl) ?_
              refine T.pass (by kernel_rfl) (by kernel_rfl) ?_
              refine T.pure (.bool false) (by kernel_rfl) (fun _ => by kernel_rfl) ?_
              refine T.pure (.bool false) (by kernel_rfl) (fun _ => by kernel_rfl) ?_
              refine T.nil ?_
              exact fun a w' hf hh => And.intro ((Fr.nil hf).pick hf 6 rfl) (hh.sub (.cons _ (.cons _ (.cons _ List.Sublist.slnil))))
            ·
              skip
              refine T.pure (.int .i64 r3.2.1) (by kernel_rfl) (fun _ => by kernel_rfl) ?_
              refine T.pure (.string r2.1) (by kernel_rfl) (fun _ => by kernel_rfl) ?_
              refine T.pure (.int .i64 (r2.1.size : Int)) (by kernel_rfl) (fun _ => by kernel_rfl) ?_
              refine T.pure (.bool (r3.2.1 == (r2.1.size : Int))) (by kernel_rfl) (fun _ => by kernel_rfl) ?_
              refine T.pure (.bool (r3.2.1 == (r2.1.size : Int))) (by kernel_rfl) (fun _ => by kernel_rfl) ?_
              refine T.pure (.bool (r3.2.1 == (r2.1.size : Int))) (by kernel_rfl) (fun _ => by kernel_rfl) ?_
              cases hg5 : (r3.2.1 == (r2.1.size : Int))
              ·
                skip
                refine T.pass (by kernel_rfl) (by kernel_rfl) ?_
                refine T.pass (by kernel_rfl) (by kernel_rfl) ?_
                refine T.pure (.bool false) (by kernel_rfl) (fun _ => by kernel_rfl) ?_
                refine T.pure (.bool false) (by kernel_rfl) (fun _ => by kernel_rfl) ?_
                refine T.nil ?_
                exact fun a w' hf hh => And.intro ((Fr.nil hf).pick hf 6 rfl) (hh.sub (.cons _ (.cons _ (.cons _ List.Sublist.slnil))))
              ·
                skip
                refine T.pure (.int .i64 r5.2.2) (by kernel_rfl) (fun _ => by kernel_rfl) ?_
                refine T.pure (.bool (r5.2.2 == 7)) (by kernel_rfl) (fun _ => by kernel_rfl) ?_
                refine T.pure (.bool (r5.2.2 == 7)) (by kernel_rfl) (fun _ => by kernel_rfl) ?_
                refine T.pure (.bool (r5.2.2 == 7)) (by kernel_rfl) (fun _ => by kernel_rfl) ?_
                refine T.nil ?_
                exact fun a w' hf hh => And.intro ((Fr.nil hf).pick hf 6 rfl) (hh.sub (.cons _ (.cons _ (.cons _ List.Sublist.slnil))))
        ·
          rintro a w' ⟨hf, hh⟩
          refine (?_ : T 78 w V5 [] [(6, .bool ((r3.2.2 == 0) && ((r3.1 == p0) && ((r3.2.1 == (r2.1.size : Int)) && (r5.2.2 == 7)))))] _) a w' hf hh
          clear hf hh
          cases hF
          refine T.ret rfl ?_
          exact T.ret1 rfl (ResIs.tmp rfl) fun w' hh => ⟨_, rfl, hh.below, (show _ from rfl)⟩

set_option maxRecDepth 100000 in
set_option maxHeartbeats 4000000 in
theorem annalkeep_FrameBursts_l (p0 : DFrame) (p1 : Int) (p2 : Int) (r : Bool) (hF : annalkeep_FrameBursts p0 p1 p2 = some r) (w : World)  :
    Calls Try.prog 9 #[.agg #[.int .i64 p0.kind, .string p0.body], .int .i64 p1, .int .u16 p2] w (Post (vSc eBool) r w) := by
  unfold annalkeep_FrameBursts at hF
  refine T.start (l := [.agg #[.int .i64 p0.kind, .string p0.body], .int .i64 p1, .int .u16 p2]) Try.func9 rfl rfl rfl ?_
  refine T.seq ?_
  refine T.region ?_
  refine T.step (W1.new 44 [.int .i64 p0.kind, .string p0.body] (fun b => .pointer (some ⟨b, 0, none⟩)) (by kernel_rfl) (fun _ => by kernel_rfl) (fun b1 => ?_))
  refine T.pure (.bool false) (by kernel_rfl) (fun _ => by kernel_rfl) ?_
  refine T.nil ?_
  refine T.seq ?_
  refine T.seq ?_
  refine T.region ?_
  obtain ⟨r1, hb1, hF⟩ := Option.bind_eq_some_iff.1 hF
  refine T.step (W1.call (vT3 (vAg eFrame) (vSc eInt) (vSc eInt)) r1 29 #[.string (ByteArray.mk #[3, 0, 0, 0, 0])] (by kernel_rfl) (fun _ => by kernel_rfl) (fun w' hh => frame_Get_l (ByteArray.mk #[3, 0, 0, 0, 0]) r1 hb1 w' ) ?_)
  intro u V1 hV1 hu
  obtain rfl := (Sure.t3 sureFrame sureInt sureInt) _ _ _ hu
  refine T.pure (.tuple #[.agg #[.int .i64 r1.1.kind, .string r1.1.body], .int .i64 r1.2.1, .int .i64 r1.2.2]) (by kernel_rfl) (fun _ => by kernel_rfl) ?_
  refine T.pure (.agg #[.int .i64 r1.1.kind, .string r1.1.body]) (by kernel_rfl) (fun _ => by kernel_rfl) ?_
  refine T.pure (.int .i64 r1.2.1) (by kernel_rfl) (fun _ => by kernel_rfl) ?_
  refine T.pure (.int .i64 r1.2.2) (by kernel_rfl) (fun _ => by kernel_rfl) ?_
  refine T.step (W1.new 44 [.int .i64 0, .string (ByteArray.mk #[])] (fun b => .pointer (some ⟨b, 0, none⟩)) (by kernel_rfl) (fun _ => by kernel_rfl) (fun b2 => ?_))
  refine T.step (W1.store 0 [.int .i64 r1.1.kind, .string r1.1.body] [box b2 44 [.int .i64 r1.1.kind, .string r1.1.body], box b1 44 [.int .i64 p0.kind, .string p0.body]] (by rfl) rfl (by kernel_rfl) (fun w' hw => exec_store (vs := [.int .i64 r1.1.kind, .string r1.1.body]) rfl rfl rfl rfl (by kernel_rfl) (one_of rfl) (by simp) rfl hw) ?_)
  refine T.pure (.int .i64 r1.2.1) (by kernel_rfl) (fun _ => by kernel_rfl) ?_
  refine T.pure (.int .i64 r1.2.2) (by kernel_rfl) (fun _ => by kernel_rfl) ?_
  refine T.nil ?_
  refine T.seq ?_
  refine T.region ?_
  refine T.pure (.int .i64 r1.2.2) (by kernel_rfl) (fun _ => by kernel_rfl) ?_
  refine T.pure (.bool (r1.2.2 != 6)) (by kernel_rfl) (fun _ => by kernel_rfl) ?_
  refine T.nil ?_
  refine T.cond (r1.2.2 != 6) (by kernel_rfl) (by kernel_rfl) (fun hc1 => ?_) (fun hc1 => ?_)
  ·
    rw [hc1, cond_true] at hF
    refine T.seq ?_
    refine T.region ?_
    refine T.pure (.bool false) (by kernel_rfl) (fun _ => by kernel_rfl) ?_
    refine T.nil ?_
    cases hF
    refine T.ret rfl ?_
    exact T.ret1 rfl (ResIs.tmp rfl) fun w' hh => ⟨_, rfl, hh.below, (show _ from rfl)⟩
  ·
    rw [hc1, cond_false] at hF
    refine T.skip_code ?_
    refine T.seq ?_
    refine T.region ?_
    refine T.look (.agg #[.int .i64 p0.kind, .string p0.body]) (by kernel_rfl) (fun w' hh => exec_loadN (cs := [.int .i64 p0.kind, .string p0.body]) rfl rfl (by kernel_rfl) (by kernel_rfl) (fun j u hj => (hh.box_at (i := 1) (cs := [.int .i64 p0.kind, .string p0.body]) (by rfl) 0 j).trans (seg_at (n := 2) rfl hj))) ?_
    obtain ⟨r2, hb2, hF⟩ := Option.bind_eq_some_iff.1 hF
    refine T.step (W1.call (vT2 (vSc eStr) (vSc eInt)) r2 28 #[.agg #[.int .i64 p0.kind, .string p0.body]] (by kernel_rfl) (fun _ => by kernel_rfl) (fun w' hh => frame_Put_l p0 r2 hb2 w' ) ?_)
    intro u V2 hV2 hu
    obtain rfl := (Sure.t2 sureStr sureInt) _ _ _ hu
    refine T.pure (.tuple #[.string r2.1, .int .i64 r2.2]) (by kernel_rfl) (fun _ => by kernel_rfl) ?_
    refine T.pure (.string r2.1) (by kernel_rfl) (fun _ => by kernel_rfl) ?_
    refine T.pure (.int .i64 r2.2) (by kernel_rfl) (fun _ => by kernel_rfl) ?_
    refine T.pure (.string r2.1) (by kernel_rfl) (fun _ => by kernel_rfl) ?_
    refine T.pure (.int .i64 r2.2) (by kernel_rfl) (fun _ => by kernel_rfl) ?_
    refine T.nil ?_
    refine T.seq ?_
    refine T.cut (fun a w' => Fr 80 [(1, .int .i64 p1), (2, .int .u16 p2), (10, .string r2.1), (11, .int .i64 r2.2), (31, .bool ((r2.2 != 0) || (p2 == 0)))] a ∧ Hp w V2 [] w') ?_ ?_
    ·
      refine T.region ?_
      refine T.pure (.int .i64 r2.2) (by kernel_rfl) (fun _ => by kernel_rfl) ?_
      refine T.pure (.bool (r2.2 != 0)) (by kernel_rfl) (fun _ => by kernel_rfl) ?_
      refine T.pure (.bool (r2.2 != 0)) (by kernel_rfl) (fun _ => by kernel_rfl) ?_
      cases hg1 : (r2.2 != 0)
      ·
        skip
        refine T.pure (.int .u16 p2) (by kernel_rfl) (fun _ => by kernel_rfl) ?_
        refine T.pure (.bool (p2 == 0)) (by kernel_rfl) (fun _ => by kernel_rfl) ?_
        refine T.pure (.bool (p2 == 0)) (by kernel_rfl) (fun _ => by kernel_rfl) ?_
        refine T.nil ?_
        exact fun a w' hf hh => And.intro ((((((Fr.nil hf).pick hf 31 rfl).pick hf 11 rfl).pick hf 10 rfl).pick hf 2 rfl).pick hf 1 rfl) (hh.sub (.cons _ (.cons _ List.Sublist.slnil)))
      ·
        skip
        refine T.pass (by kernel_rfl) (by kernel_rfl) ?_
        refine T.pass (by kernel_rfl) (by kernel_rfl) ?_
        refine T.pure (.bool true) (by kernel_rfl) (fun _ => by kernel_rfl) ?_
        refine T.nil ?_
        exact fun a w' hf hh => And.intro ((((((Fr.nil hf).pick hf 31 rfl).pick hf 11 rfl).pick hf 10 rfl).pick hf 2 rfl).pick hf 1 rfl) (hh.sub (.cons _ (.cons _ List.Sublist.slnil)))
    ·
      rintro a w' ⟨hf, hh⟩
      refine (?_ : T 80 w V2 [] [(1, .int .i64 p1), (2, .int .u16 p2), (10, .string r2.1), (11, .int .i64 r2.2), (31, .bool ((r2.2 != 0) || (p2 == 0)))] _) a w' hf hh
      clear hf hh
      refine T.cond ((r2.2 != 0) || (p2 == 0)) (by kernel_rfl) (by kernel_rfl) (fun hc2 => ?_) (fun hc2 => ?_)
      ·
        rw [hc2, cond_true] at hF
        refine T.cut (fun a w' => Fr 80 [(6, .bool ((r2.2 == 0) || (seq r2.1 (ByteArray.mk #[]))))] a ∧ Hp w V2 [] w') ?_ ?_
        ·
          refine T.region ?_
          refine T.pure (.int .i64 r2.2) (by kernel_rfl) (fun _ => by kernel_rfl) ?_
          refine T.pure (.bool (r2.2 == 0)) (by kernel_rfl) (fun _ => by kernel_rfl) ?_
          refine T.pure (.bool (r2.2 == 0)) (by kernel_rfl) (fun _ => by kernel_rfl) ?_
          cases hg2 : (r2.2 == 0)
          ·
            skip
            refine T.pure (.string r2.1) (by kernel_rfl) (fun _ => by kernel_rfl) ?_
            refine T.pure (.bool (seq r2.1 (ByteArray.mk #[]))) (by kernel_rfl) (fun _ => by kernel_rfl) ?_
            refine T.pure (.bool (seq r2.1 (ByteArray.mk #[]))) (by kernel_rfl) (fun _ => by kernel_rfl) ?_
            refine T.pure (.bool (seq r2.1 (ByteArray.mk #[]))) (by kernel_rfl) (fun _ => by kernel_rfl) ?_
            refine T.nil ?_
            exact fun a w' hf hh => And.intro ((Fr.nil hf).pick hf 6 rfl) (hh.sub List.Sublist.slnil)
          ·
            skip
            refine T.pass (by kernel_rfl) (by kernel_rfl) ?_
            refine T.pass (by kernel_rfl) (by kernel_rfl) ?_
            refine T.pure (.bool true) (by kernel_rfl) (fun _ => by kernel_rfl) ?_
            refine T.pure (.bool true) (by kernel_rfl) (fun _ => by kernel_rfl) ?_
            refine T.nil ?_
            exact fun a w' hf hh => And.intro ((Fr.nil hf).pick hf 6 rfl) (hh.sub List.Sublist.slnil)
        ·
          rintro a w' ⟨hf, hh⟩
          refine (?_ : T 80 w V2 [] [(6, .bool ((r2.2 == 0) || (seq r2.1 (ByteArray.mk #[]))))] _) a w' hf hh
          clear hf hh
          cases hF
          refine T.ret rfl ?_
          exact T.ret1 rfl (ResIs.tmp rfl) fun w' hh => ⟨_, rfl, hh.below, (show _ from rfl)⟩
      ·
        rw [hc2, cond_false] at hF
        refine T.skip_code ?_
        refine T.seq ?_
        refine T.region ?_
        refine T.pure (.int .i64 p1) (by kernel_rfl) (fun _ => by kernel_rfl) ?_
        refine T.pure (.string r2.1) (by kernel_rfl) (fun _ => by kernel_rfl) ?_
        refine T.pure (.int .i64 (r2.1.size : Int)) (by kernel_rfl) (fun _ => by kernel_rfl) ?_
        refine T.pure (.int .i64 (IntKind.i64.wrap ((r2.1.size : Int) - 3))) (by kernel_rfl) (fun _ => by kernel_rfl) ?_
        refine T.pure (.int .i64 (IntKind.i64.wrap (8 * (IntKind.i64.wrap ((r2.1.size : Int) - 3))))) (by kernel_rfl) (fun _ => by kernel_rfl) ?_
        refine T.pure (.int .i64 (IntKind.i64.wrap ((IntKind.i64.wrap (8 * (IntKind.i64.wrap ((r2.1.size : Int) - 3)))) - 15))) (by kernel_rfl) (fun _ => by kernel_rfl) ?_
        obtain ⟨r3, hb3, hF⟩ := Option.bind_eq_some_iff.1 hF
        refine T.step (W1.call (vSc eInt) r3 22 #[.int .i64 p1, .int .i64 (IntKind.i64.wrap ((IntKind.i64.wrap (8 * (IntKind.i64.wrap ((r2.1.size : Int) - 3)))) - 15))] (by kernel_rfl) (fun _ => by kernel_rfl) (fun w' hh => annalkeep_Within_l p1 (IntKind.i64.wrap ((IntKind.i64.wrap (8 * (IntKind.i64.wrap ((r2.1.size : Int) - 3)))) - 15)) r3 hb3 w' ) ?_)
        intro u V3 hV3 hu
        obtain rfl := sureInt _ _ _ hu
        refine T.pure (.int .i64 (IntKind.i64.wrap (24 + r3))) (by kernel_rfl) (fun _ => by kernel_rfl) ?_
        refine T.pure (.int .i64 (IntKind.i64.wrap (24 + r3))) (by kernel_rfl) (fun _ => by kernel_rfl) ?_
        refine T.nil ?_
        refine T.seq ?_
        refine T.region ?_
        refine T.pure (.string r2.1) (by kernel_rfl) (fun _ => by kernel_rfl) ?_
        obtain ⟨u1, hb5, hF⟩ := Option.bind_eq_some_iff.1 hF
        refine T.step (W1.bytes (e := 5) r2.1 _ (by kernel_rfl) rfl rfl (by kernel_rfl) (by kernel_rfl) (by kernel_rfl) (fits_some hb5).1 (fun A1 c1 => ?_))
        refine T.pure (.slice A1 ((listOf r2.1).length) c1) (by kernel_rfl) (fun _ => by kernel_rfl) ?_
        refine T.nil ?_
        refine T.seq ?_
        refine T.seq ?_
        refine T.region ?_
        refine T.pure (.int .i64 0) (by kernel_rfl) (fun _ => by kernel_rfl) ?_
        refine T.nil ?_
        obtain ⟨z1, hz1, hF⟩ := Option.bind_eq_some_iff.1 hF
        refine T.mid (fun a w' => ∃ (A3 : Option Addr) (c3 : Nat), Fr 80 [(12, .slice A3 z1.length c3)] a ∧ Hp w V3 [rowf 5 (eK .u8) A3 c3 z1] w') ?_ ?_
        ·
          refine T.block ?_
          refine T.iter (fun s1 a w' => ∃ (x1 : List Int) (x2 : Int), s1 = (x1, x2) ∧ ∃ (A2 : Option Addr) (c2 : Nat), Fr 80 [(1, .int .i64 (IntKind.i64.wrap (24 + r3))), (2, .int .u16 p2), (12, .slice A2 x1.length c2), (48, .int .i64 x2)] a ∧ Hp w V3 [rowf 5 (eK .u8) A2 c2 x1] w') hz1 ?_ ?_
          ·
            exact fun a w' hf hh => Exists.intro (listOf r2.1) (Exists.intro 0 (And.intro rfl (Exists.intro A1 (Exists.intro c1 (And.intro (((((Fr.nil hf).pick hf 48 rfl).pick hf 12 rfl).pick hf 2 rfl).pick hf 1 rfl) (hh.sub (.cons_cons _ List.Sublist.slnil)))))))
          ·
            rintro s1 y1 hY1 hr1 a w' ⟨x1, x2, rfl, A2, c2, hf, hh⟩
            refine (?_ : T 80 w V3 [rowf 5 (eK .u8) A2 c2 x1] [(1, .int .i64 (IntKind.i64.wrap (24 + r3))), (2, .int .u16 p2), (12, .slice A2 x1.length c2), (48, .int .i64 x2)] _) a w' hf hh
            clear hf hh
            try dsimp only at hY1
            refine T.seq ?_
            refine T.region ?_
            refine T.pure (.bool (decide (x2 < 16))) (by kernel_rfl) (fun _ => by kernel_rfl) ?_
            refine T.nil ?_
            refine T.seq ?_
            refine T.cond (decide (x2 < 16)) (by kernel_rfl) (by kernel_rfl) (fun hc3 => ?_) (fun hc3 => ?_)
            ·
              rw [hc3, cond_true] at hY1
              refine T.skip_code ?_
              obtain ⟨z2, hX1, hY1⟩ := Option.bind_eq_some_iff.1 hY1
              refine T.cut (fun a w' => ∃ (A4 : Option Addr) (c4 : Nat), Fr 80 [(1, .int .i64 (IntKind.i64.wrap (24 + r3))), (2, .int .u16 p2), (12, .slice A4 z2.length c4), (48, .int .i64 x2)] a ∧ Hp w V3 [rowf 5 (eK .u8) A4 c4 z2] w') ?_ ?_
              ·
                refine T.block ?_
                refine T.seq ?_
                refine T.region ?_
                refine T.pure (.int .i64 x2) (by kernel_rfl) (fun _ => by kernel_rfl) ?_
                refine T.pure (.int .i64 x2) (by kernel_rfl) (fun _ => by kernel_rfl) ?_
                refine T.nil ?_
                refine T.seq ?_
                refine T.region ?_
                refine T.pure (.int .u16 p2) (by kernel_rfl) (fun _ => by kernel_rfl) ?_
                refine T.pure (.int .i64 x2) (by kernel_rfl) (fun _ => by kernel_rfl) ?_
                obtain ⟨n1, hb6, hX1⟩ := Option.bind_eq_some_iff.1 hX1
                refine T.look (.int .u16 (shr .u16 p2 n1)) (by kernel_rfl) (fun w' hh => exec_shr rfl rfl rfl hb6) ?_
                refine T.pure (.int .u16 (band .u16 (shr .u16 p2 n1) 1)) (by kernel_rfl) (fun _ => by kernel_rfl) ?_
                refine T.pure (.bool ((band .u16 (shr .u16 p2 n1) 1) == 1)) (by kernel_rfl) (fun _ => by kernel_rfl) ?_
                refine T.nil ?_
                refine T.cond ((band .u16 (shr .u16 p2 n1) 1) == 1) (by kernel_rfl) (by kernel_rfl) (fun hc4 => ?_) (fun hc4 => ?_)
                ·
                  rw [hc4, cond_true] at hX1
                  refine T.held [] (by kernel_rfl) ?_
                  refine TA.take 0 (.slice A2 x1.length c2) rfl (by kernel_rfl) (by kernel_rfl) (by kernel_rfl) (fun _ _ _ h => h) (Hp.old (View.le_refl _) (View.le_trans (View.le_trans hV1 hV2) hV3) (.cons _ List.Sublist.slnil) OldAll.nil) (by kernel_rfl) (fun _ _ => by kernel_rfl) ?_
                  refine TA.take 1 (.int .i64 (IntKind.i64.wrap (24 + r3))) rfl (by kernel_rfl) (by kernel_rfl) (by kernel_rfl) (fun _ _ _ h => h) (Hp.old (View.le_refl _) (View.le_trans (View.le_trans hV1 hV2) hV3) (.cons _ List.Sublist.slnil) OldAll.nil) (by kernel_rfl) (fun _ _ => by kernel_rfl) ?_
                  refine TA.take 2 (.int .i64 x2) rfl (by kernel_rfl) (by kernel_rfl) (by kernel_rfl) (fun _ _ _ h => h) (Hp.old (View.le_refl _) (View.le_trans (View.le_trans hV1 hV2) hV3) (.cons _ List.Sublist.slnil) OldAll.nil) (by kernel_rfl) (fun _ _ => by kernel_rfl) ?_
                  refine TA.take 3 (.int .i64 (IntKind.i64.wrap ((IntKind.i64.wrap (24 + r3)) + x2))) rfl (by kernel_rfl) (by kernel_rfl) (by kernel_rfl) (fun _ _ _ h => h) (Hp.old (View.le_refl _) (View.le_trans (View.le_trans hV1 hV2) hV3) (.cons _ List.Sublist.slnil) OldAll.nil) (by kernel_rfl) (fun _ _ => by kernel_rfl) ?_
                  refine TA.take 4 (.int .i64 (IntKind.i64.wrap ((IntKind.i64.wrap ((IntKind.i64.wrap (24 + r3)) + x2) : Int).tdiv 8))) rfl (by kernel_rfl) (by kernel_rfl) (by kernel_rfl) (fun _ _ _ h => h) (Hp.old (View.le_refl _) (View.le_trans (View.le_trans hV1 hV2) hV3) (.cons _ List.Sublist.slnil) OldAll.nil) (by kernel_rfl) (fun _ _ => by kernel_rfl) ?_
                  refine TA.take 7 (.int .i64 (IntKind.i64.wrap (24 + r3))) rfl (by kernel_rfl) (by kernel_rfl) (by kernel_rfl) (fun _ _ _ h => h) (Hp.old (View.le_refl _) (View.le_trans (View.le_trans hV1 hV2) hV3) (.cons _ List.Sublist.slnil) OldAll.nil) (by kernel_rfl) (fun _ _ => by kernel_rfl) ?_
                  refine TA.take 8 (.int .i64 x2) rfl (by kernel_rfl) (by kernel_rfl) (by kernel_rfl) (fun _ _ _ h => h) (Hp.old (View.le_refl _) (View.le_trans (View.le_trans hV1 hV2) hV3) (.cons _ List.Sublist.slnil) OldAll.nil) (by kernel_rfl) (fun _ _ => by kernel_rfl) ?_
                  refine TA.take 9 (.int .i64 (IntKind.i64.wrap ((IntKind.i64.wrap (24 + r3)) + x2))) rfl (by kernel_rfl) (by kernel_rfl) (by kernel_rfl) (fun _ _ _ h => h) (Hp.old (View.le_refl _) (View.le_trans (View.le_trans hV1 hV2) hV3) (.cons _ List.Sublist.slnil) OldAll.nil) (by kernel_rfl) (fun _ _ => by kernel_rfl) ?_
                  refine TA.take 10 (.int .i64 ((IntKind.i64.wrap ((IntKind.i64.wrap (24 + r3)) + x2) : Int).tmod 8)) rfl (by kernel_rfl) (by kernel_rfl) (by kernel_rfl) (fun _ _ _ h => h) (Hp.old (View.le_refl _) (View.le_trans (View.le_trans hV1 hV2) hV3) (.cons _ List.Sublist.slnil) OldAll.nil) (by kernel_rfl) (fun _ _ => by kernel_rfl) ?_
                  obtain ⟨n2, hb7, hX1⟩ := Option.bind_eq_some_iff.1 hX1
                  refine TA.take 11 (.int .u8 (shr .u8 128 n2)) rfl (by kernel_rfl) (by kernel_rfl) (by kernel_rfl) (fun _ _ _ h => h) (Hp.old (View.le_refl _) (View.le_trans (View.le_trans hV1 hV2) hV3) (.cons _ List.Sublist.slnil) OldAll.nil) (by kernel_rfl) (fun w' hh => exec_shr rfl rfl rfl hb7) ?_
                  refine TA.all [5] (by kernel_rfl) rfl ⟨?_, trivial⟩
                  obtain ⟨e1, hb8, hX1⟩ := Option.bind_eq_some_iff.1 hX1
                  obtain ⟨hi1, hi2, hi3⟩ := idx_some hb8
                  refine TA.br rfl (W1.look (.pointer (some ((sadr A2).add (((IntKind.i64.wrap ((IntKind.i64.wrap ((IntKind.i64.wrap (24 + r3)) + x2) : Int).tdiv 8)).toNat) * 1)))) (by kernel_rfl) (fun w' hh => exec_indexAddr (e := 5) (s := 1) rfl rfl rfl (by kernel_rfl) (by kernel_rfl) hi1 hi2 ((hh.row_slOk (i := 0) (by rfl)).some_ hi3 (by decide))) ?_)
                  refine TA.on (Hp.old (View.le_refl _) (View.le_trans (View.le_trans hV1 hV2) hV3) (.cons _ List.Sublist.slnil) OldAll.nil) ?_
                  refine TA.all [6] (by kernel_rfl) rfl ⟨?_, trivial⟩
                  refine TA.br rfl (W1.look (.int .u8 e1) (by kernel_rfl) (fun w' hh => exec_load1 rfl rfl (by kernel_rfl) (SlOk.wcellF0 (E := (eK .u8)) (hh.row_slOk (i := 0) (by rfl)) hi3 (fun _ _ _ h => h) rfl)) ?_)
                  refine TA.on (Hp.old (View.le_refl _) (View.le_trans (View.le_trans hV1 hV2) hV3) (.cons _ List.Sublist.slnil) OldAll.nil) ?_
                  refine TA.take 12 (.int .u8 (bxor .u8 e1 (shr .u8 128 n2))) rfl (by kernel_rfl) (by kernel_rfl) (by kernel_rfl) (fun _ _ _ h => h) (Hp.old (View.le_refl _) (View.le_trans (View.le_trans hV1 hV2) hV3) (.cons _ List.Sublist.slnil) OldAll.nil) (by kernel_rfl) (fun _ _ => by kernel_rfl) ?_
                  refine TA.all [13] (by kernel_rfl) rfl ⟨?_, trivial⟩
                  obtain ⟨e2, hb9, hX1⟩ := Option.bind_eq_some_iff.1 hX1
                  obtain ⟨hi4, hi5, hi6⟩ := idx_some hb9
                  refine TA.br rfl (W1.look (.pointer (some ((sadr A2).add (((IntKind.i64.wrap ((IntKind.i64.wrap ((IntKind.i64.wrap (24 + r3)) + x2) : Int).tdiv 8)).toNat) * 1)))) (by kernel_rfl) (fun w' hh => exec_indexAddr (e := 5) (s := 1) rfl rfl rfl (by kernel_rfl) (by kernel_rfl) hi4 hi5 ((hh.row_slOk (i := 0) (by rfl)).some_ hi6 (by decide))) ?_)
                  refine TA.on (Hp.old (View.le_refl _) (View.le_trans (View.le_trans hV1 hV2) hV3) (.cons _ List.Sublist.slnil) OldAll.nil) ?_
                  refine TA.all [14] (by kernel_rfl) rfl ⟨?_, trivial⟩
                  refine TA.br rfl (W1.storeRow (E := (eK .u8)) 0 ((IntKind.i64.wrap ((IntKind.i64.wrap ((IntKind.i64.wrap (24 + r3)) + x2) : Int).tdiv 8)).toNat) 0 e2 (bxor .u8 e1 (shr .u8 128 n2)) _ (vs := [.int .u8 (bxor .u8 e1 (shr .u8 128 n2))]) (by rfl) (by kernel_rfl) rfl rfl (addr_add0 _).symm rfl rfl (fun _ => by kernel_rfl) (one_of rfl) hi6 (Nat.le_of_ble_eq_true (by kernel_rfl)) (fun _ _ h => by cases h; rfl) ?_)
                  refine TA.on (Hp.old (View.le_refl _) (View.le_trans (View.le_trans hV1 hV2) hV3) (.cons _ List.Sublist.slnil) OldAll.nil) ?_
                  refine T.reslot 12 (.slice A2 ((x1.set ((IntKind.i64.wrap ((IntKind.i64.wrap ((IntKind.i64.wrap (24 + r3)) + x2) : Int).tdiv 8)).toNat) (bxor .u8 e1 (shr .u8 128 n2))).length) c2) rfl (by simp only [List.length_set]) ?_
                  refine T.reslot 56 (.slice A2 ((x1.set ((IntKind.i64.wrap ((IntKind.i64.wrap ((IntKind.i64.wrap (24 + r3)) + x2) : Int).tdiv 8)).toNat) (bxor .u8 e1 (shr .u8 128 n2))).length) c2) rfl (by simp only [List.length_set]) ?_
                  refine TA.done (by kernel_rfl) ?_
                  cases hX1
                  exact fun a w' hf hh => Exists.intro A2 (Exists.intro c2 (And.intro (((((Fr.nil hf).pick hf 48 rfl).pick hf 12 rfl).pick hf 2 rfl).pick hf 1 rfl) (hh.sub (.cons_cons _ List.Sublist.slnil))))
                ·
                  rw [hc4, cond_false] at hX1
                  refine T.skip_code ?_
                  cases hX1
                  exact fun a w' hf hh => Exists.intro A2 (Exists.intro c2 (And.intro (((((Fr.nil hf).pick hf 48 rfl).pick hf 12 rfl).pick hf 2 rfl).pick hf 1 rfl) (hh.sub (.cons_cons _ List.Sublist.slnil))))
              ·
                rintro a w' ⟨A4, c4, hf, hh⟩
                refine (?_ : T 80 w V3 [rowf 5 (eK .u8) A4 c4 z2] [(1, .int .i64 (IntKind.i64.wrap (24 + r3))), (2, .int .u16 p2), (12, .slice A4 z2.length c4), (48, .int .i64 x2)] _) a w' hf hh
                clear hf hh
                refine T.region ?_
                refine T.pure (.int .i64 (IntKind.i64.wrap (x2 + 1))) (by kernel_rfl) (fun _ => by kernel_rfl) ?_
                refine T.pure (.int .i64 (IntKind.i64.wrap (x2 + 1))) (by kernel_rfl) (fun _ => by kernel_rfl) ?_
                refine T.nil ?_
                cases hY1
                exact fun a w' hf hh => Exists.intro (z2, IntKind.i64.wrap (x2 + 1)) (And.intro rfl (Exists.intro z2 (Exists.intro (IntKind.i64.wrap (x2 + 1)) (And.intro rfl (Exists.intro A4 (Exists.intro c4 (And.intro (((((Fr.nil hf).pick hf 48 rfl).pick hf 12 rfl).pick hf 2 rfl).pick hf 1 rfl) (hh.sub (.cons_cons _ List.Sublist.slnil)))))))))
            ·
              rw [hc3, cond_false] at hY1
              refine T.exit ?_
              cases hY1
              cases (hr1 _ rfl)
              exact fun a w' hf hh => Exists.intro A2 (Exists.intro c2 (And.intro ((Fr.nil hf).pick hf 12 rfl) (hh.sub (.cons_cons _ List.Sublist.slnil))))
        ·
          rintro a w' ⟨A3, c3, hf, hh⟩
          refine (?_ : T 80 w V3 [rowf 5 (eK .u8) A3 c3 z1] [(12, .slice A3 z1.length c3)] _) a w' hf hh
          clear hf hh
          refine T.seq ?_
          refine T.region ?_
          refine T.pure (.slice A3 z1.length c3) (by kernel_rfl) (fun _ => by kernel_rfl) ?_
          refine T.look (.string (bytesOf z1)) (by kernel_rfl) (fun w' hh => exec_bytes_str (e := 5) rfl rfl (by kernel_rfl) (by kernel_rfl) (by kernel_rfl) (hh.row_slOk (i := 0) (by rfl))) ?_
          obtain ⟨r5, hb10, hF⟩ := Option.bind_eq_some_iff.1 hF
          refine T.step (W1.call (vT3 (vAg eFrame) (vSc eInt) (vSc eInt)) r5 29 #[.string (bytesOf z1)] (by kernel_rfl) (fun _ => by kernel_rfl) (fun w' hh => frame_Get_l (bytesOf z1) r5 hb10 w' ) ?_)
          intro u V4 hV4 hu
          obtain rfl := (Sure.t3 sureFrame sureInt sureInt) _ _ _ hu
          refine T.pure (.tuple #[.agg #[.int .i64 r5.1.kind, .string r5.1.body], .int .i64 r5.2.1, .int .i64 r5.2.2]) (by kernel_rfl) (fun _ => by kernel_rfl) ?_
          refine T.pure (.agg #[.int .i64 r5.1.kind, .string r5.1.body]) (by kernel_rfl) (fun _ => by kernel_rfl) ?_
          refine T.pure (.int .i64 r5.2.1) (by kernel_rfl) (fun _ => by kernel_rfl) ?_
          refine T.pure (.int .i64 r5.2.2) (by kernel_rfl) (fun _ => by kernel_rfl) ?_
          refine T.pure (.int .i64 r5.2.2) (by kernel_rfl) (fun _ => by kernel_rfl) ?_
          refine T.nil ?_
          refine T.seq ?_
          refine T.region ?_
          refine T.pure (.int .i64 r5.2.2) (by kernel_rfl) (fun _ => by kernel_rfl) ?_
          refine T.pure (.bool (r5.2.2 == 6)) (by kernel_rfl) (fun _ => by kernel_rfl) ?_
          refine T.pure (.bool (r5.2.2 == 6)) (by kernel_rfl) (fun _ => by kernel_rfl) ?_
          refine T.nil ?_
          cases hF
          refine T.ret rfl ?_
          exact T.ret1 rfl (ResIs.tmp rfl) fun w' hh => ⟨_, rfl, hh.below, (show _ from rfl)⟩

set_option maxRecDepth 100000 in
set_option maxHeartbeats 4000000 in
theorem annalkeep_FrameOne_l (p0 : ByteArray) (r : Bool) (hF : annalkeep_FrameOne p0 = some r) (w : World)  :
    Calls Try.prog 10 #[.string p0] w (Post (vSc eBool) r w) := by
  unfold annalkeep_FrameOne at hF
  refine T.start (l := [.string p0]) Try.func10 rfl rfl rfl ?_
  refine T.seq ?_
  refine T.region ?_
  refine T.pure (.bool false) (by kernel_rfl) (fun _ => by kernel_rfl) ?_
  refine T.nil ?_
  refine T.seq ?_
  refine T.seq ?_
  refine T.region ?_
  obtain ⟨r1, hb1, hF⟩ := Option.bind_eq_some_iff.1 hF
  refine T.step (W1.call (vT3 (vAg eFrame) (vSc eInt) (vSc eInt)) r1 29 #[.string (ByteArray.mk #[1, 0, 0, 16, 33])] (by kernel_rfl) (fun _ => by kernel_rfl) (fun w' hh => frame_Get_l (ByteArray.mk #[1, 0, 0, 16, 33]) r1 hb1 w' ) ?_)
  intro u V1 hV1 hu
  obtain rfl := (Sure.t3 sureFrame sureInt sureInt) _ _ _ hu
  refine T.pure (.tuple #[.agg #[.int .i64 r1.1.kind, .string r1.1.body], .int .i64 r1.2.1, .int .i64 r1.2.2]) (by kernel_rfl) (fun _ => by kernel_rfl) ?_
  refine T.pure (.agg #[.int .i64 r1.1.kind, .string r1.1.body]) (by kernel_rfl) (fun _ => by kernel_rfl) ?_
  refine T.pure (.int .i64 r1.2.1) (by kernel_rfl) (fun _ => by kernel_rfl) ?_
  refine T.pure (.int .i64 r1.2.2) (by kernel_rfl) (fun _ => by kernel_rfl) ?_
  refine T.step (W1.new 44 [.int .i64 0, .string (ByteArray.mk #[])] (fun b => .pointer (some ⟨b, 0, none⟩)) (by kernel_rfl) (fun _ => by kernel_rfl) (fun b1 => ?_))
  refine T.step (W1.store 0 [.int .i64 r1.1.kind, .string r1.1.body] [box b1 44 [.int .i64 r1.1.kind, .string r1.1.body]] (by rfl) rfl (by kernel_rfl) (fun w' hw => exec_store (vs := [.int .i64 r1.1.kind, .string r1.1.body]) rfl rfl rfl rfl (by kernel_rfl) (one_of rfl) (by simp) rfl hw) ?_)
  refine T.pure (.int .i64 r1.2.1) (by kernel_rfl) (fun _ => by kernel_rfl) ?_
  refine T.pure (.int .i64 r1.2.2) (by kernel_rfl) (fun _ => by kernel_rfl) ?_
  refine T.nil ?_
  refine T.cut (fun a w' => Fr 61 [(0, .string p0), (25, .bool ((r1.2.1 != 0) || ((r1.2.2 != 6) || (!(r1.1 == (DFrame.mk 0 (ByteArray.mk #[])))))))] a ∧ Hp w V1 [] w') ?_ ?_
  ·
    refine T.region ?_
    refine T.pure (.int .i64 r1.2.1) (by kernel_rfl) (fun _ => by kernel_rfl) ?_
    refine T.pure (.bool (r1.2.1 != 0)) (by kernel_rfl) (fun _ => by kernel_rfl) ?_
    refine T.pure (.bool (r1.2.1 != 0)) (by kernel_rfl) (fun _ => by kernel_rfl) ?_
    cases hg1 : (r1.2.1 != 0)
    ·
      skip
      refine T.pure (.int .i64 r1.2.2) (by kernel_rfl) (fun _ => by kernel_rfl) ?_
      refine T.pure (.bool (r1.2.2 != 6)) (by kernel_rfl) (fun _ => by kernel_rfl) ?_
      refine T.pure (.bool (r1.2.2 != 6)) (by kernel_rfl) (fun _ => by kernel_rfl) ?_
      refine T.pure (.bool (r1.2.2 != 6)) (by kernel_rfl) (fun _ => by kernel_rfl) ?_
      cases hg2 : (r1.2.2 != 6)
      ·
        skip
        refine T.look (.agg #[.int .i64 r1.1.kind, .string r1.1.body]) (by kernel_rfl) (fun w' hh => exec_loadN (cs := [.int .i64 r1.1.kind, .string r1.1.body]) rfl rfl (by kernel_rfl) (by kernel_rfl) (fun j u hj => (hh.box_at (i := 0) (cs := [.int .i64 r1.1.kind, .string r1.1.body]) (by rfl) 0 j).trans (seg_at (n := 2) rfl hj))) ?_
        refine T.pure (.agg #[.int .i64 0, .string (ByteArray.mk #[])]) (by kernel_rfl) (fun _ => by kernel_rfl) ?_
        refine T.look (.bool (!(r1.1 == (DFrame.mk 0 (ByteArray.mk #[]))))) (by kernel_rfl) (fun w' hh => exec_neq_DFrame r1.1 (DFrame.mk 0 (ByteArray.mk #[])) w' rfl rfl rfl) ?_
        refine T.pure (.bool (!(r1.1 == (DFrame.mk 0 (ByteArray.mk #[]))))) (by kernel_rfl) (fun _ => by kernel_rfl) ?_
        refine T.nil ?_
        exact fun a w' hf hh => And.intro (((Fr.nil hf).pick hf 25 rfl).pick hf 0 rfl) (hh.sub (.cons _ List.Sublist.slnil))
      ·
        skip
        refine T.pass (by kernel_rfl) (by kernel_rfl) ?_
        refine T.pass (by kernel_rfl) (by kernel_rfl) ?_
        refine T.pass (by kernel_rfl) (by kernel_rfl) ?_
        refine T.pure (.bool true) (by kernel_rfl) (fun _ => by kernel_rfl) ?_
        refine T.nil ?_
        exact fun a w' hf hh => And.intro (((Fr.nil hf).pick hf 25 rfl).pick hf 0 rfl) (hh.sub (.cons _ List.Sublist.slnil))
    ·
      skip
      refine T.pass (by kernel_rfl) (by kernel_rfl) ?_
      refine T.pass (by kernel_rfl) (by kernel_rfl) ?_
      refine T.pure (.bool true) (by kernel_rfl) (fun _ => by kernel_rfl) ?_
      refine T.pure (.bool true) (by kernel_rfl) (fun _ => by kernel_rfl) ?_
      refine T.pass (by kernel_rfl) (by kernel_rfl) ?_
      refine T.pass (by kernel_rfl) (by kernel_rfl) ?_
      refine T.pass (by kernel_rfl) (by kernel_rfl) ?_
      refine T.pure (.bool true) (by kernel_rfl) (fun _ => by kernel_rfl) ?_
      refine T.nil ?_
      exact fun a w' hf hh => And.intro (((Fr.nil hf).pick hf 25 rfl).pick hf 0 rfl) (hh.sub (.cons _ List.Sublist.slnil))
  ·
    rintro a w' ⟨hf, hh⟩
    refine (?_ : T 61 w V1 [] [(0, .string p0), (25, .bool ((r1.2.1 != 0) || ((r1.2.2 != 6) || (!(r1.1 == (DFrame.mk 0 (ByteArray.mk #[])))))))] _) a w' hf hh
    clear hf hh
    refine T.cond ((r1.2.1 != 0) || ((r1.2.2 != 6) || (!(r1.1 == (DFrame.mk 0 (ByteArray.mk #[])))))) (by kernel_rfl) (by kernel_rfl) (fun hc1 => ?_) (fun hc1 => ?_)
    ·
      rw [hc1, cond_true] at hF
      refine T.seq ?_
      refine T.region ?_
      refine T.pure (.bool false) (by kernel_rfl) (fun _ => by kernel_rfl) ?_
      refine T.nil ?_
      cases hF
      refine T.ret rfl ?_
      exact T.ret1 rfl (ResIs.tmp rfl) fun w' hh => ⟨_, rfl, hh.below, (show _ from rfl)⟩
    ·
      rw [hc1, cond_false] at hF
      refine T.skip_code ?_
      refine T.seq ?_
      refine T.region ?_
      refine T.pure (.string p0) (by kernel_rfl) (fun _ => by kernel_rfl) ?_
      obtain ⟨r2, hb2, hF⟩ := Option.bind_eq_some_iff.1 hF
      refine T.step (W1.call (vT3 (vAg eFrame) (vSc eInt) (vSc eInt)) r2 29 #[.string p0] (by kernel_rfl) (fun _ => by kernel_rfl) (fun w' hh => frame_Get_l p0 r2 hb2 w' ) ?_)
      intro u V2 hV2 hu
      obtain rfl := (Sure.t3 sureFrame sureInt sureInt) _ _ _ hu
      refine T.pure (.tuple #[.agg #[.int .i64 r2.1.kind, .string r2.1.body], .int .i64 r2.2.1, .int .i64 r2.2.2]) (by kernel_rfl) (fun _ => by kernel_rfl) ?_
      refine T.pure (.agg #[.int .i64 r2.1.kind, .string r2.1.body]) (by kernel_rfl) (fun _ => by kernel_rfl) ?_
      refine T.pure (.int .i64 r2.2.1) (by kernel_rfl) (fun _ => by kernel_rfl) ?_
      refine T.pure (.int .i64 r2.2.2) (by kernel_rfl) (fun _ => by kernel_rfl) ?_
      refine T.step (W1.new 44 [.int .i64 0, .string (ByteArray.mk #[])] (fun b => .pointer (some ⟨b, 0, none⟩)) (by kernel_rfl) (fun _ => by kernel_rfl) (fun b2 => ?_))
      refine T.step (W1.store 0 [.int .i64 r2.1.kind, .string r2.1.body] [box b2 44 [.int .i64 r2.1.kind, .string r2.1.body]] (by rfl) rfl (by kernel_rfl) (fun w' hw => exec_store (vs := [.int .i64 r2.1.kind, .string r2.1.body]) rfl rfl rfl rfl (by kernel_rfl) (one_of rfl) (by simp) rfl hw) ?_)
      refine T.pure (.int .i64 r2.2.1) (by kernel_rfl) (fun _ => by kernel_rfl) ?_
      refine T.pure (.int .i64 r2.2.2) (by kernel_rfl) (fun _ => by kernel_rfl) ?_
      refine T.nil ?_
      refine T.seq ?_
      refine T.seq ?_
      refine T.region ?_
      refine T.pure (.int .i64 r2.2.2) (by kernel_rfl) (fun _ => by kernel_rfl) ?_
      refine T.pure (.bool (r2.2.2 != 0)) (by kernel_rfl) (fun _ => by kernel_rfl) ?_
      refine T.nil ?_
      refine T.cond (r2.2.2 != 0) (by kernel_rfl) (by kernel_rfl) (fun hc2 => ?_) (fun hc2 => ?_)
      ·
        rw [hc2, cond_true] at hF
        refine T.cut (fun a w' => Fr 61 [(2, .bool ((r2.2.1 == 0) && (r2.1 == (DFrame.mk 0 (ByteArray.mk #[])))))] a ∧ Hp w V2 [] w') ?_ ?_
        ·
          refine T.region ?_
          refine T.pure (.int .i64 r2.2.1) (by kernel_rfl) (fun _ => by kernel_rfl) ?_
          refine T.pure (.bool (r2.2.1 == 0)) (by kernel_rfl) (fun _ => by kernel_rfl) ?_
          refine T.pure (.bool (r2.2.1 == 0)) (by kernel_rfl) (fun _ => by kernel_rfl) ?_
          cases hg3 : (r2.2.1 == 0)
          ·
            skip
            refine T.pass (by kernel_rfl) (by kernel_rfl) ?_
            refine T.pass (by kernel_rfl) (by kernel_rfl) ?_
            refine T.pass (by kernel_rfl) (by kernel_rfl) ?_
            refine T.pure (.bool false) (by kernel_rfl) (fun _ => by kernel_rfl) ?_
            refine T.pure (.bool false) (by kernel_rfl) (fun _ => by kernel_rfl) ?_
            refine T.nil ?_
            exact fun a w' hf hh => And.intro ((Fr.nil hf).pick hf 2 rfl) (hh.sub (.cons _ List.Sublist.slnil))
          ·
            skip
            refine T.look (.agg #[.int .i64 r2.1.kind, .string r2.1.body]) (by kernel_rfl) (fun w' hh => exec_loadN (cs := [.int .i64 r2.1.kind, .string r2.1.body]) rfl rfl (by kernel_rfl) (by kernel_rfl) (fun j u hj => (hh.box_at (i := 0) (cs := [.int .i64 r2.1.kind, .string r2.1.body]) (by rfl) 0 j).trans (seg_at (n := 2) rfl hj))) ?_
            refine T.pure (.agg #[.int .i64 0, .string (ByteArray.mk #[])]) (by kernel_rfl) (fun _ => by kernel_rfl) ?_
            refine T.look (.bool (r2.1 == (DFrame.mk 0 (ByteArray.mk #[])))) (by kernel_rfl) (fun w' hh => exec_eql_DFrame r2.1 (DFrame.mk 0 (ByteArray.mk #[])) w' rfl rfl rfl) ?_
            refine T.pure (.bool (r2.1 == (DFrame.mk 0 (ByteArray.mk #[])))) (by kernel_rfl) (fun _ => by kernel_rfl) ?_
            refine T.pure (.bool (r2.1 == (DFrame.mk 0 (ByteArray.mk #[])))) (by kernel_rfl) (fun _ => by kernel_rfl) ?_
            refine T.nil ?_
            exact fun a w' hf hh => And.intro ((Fr.nil hf).pick hf 2 rfl) (hh.sub (.cons _ List.Sublist.slnil))
        ·
          rintro a w' ⟨hf, hh⟩
          refine (?_ : T 61 w V2 [] [(2, .bool ((r2.2.1 == 0) && (r2.1 == (DFrame.mk 0 (ByteArray.mk #[])))))] _) a w' hf hh
          clear hf hh
          cases hF
          refine T.ret rfl ?_
          exact T.ret1 rfl (ResIs.tmp rfl) fun w' hh => ⟨_, rfl, hh.below, (show _ from rfl)⟩
      ·
        rw [hc2, cond_false] at hF
        refine T.skip_code ?_
        refine T.seq ?_
        refine T.region ?_
        refine T.look (.agg #[.int .i64 r2.1.kind, .string r2.1.body]) (by kernel_rfl) (fun w' hh => exec_loadN (cs := [.int .i64 r2.1.kind, .string r2.1.body]) rfl rfl (by kernel_rfl) (by kernel_rfl) (fun j u hj => (hh.box_at (i := 0) (cs := [.int .i64 r2.1.kind, .string r2.1.body]) (by rfl) 0 j).trans (seg_at (n := 2) rfl hj))) ?_
        obtain ⟨r3, hb3, hF⟩ := Option.bind_eq_some_iff.1 hF
        refine T.step (W1.call (vT2 (vSc eStr) (vSc eInt)) r3 28 #[.agg #[.int .i64 r2.1.kind, .string r2.1.body]] (by kernel_rfl) (fun _ => by kernel_rfl) (fun w' hh => frame_Put_l r2.1 r3 hb3 w' ) ?_)
        intro u V3 hV3 hu
        obtain rfl := (Sure.t2 sureStr sureInt) _ _ _ hu
        refine T.pure (.tuple #[.string r3.1, .int .i64 r3.2]) (by kernel_rfl) (fun _ => by kernel_rfl) ?_
        refine T.pure (.string r3.1) (by kernel_rfl) (fun _ => by kernel_rfl) ?_
        refine T.pure (.int .i64 r3.2) (by kernel_rfl) (fun _ => by kernel_rfl) ?_
        refine T.pure (.string r3.1) (by kernel_rfl) (fun _ => by kernel_rfl) ?_
        refine T.pure (.int .i64 r3.2) (by kernel_rfl) (fun _ => by kernel_rfl) ?_
        refine T.nil ?_
        obtain ⟨z1, hX1, hF⟩ := Option.bind_eq_some_iff.1 hF
        refine T.cut (fun a w' => Fr 61 [(2, .bool z1)] a ∧ Hp w V3 [] w') ?_ ?_
        ·
          refine T.region ?_
          refine T.pure (.int .i64 r3.2) (by kernel_rfl) (fun _ => by kernel_rfl) ?_
          refine T.pure (.bool (r3.2 == 0)) (by kernel_rfl) (fun _ => by kernel_rfl) ?_
          refine T.pure (.bool (r3.2 == 0)) (by kernel_rfl) (fun _ => by kernel_rfl) ?_
          cases hg4 : (r3.2 == 0)
          ·
            skip
            rw [hg4, cond_false] at hX1
            refine T.pass (by kernel_rfl) (by kernel_rfl) ?_
            refine T.pass (by kernel_rfl) (by kernel_rfl) ?_
            refine T.pass (by kernel_rfl) (by kernel_rfl) ?_
            refine T.pass (by kernel_rfl) (by kernel_rfl) ?_
            refine T.pure (.bool false) (by kernel_rfl) (fun _ => by kernel_rfl) ?_
            refine T.pure (.bool false) (by kernel_rfl) (fun _ => by kernel_rfl) ?_
            refine T.pass (by kernel_rfl) (by kernel_rfl) ?_
            refine T.pass (by kernel_rfl) (by kernel_rfl) ?_
            refine T.pass (by kernel_rfl) (by kernel_rfl) ?_
            refine T.pass (by kernel_rfl) (by kernel_rfl) ?_
            refine T.pass (by kernel_rfl) (by kernel_rfl) ?_
            refine T.pure (.bool false) (by kernel_rfl) (fun _ => by kernel_rfl) ?_
            refine T.pure (.bool false) (by kernel_rfl) (fun _ => by kernel_rfl) ?_
            refine T.nil ?_
            cases hX1
            exact fun a w' hf hh => And.intro ((Fr.nil hf).pick hf 2 rfl) (hh.sub (.cons _ List.Sublist.slnil))
          ·
            skip
            rw [hg4, cond_true] at hX1
            refine T.pure (.int .i64 r2.2.1) (by kernel_rfl) (fun _ => by kernel_rfl) ?_
            refine T.pure (.string p0) (by kernel_rfl) (fun _ => by kernel_rfl) ?_
            refine T.pure (.int .i64 (p0.size : Int)) (by kernel_rfl) (fun _ => by kernel_rfl) ?_
            refine T.pure (.bool (decide (r2.2.1 ≤ (p0.size : Int)))) (by kernel_rfl) (fun _ => by kernel_rfl) ?_
            refine T.pure (.bool (decide (r2.2.1 ≤ (p0.size : Int)))) (by kernel_rfl) (fun _ => by kernel_rfl) ?_
            refine T.pure (.bool (decide (r2.2.1 ≤ (p0.size : Int)))) (by kernel_rfl) (fun _ => by kernel_rfl) ?_
            cases hg5 : decide (r2.2.1 ≤ (p0.size : Int))
            ·
              skip
              rw [hg5, cond_false] at hX1
              refine T.pass (by kernel_rfl) (by kernel_rfl) ?_
              refine T.pass (by kernel_rfl) (by kernel_rfl) ?_
              refine T.pass (by kernel_rfl) (by kernel_rfl) ?_
              refine T.pass (by kernel_rfl) (by kernel_rfl) ?_
              refine T.pass (by kernel_rfl) (by kernel_rfl) ?_
              refine T.pure (.bool false) (by kernel_rfl) (fun _ => by kernel_rfl) ?_
              refine T.pure (.bool false) (by kernel_rfl) (fun _ => by kernel_rfl) ?_
              refine T.nil ?_
              cases hX1
              exact fun a w' hf hh => And.intro ((Fr.nil hf).pick hf 2 rfl) (hh.sub (.cons _ List.Sublist.slnil))
            ·
              skip
              rw [hg5, cond_true] at hX1
              refine T.pure (.string r3.1) (by kernel_rfl) (fun _ => by kernel_rfl) ?_
              refine T.pure (.string p0) (by kernel_rfl) (fun _ => by kernel_rfl) ?_
              refine T.pure (.int .i64 r2.2.1) (by kernel_rfl) (fun _ => by kernel_rfl) ?_
              obtain ⟨s1, hb4, hX1⟩ := Option.bind_eq_some_iff.1 hX1
              refine T.look (.string s1) (by kernel_rfl) (fun w' hh => exec_slice_str_hi rfl rfl rfl (by kernel_rfl) hb4) ?_
              refine T.pure (.bool (seq r3.1 s1)) (by kernel_rfl) (fun _ => by kernel_rfl) ?_
              refine T.pure (.bool (seq r3.1 s1)) (by kernel_rfl) (fun _ => by kernel_rfl) ?_
              refine T.pure (.bool (seq r3.1 s1)) (by kernel_rfl) (fun _ => by kernel_rfl) ?_
              refine T.nil ?_
              cases hX1
              exact fun a w' hf hh => And.intro ((Fr.nil hf).pick hf 2 rfl) (hh.sub (.cons _ List.Sublist.slnil))
        ·
          rintro a w' ⟨hf, hh⟩
          refine (?_ : T 61 w V3 [] [(2, .bool z1)] _) a w' hf hh
          clear hf hh
          cases hF
          refine T.ret rfl ?_
          exact T.ret1 rfl (ResIs.tmp rfl) fun w' hh => ⟨_, rfl, hh.below, (show _ from rfl)⟩

set_option maxRecDepth 100000 in
set_option maxHeartbeats 4000000 in
theorem annalkeep_FrameRow_l (p0 : DFrame) (p1 : DFrame) (p2 : ByteArray) (r : Bool) (hF : annalkeep_FrameRow p0 p1 p2 = some r) (w : World)  :
    Calls Try.prog 11 #[.agg #[.int .i64 p0.kind, .string p0.body], .agg #[.int .i64 p1.kind, .string p1.body], .string p2] w (Post (vSc eBool) r w) := by
  unfold annalkeep_FrameRow at hF
  refine T.start (l := [.agg #[.int .i64 p0.kind, .string p0.body], .agg #[.int .i64 p1.kind, .string p1.body], .string p2]) Try.func11 rfl rfl rfl ?_
  refine T.seq ?_
  refine T.region ?_
  refine T.step (W1.new 44 [.int .i64 p0.kind, .string p0.body] (fun b => .pointer (some ⟨b, 0, none⟩)) (by kernel_rfl) (fun _ => by kernel_rfl) (fun b1 => ?_))
  refine T.step (W1.new 44 [.int .i64 p1.kind, .string p1.body] (fun b => .pointer (some ⟨b, 0, none⟩)) (by kernel_rfl) (fun _ => by kernel_rfl) (fun b2 => ?_))
  refine T.pure (.bool false) (by kernel_rfl) (fun _ => by kernel_rfl) ?_
  refine T.nil ?_
  refine T.seq ?_
  refine T.seq ?_
  refine T.region ?_
  refine T.pure (.agg #[.int .i64 1, .string (ByteArray.mk #[120])]) (by kernel_rfl) (fun _ => by kernel_rfl) ?_
  obtain ⟨r1, hb1, hF⟩ := Option.bind_eq_some_iff.1 hF
  refine T.step (W1.call (vT2 (vSc eStr) (vSc eInt)) r1 28 #[.agg #[.int .i64 1, .string (ByteArray.mk #[120])]] (by kernel_rfl) (fun _ => by kernel_rfl) (fun w' hh => frame_Put_l (DFrame.mk 1 (ByteArray.mk #[120])) r1 hb1 w' ) ?_)
  intro u V1 hV1 hu
  obtain rfl := (Sure.t2 sureStr sureInt) _ _ _ hu
  refine T.pure (.tuple #[.string r1.1, .int .i64 r1.2]) (by kernel_rfl) (fun _ => by kernel_rfl) ?_
  refine T.pure (.string r1.1) (by kernel_rfl) (fun _ => by kernel_rfl) ?_
  refine T.pure (.int .i64 r1.2) (by kernel_rfl) (fun _ => by kernel_rfl) ?_
  refine T.pure (.string r1.1) (by kernel_rfl) (fun _ => by kernel_rfl) ?_
  refine T.pure (.int .i64 r1.2) (by kernel_rfl) (fun _ => by kernel_rfl) ?_
  refine T.nil ?_
  refine T.cut (fun a w' => Fr 99 [(2, .string p2), (3, .pointer (some ⟨b1, 0, none⟩)), (4, .pointer (some ⟨b2, 0, none⟩)), (28, .bool ((r1.2 != 0) || ((r1.1.size : Int) != 6)))] a ∧ Hp w V1 [box b2 44 [.int .i64 p1.kind, .string p1.body], box b1 44 [.int .i64 p0.kind, .string p0.body]] w') ?_ ?_
  ·
    refine T.region ?_
    refine T.pure (.int .i64 r1.2) (by kernel_rfl) (fun _ => by kernel_rfl) ?_
    refine T.pure (.bool (r1.2 != 0)) (by kernel_rfl) (fun _ => by kernel_rfl) ?_
    refine T.pure (.bool (r1.2 != 0)) (by kernel_rfl) (fun _ => by kernel_rfl) ?_
    cases hg1 : (r1.2 != 0)
    ·
      skip
      refine T.pure (.string r1.1) (by kernel_rfl) (fun _ => by kernel_rfl) ?_
      refine T.pure (.int .i64 (r1.1.size : Int)) (by kernel_rfl) (fun _ => by kernel_rfl) ?_
      refine T.pure (.bool ((r1.1.size : Int) != 6)) (by kernel_rfl) (fun _ => by kernel_rfl) ?_
      refine T.pure (.bool ((r1.1.size : Int) != 6)) (by kernel_rfl) (fun _ => by kernel_rfl) ?_
      refine T.nil ?_
      exact fun a w' hf hh => And.intro (((((Fr.nil hf).pick hf 28 rfl).pick hf 4 rfl).pick hf 3 rfl).pick hf 2 rfl) (hh.sub (.cons_cons _ (.cons_cons _ List.Sublist.slnil)))
    ·
      skip
      refine T.pass (by kernel_rfl) (by kernel_rfl) ?_
      refine T.pass (by kernel_rfl) (by kernel_rfl) ?_
      refine T.pass (by kernel_rfl) (by kernel_rfl) ?_
      refine T.pure (.bool true) (by kernel_rfl) (fun _ => by kernel_rfl) ?_
      refine T.nil ?_
      exact fun a w' hf hh => And.intro (((((Fr.nil hf).pick hf 28 rfl).pick hf 4 rfl).pick hf 3 rfl).pick hf 2 rfl) (hh.sub (.cons_cons _ (.cons_cons _ List.Sublist.slnil)))
  ·
    rintro a w' ⟨hf, hh⟩
    refine (?_ : T 99 w V1 [box b2 44 [.int .i64 p1.kind, .string p1.body], box b1 44 [.int .i64 p0.kind, .string p0.body]] [(2, .string p2), (3, .pointer (some ⟨b1, 0, none⟩)), (4, .pointer (some ⟨b2, 0, none⟩)), (28, .bool ((r1.2 != 0) || ((r1.1.size : Int) != 6)))] _) a w' hf hh
    clear hf hh
    refine T.cond ((r1.2 != 0) || ((r1.1.size : Int) != 6)) (by kernel_rfl) (by kernel_rfl) (fun hc1 => ?_) (fun hc1 => ?_)
    ·
      rw [hc1, cond_true] at hF
      refine T.seq ?_
      refine T.region ?_
      refine T.pure (.bool false) (by kernel_rfl) (fun _ => by kernel_rfl) ?_
      refine T.nil ?_
      cases hF
      refine T.ret rfl ?_
      exact T.ret1 rfl (ResIs.tmp rfl) fun w' hh => ⟨_, rfl, hh.below, (show _ from rfl)⟩
    ·
      rw [hc1, cond_false] at hF
      refine T.skip_code ?_
      refine T.seq ?_
      refine T.region ?_
      refine T.look (.agg #[.int .i64 p0.kind, .string p0.body]) (by kernel_rfl) (fun w' hh => exec_loadN (cs := [.int .i64 p0.kind, .string p0.body]) rfl rfl (by kernel_rfl) (by kernel_rfl) (fun j u hj => (hh.box_at (i := 1) (cs := [.int .i64 p0.kind, .string p0.body]) (by rfl) 0 j).trans (seg_at (n := 2) rfl hj))) ?_
      obtain ⟨r2, hb2, hF⟩ := Option.bind_eq_some_iff.1 hF
      refine T.step (W1.call (vT2 (vSc eStr) (vSc eInt)) r2 28 #[.agg #[.int .i64 p0.kind, .string p0.body]] (by kernel_rfl) (fun _ => by kernel_rfl) (fun w' hh => frame_Put_l p0 r2 hb2 w' ) ?_)
      intro u V2 hV2 hu
      obtain rfl := (Sure.t2 sureStr sureInt) _ _ _ hu
      refine T.pure (.tuple #[.string r2.1, .int .i64 r2.2]) (by kernel_rfl) (fun _ => by kernel_rfl) ?_
      refine T.pure (.string r2.1) (by kernel_rfl) (fun _ => by kernel_rfl) ?_
      refine T.pure (.int .i64 r2.2) (by kernel_rfl) (fun _ => by kernel_rfl) ?_
      refine T.pure (.string r2.1) (by kernel_rfl) (fun _ => by kernel_rfl) ?_
      refine T.pure (.int .i64 r2.2) (by kernel_rfl) (fun _ => by kernel_rfl) ?_
      refine T.nil ?_
      refine T.seq ?_
      refine T.region ?_
      refine T.look (.agg #[.int .i64 p1.kind, .string p1.body]) (by kernel_rfl) (fun w' hh => exec_loadN (cs := [.int .i64 p1.kind, .string p1.body]) rfl rfl (by kernel_rfl) (by kernel_rfl) (fun j u hj => (hh.box_at (i := 0) (cs := [.int .i64 p1.kind, .string p1.body]) (by rfl) 0 j).trans (seg_at (n := 2) rfl hj))) ?_
      obtain ⟨r3, hb3, hF⟩ := Option.bind_eq_some_iff.1 hF
      refine T.step (W1.call (vT2 (vSc eStr) (vSc eInt)) r3 28 #[.agg #[.int .i64 p1.kind, .string p1.body]] (by kernel_rfl) (fun _ => by kernel_rfl) (fun w' hh => frame_Put_l p1 r3 hb3 w' ) ?_)
      intro u V3 hV3 hu
      obtain rfl := (Sure.t2 sureStr sureInt) _ _ _ hu
      refine T.pure (.tuple #[.string r3.1, .int .i64 r3.2]) (by kernel_rfl) (fun _ => by kernel_rfl) ?_
      refine T.pure (.string r3.1) (by kernel_rfl) (fun _ => by kernel_rfl) ?_
      refine T.pure (.int .i64 r3.2) (by kernel_rfl) (fun _ => by kernel_rfl) ?_
      refine T.pure (.string r3.1) (by kernel_rfl) (fun _ => by kernel_rfl) ?_
      refine T.pure (.int .i64 r3.2) (by kernel_rfl) (fun _ => by kernel_rfl) ?_
      refine T.nil ?_
      refine T.seq ?_
      refine T.cut (fun a w' => Fr 99 [(2, .string p2), (3, .pointer (some ⟨b1, 0, none⟩)), (4, .pointer (some ⟨b2, 0, none⟩)), (9, .string r2.1), (10, .int .i64 r2.2), (11, .string r3.1), (44, .bool ((r2.2 != 0) || (r3.2 != 0)))] a ∧ Hp w V3 [box b2 44 [.int .i64 p1.kind, .string p1.body], box b1 44 [.int .i64 p0.kind, .string p0.body]] w') ?_ ?_
      ·
        refine T.region ?_
        refine T.pure (.int .i64 r2.2) (by kernel_rfl) (fun _ => by kernel_rfl) ?_
        refine T.pure (.bool (r2.2 != 0)) (by kernel_rfl) (fun _ => by kernel_rfl) ?_
        refine T.pure (.bool (r2.2 != 0)) (by kernel_rfl) (fun _ => by kernel_rfl) ?_
        cases hg2 : (r2.2 != 0)
        ·
          skip
          refine T.pure (.int .i64 r3.2) (by kernel_rfl) (fun _ => by kernel_rfl) ?_
          refine T.pure (.bool (r3.2 != 0)) (by kernel_rfl) (fun _ => by kernel_rfl) ?_
          refine T.pure (.bool (r3.2 != 0)) (by kernel_rfl) (fun _ => by kernel_rfl) ?_
          refine T.nil ?_
          exact fun a w' hf hh => And.intro ((((((((Fr.nil hf).pick hf 44 rfl).pick hf 11 rfl).pick hf 10 rfl).pick hf 9 rfl).pick hf 4 rfl).pick hf 3 rfl).pick hf 2 rfl) (hh.sub (.cons_cons _ (.cons_cons _ List.Sublist.slnil)))
        ·
          skip
          refine T.pass (by kernel_rfl) (by kernel_rfl) ?_
          refine T.pass (by kernel_rfl) (by kernel_rfl) ?_
          refine T.pure (.bool true) (by kernel_rfl) (fun _ => by kernel_rfl) ?_
          refine T.nil ?_
          exact fun a w' hf hh => And.intro ((((((((Fr.nil hf).pick hf 44 rfl).pick hf 11 rfl).pick hf 10 rfl).pick hf 9 rfl).pick hf 4 rfl).pick hf 3 rfl).pick hf 2 rfl) (hh.sub (.cons_cons _ (.cons_cons _ List.Sublist.slnil)))
      ·
        rintro a w' ⟨hf, hh⟩
        refine (?_ : T 99 w V3 [box b2 44 [.int .i64 p1.kind, .string p1.body], box b1 44 [.int .i64 p0.kind, .string p0.body]] [(2, .string p2), (3, .pointer (some ⟨b1, 0, none⟩)), (4, .pointer (some ⟨b2, 0, none⟩)), (9, .string r2.1), (10, .int .i64 r2.2), (11, .string r3.1), (44, .bool ((r2.2 != 0) || (r3.2 != 0)))] _) a w' hf hh
        clear hf hh
        refine T.cond ((r2.2 != 0) || (r3.2 != 0)) (by kernel_rfl) (by kernel_rfl) (fun hc2 => ?_) (fun hc2 => ?_)
        ·
          rw [hc2, cond_true] at hF
          refine T.cut (fun a w' => Fr 99 [(6, .bool ((r2.2 == 0) || (seq r2.1 (ByteArray.mk #[]))))] a ∧ Hp w V3 [] w') ?_ ?_
          ·
            refine T.region ?_
            refine T.pure (.int .i64 r2.2) (by kernel_rfl) (fun _ => by kernel_rfl) ?_
            refine T.pure (.bool (r2.2 == 0)) (by kernel_rfl) (fun _ => by kernel_rfl) ?_
            refine T.pure (.bool (r2.2 == 0)) (by kernel_rfl) (fun _ => by kernel_rfl) ?_
            cases hg3 : (r2.2 == 0)
            ·
              skip
              refine T.pure (.string r2.1) (by kernel_rfl) (fun _ => by kernel_rfl) ?_
              refine T.pure (.bool (seq r2.1 (ByteArray.mk #[]))) (by kernel_rfl) (fun _ => by kernel_rfl) ?_
              refine T.pure (.bool (seq r2.1 (ByteArray.mk #[]))) (by kernel_rfl) (fun _ => by kernel_rfl) ?_
              refine T.pure (.bool (seq r2.1 (ByteArray.mk #[]))) (by kernel_rfl) (fun _ => by kernel_rfl) ?_
              refine T.nil ?_
              exact fun a w' hf hh => And.intro ((Fr.nil hf).pick hf 6 rfl) (hh.sub (.cons _ (.cons _ List.Sublist.slnil)))
            ·
              skip
              refine T.pass (by kernel_rfl) (by kernel_rfl) ?_
              refine T.pass (by kernel_rfl) (by kernel_rfl) ?_
              refine T.pure (.bool true) (by kernel_rfl) (fun _ => by kernel_rfl) ?_
              refine T.pure (.bool true) (by kernel_rfl) (fun _ => by kernel_rfl) ?_
              refine T.nil ?_
              exact fun a w' hf hh => And.intro ((Fr.nil hf).pick hf 6 rfl) (hh.sub (.cons _ (.cons _ List.Sublist.slnil)))
          ·
            rintro a w' ⟨hf, hh⟩
            refine (?_ : T 99 w V3 [] [(6, .bool ((r2.2 == 0) || (seq r2.1 (ByteArray.mk #[]))))] _) a w' hf hh
            clear hf hh
            cases hF
            refine T.ret rfl ?_
            exact T.ret1 rfl (ResIs.tmp rfl) fun w' hh => ⟨_, rfl, hh.below, (show _ from rfl)⟩
        ·
          rw [hc2, cond_false] at hF
          refine T.skip_code ?_
          refine T.seq ?_
          refine T.region ?_
          refine T.pure (.string r2.1) (by kernel_rfl) (fun _ => by kernel_rfl) ?_
          refine T.pure (.string r3.1) (by kernel_rfl) (fun _ => by kernel_rfl) ?_
          obtain ⟨s1, hb4, hF⟩ := Option.bind_eq_some_iff.1 hF
          refine T.look (.string s1) (by kernel_rfl) (fun w' hh => exec_scat rfl rfl rfl hb4) ?_
          refine T.pure (.string p2) (by kernel_rfl) (fun _ => by kernel_rfl) ?_
          obtain ⟨s2, hb5, hF⟩ := Option.bind_eq_some_iff.1 hF
          refine T.look (.string s2) (by kernel_rfl) (fun w' hh => exec_scat rfl rfl rfl hb5) ?_
          obtain ⟨r4, hb6, hF⟩ := Option.bind_eq_some_iff.1 hF
          refine T.step (W1.call (vT3 (vAg eFrame) (vSc eInt) (vSc eInt)) r4 29 #[.string s2] (by kernel_rfl) (fun _ => by kernel_rfl) (fun w' hh => frame_Get_l s2 r4 hb6 w' ) ?_)
          intro u V4 hV4 hu
          obtain rfl := (Sure.t3 sureFrame sureInt sureInt) _ _ _ hu
          refine T.pure (.tuple #[.agg #[.int .i64 r4.1.kind, .string r4.1.body], .int .i64 r4.2.1, .int .i64 r4.2.2]) (by kernel_rfl) (fun _ => by kernel_rfl) ?_
          refine T.pure (.agg #[.int .i64 r4.1.kind, .string r4.1.body]) (by kernel_rfl) (fun _ => by kernel_rfl) ?_
          refine T.pure (.int .i64 r4.2.1) (by kernel_rfl) (fun _ => by kernel_rfl) ?_
          refine T.pure (.int .i64 r4.2.2) (by kernel_rfl) (fun _ => by kernel_rfl) ?_
          refine T.step (W1.new 44 [.int .i64 0, .string (ByteArray.mk #[])] (fun b => .pointer (some ⟨b, 0, none⟩)) (by kernel_rfl) (fun _ => by kernel_rfl) (fun b3 => ?_))
          refine T.step (W1.store 0 [.int .i64 r4.1.kind, .string r4.1.body] [box b3 44 [.int .i64 r4.1.kind, .string r4.1.body], box b2 44 [.int .i64 p1.kind, .string p1.body], box b1 44 [.int .i64 p0.kind, .string p0.body]] (by rfl) rfl (by kernel_rfl) (fun w' hw => exec_store (vs := [.int .i64 r4.1.kind, .string r4.1.body]) rfl rfl rfl rfl (by kernel_rfl) (one_of rfl) (by simp) rfl hw) ?_)
          refine T.pure (.int .i64 r4.2.1) (by kernel_rfl) (fun _ => by kernel_rfl) ?_
          refine T.pure (.int .i64 r4.2.2) (by kernel_rfl) (fun _ => by kernel_rfl) ?_
          refine T.nil ?_
          refine T.seq ?_
          refine T.cut (fun a w' => Fr 99 [(2, .string p2), (3, .pointer (some ⟨b1, 0, none⟩)), (4, .pointer (some ⟨b2, 0, none⟩)), (9, .string r2.1), (11, .string r3.1), (13, .pointer (some ⟨b3, 0, none⟩)), (14, .int .i64 r4.2.1), (68, .bool ((r4.2.2 != 0) || (r4.2.1 != (r2.1.size : Int))))] a ∧ Hp w V4 [box b3 44 [.int .i64 r4.1.kind, .string r4.1.body], box b2 44 [.int .i64 p1.kind, .string p1.body], box b1 44 [.int .i64 p0.kind, .string p0.body]] w') ?_ ?_
          ·
            refine T.region ?_
            refine T.pure (.int .i64 r4.2.2) (by kernel_rfl) (fun _ => by kernel_rfl) ?_
            refine T.pure (.bool (r4.2.2 != 0)) (by kernel_rfl) (fun _ => by kernel_rfl) ?_
            refine T.pure (.bool (r4.2.2 != 0)) (by kernel_rfl) (fun _ => by kernel_rfl) ?_
            cases hg4 : (r4.2.2 != 0)
            ·
              skip
              refine T.pure (.int .i64 r4.2.1) (by kernel_rfl) (fun _ => by kernel_rfl) ?_
              refine T.pure (.string r2.1) (by kernel_rfl) (fun _ => by kernel_rfl) ?_
              refine T.pure (.int .i64 (r2.1.size : Int)) (by kernel_rfl) (fun _ => by kernel_rfl) ?_
              refine T.pure (.bool (r4.2.1 != (r2.1.size : Int))) (by kernel_rfl) (fun _ => by kernel_rfl) ?_
              refine T.pure (.bool (r4.2.1 != (r2.1.size : Int))) (by kernel_rfl) (fun _ => by kernel_rfl) ?_
              refine T.nil ?_
              exact fun a w' hf hh => And.intro (((((((((Fr.nil hf).pick hf 68 rfl).pick hf 14 rfl).pick hf 13 rfl).pick hf 11 rfl).pick hf 9 rfl).pick hf 4 rfl).pick hf 3 rfl).pick hf 2 rfl) (hh.sub (.cons_cons _ (.cons_cons _ (.cons_cons _ List.Sublist.slnil))))
            ·
              skip
              refine T.pass (by kernel_rfl) (by kernel_rfl) ?_
              refine T.pass (by kernel_rfl) (by kernel_rfl) ?_
              refine T.pass (by kernel_rfl) (by kernel_rfl) ?_
              refine T.pass (by kernel_rfl) (by kernel_rfl) ?_
              refine T.pure (.bool true) (by kernel_rfl) (fun _ => by kernel_rfl) ?_
              refine T.nil ?_
              exact fun a w' hf hh => And.intro (((((((((Fr.nil hf).pick hf 68 rfl).pick hf 14 rfl).pick hf 13 rfl).pick hf 11 rfl).pick hf 9 rfl).pick hf 4 rfl).pick hf 3 rfl).pick hf 2 rfl) (hh.sub (.cons_cons _ (.cons_cons _ (.cons_cons _ List.Sublist.slnil))))
          ·
            rintro a w' ⟨hf, hh⟩
            refine (?_ : T 99 w V4 [box b3 44 [.int .i64 r4.1.kind, .string r4.1.body], box b2 44 [.int .i64 p1.kind, .string p1.body], box b1 44 [.int .i64 p0.kind, .string p0.body]] [(2, .string p2), (3, .pointer (some ⟨b1, 0, none⟩)), (4, .pointer (some ⟨b2, 0, none⟩)), (9, .string r2.1), (11, .string r3.1), (13, .pointer (some ⟨b3, 0, none⟩)), (14, .int .i64 r4.2.1), (68, .bool ((r4.2.2 != 0) || (r4.2.1 != (r2.1.size : Int))))] _) a w' hf hh
            clear hf hh
            refine T.cond ((r4.2.2 != 0) || (r4.2.1 != (r2.1.size : Int))) (by kernel_rfl) (by kernel_rfl) (fun hc3 => ?_) (fun hc3 => ?_)
            ·
              rw [hc3, cond_true] at hF
              refine T.seq ?_
              refine T.region ?_
              refine T.pure (.bool false) (by kernel_rfl) (fun _ => by kernel_rfl) ?_
              refine T.nil ?_
              cases hF
              refine T.ret rfl ?_
              exact T.ret1 rfl (ResIs.tmp rfl) fun w' hh => ⟨_, rfl, hh.below, (show _ from rfl)⟩
            ·
              rw [hc3, cond_false] at hF
              refine T.skip_code ?_
              refine T.seq ?_
              refine T.region ?_
              refine T.pure (.string r2.1) (by kernel_rfl) (fun _ => by kernel_rfl) ?_
              refine T.pure (.string r3.1) (by kernel_rfl) (fun _ => by kernel_rfl) ?_
              obtain ⟨s3, hb7, hF⟩ := Option.bind_eq_some_iff.1 hF
              refine T.look (.string s3) (by kernel_rfl) (fun w' hh => exec_scat rfl rfl rfl hb7) ?_
              refine T.pure (.string p2) (by kernel_rfl) (fun _ => by kernel_rfl) ?_
              obtain ⟨s4, hb8, hF⟩ := Option.bind_eq_some_iff.1 hF
              refine T.look (.string s4) (by kernel_rfl) (fun w' hh => exec_scat rfl rfl rfl hb8) ?_
              refine T.pure (.int .i64 r4.2.1) (by kernel_rfl) (fun _ => by kernel_rfl) ?_
              obtain ⟨s5, hb9, hF⟩ := Option.bind_eq_some_iff.1 hF
              refine T.look (.string s5) (by kernel_rfl) (fun w' hh => exec_slice_str_lo rfl rfl rfl (by kernel_rfl) hb9) ?_
              obtain ⟨r5, hb10, hF⟩ := Option.bind_eq_some_iff.1 hF
              refine T.step (W1.call (vT3 (vAg eFrame) (vSc eInt) (vSc eInt)) r5 29 #[.string s5] (by kernel_rfl) (fun _ => by kernel_rfl) (fun w' hh => frame_Get_l s5 r5 hb10 w' ) ?_)
              intro u V5 hV5 hu
              obtain rfl := (Sure.t3 sureFrame sureInt sureInt) _ _ _ hu
              refine T.pure (.tuple #[.agg #[.int .i64 r5.1.kind, .string r5.1.body], .int .i64 r5.2.1, .int .i64 r5.2.2]) (by kernel_rfl) (fun _ => by kernel_rfl) ?_
              refine T.pure (.agg #[.int .i64 r5.1.kind, .string r5.1.body]) (by kernel_rfl) (fun _ => by kernel_rfl) ?_
              refine T.pure (.int .i64 r5.2.1) (by kernel_rfl) (fun _ => by kernel_rfl) ?_
              refine T.pure (.int .i64 r5.2.2) (by kernel_rfl) (fun _ => by kernel_rfl) ?_
              refine T.step (W1.new 44 [.int .i64 0, .string (ByteArray.mk #[])] (fun b => .pointer (some ⟨b, 0, none⟩)) (by kernel_rfl) (fun _ => by kernel_rfl) (fun b4 => ?_))
              refine T.step (W1.store 0 [.int .i64 r5.1.kind, .string r5.1.body] [box b4 44 [.int .i64 r5.1.kind, .string r5.1.body], box b3 44 [.int .i64 r4.1.kind, .string r4.1.body], box b2 44 [.int .i64 p1.kind, .string p1.body], box b1 44 [.int .i64 p0.kind, .string p0.body]] (by rfl) rfl (by kernel_rfl) (fun w' hw => exec_store (vs := [.int .i64 r5.1.kind, .string r5.1.body]) rfl rfl rfl rfl (by kernel_rfl) (one_of rfl) (by simp) rfl hw) ?_)
              refine T.pure (.int .i64 r5.2.1) (by kernel_rfl) (fun _ => by kernel_rfl) ?_
              refine T.pure (.int .i64 r5.2.2) (by kernel_rfl) (fun _ => by kernel_rfl) ?_
              refine T.nil ?_
              refine T.cut (fun a w' => Fr 99 [(6, .bool ((r5.2.2 == 0) && ((r5.2.1 == (r3.1.size : Int)) && ((r4.1 == p0) && (r5.1 == p1)))))] a ∧ Hp w V5 [] w') ?_ ?_
              ·
                refine T.region ?_
                refine T.pure (.int .i64 r5.2.2) (by kernel_rfl) (fun _ => by kernel_rfl) ?_
                refine T.pure (.bool (r5.2.2 == 0)) (by kernel_rfl) (fun _ => by kernel_rfl) ?_
                refine T.pure (.bool (r5.2.2 == 0)) (by kernel_rfl) (fun _ => by kernel_rfl) ?_
                cases hg5 : (r5.2.2 == 0)
                ·
                  skip
                  refine T.pass (by kernel_rfl) (by kernel_rfl) ?_
                  refine T.pass (by kernel_rfl) (by kernel_rfl) ?_
                  refine T.pass (by kernel_rfl) (by kernel_rfl) ?_
                  refine T.pass (by kernel_rfl) (by kernel_rfl) ?_
                  refine T.pure (.bool false) (by kernel_rfl) (fun _ => by kernel_rfl) ?_
                  refine T.pure (.bool false) (by kernel_rfl) (fun _ => by kernel_rfl) ?_
                  refine T.pass (by kernel_rfl) (by kernel_rfl) ?_
                  refine T.pass (by kernel_rfl) (by kernel_rfl) ?_
                  refine T.pass (by kernel_rfl) (by kernel_rfl) ?_
                  refine T.pure (.bool false) (by kernel_rfl) (fun _ => by kernel_rfl) ?_
                  refine T.pure (.bool false) (by kernel_rfl) (fun _ => by kernel_rfl) ?_
                  refine T.pass (by kernel_rfl) (by kernel_rfl) ?_
                  refine T.pass (by kernel_rfl) (by kernel_rfl) ?_
                  refine T.pass (by kernel_rfl) (by kernel_rfl) ?_
                  refine T.pure (.bool false) (by kernel_rfl) (fun _ => by kernel_rfl) ?_
                  refine T.pure (.bool false) (by kernel_rfl) (fun _ => by kernel_rfl) ?_
                  refine T.nil ?_
                  exact fun a w' hf hh => And.intro ((Fr.nil hf).pick hf 6 rfl) (hh.sub (.cons _ (.cons _ (.cons _ (.cons _ List.Sublist.slnil)))))
                ·
                  skip
                  refine T.pure (.int .i64 r5.2.1) (by kernel_rfl) (fun _ => by kernel_rfl) ?_
                  refine T.pure (.string r3.1) (by kernel_rfl) (fun _ => by kernel_rfl) ?_
                  refine T.pure (.int .i64 (r3.1.size : Int)) (by kernel_rfl) (fun _ => by kernel_rfl) ?_
                  refine T.pure (.bool (r5.2.1 == (r3.1.size : Int))) (by kernel_rfl) (fun _ => by kernel_rfl) ?_
                  refine T.pure (.bool (r5.2.1 == (r3.1.size : Int))) (by kernel_rfl) (fun _ => by kernel_rfl) ?_
                  refine T.pure (.bool (r5.2.1 == (r3.1.size : Int))) (by kernel_rfl) (fun _ => by kernel_rfl) ?_
                  cases hg6 : (r5.2.1 == (r3.1.size : Int))
                  ·
                    skip
                    refine T.pass (by kernel_rfl) (by kernel_rfl) ?_
                    refine T.pass (by kernel_rfl) (by kernel_rfl) ?_
                    refine T.pass (by kernel_rfl) (by kernel_rfl) ?_
                    refine T.pure (.bool false) (by kernel_rfl) (fun _ => by kernel_rfl) ?_
                    refine T.pure (.bool false) (by kernel_rfl) (fun _ => by kernel_rfl) ?_
                    refine T.pass (by kernel_rfl) (by kernel_rfl) ?_
                    refine T.pass (by kernel_rfl) (by kernel_rfl) ?_
                    refine T.pass (by kernel_rfl) (by kernel_rfl) ?_
                    refine T.pure (.bool false) (by kernel_rfl) (fun _ => by kernel_rfl) ?_
                    refine T.pure (.bool false) (by kernel_rfl) (fun _ => by kernel_rfl) ?_
                    refine T.nil ?_
                    exact fun a w' hf hh => And.intro ((Fr.nil hf).pick hf 6 rfl) (hh.sub (.cons _ (.cons _ (.cons _ (.cons _ List.Sublist.slnil)))))
                  ·
                    skip
                    refine T.look (.agg #[.int .i64 r4.1.kind, .string r4.1.body]) (by kernel_rfl) (fun w' hh => exec_loadN (cs := [.int .i64 r4.1.kind, .string r4.1.body]) rfl rfl (by kernel_rfl) (by kernel_rfl) (fun j u hj => (hh.box_at (i := 1) (cs := [.int .i64 r4.1.kind, .string r4.1.body]) (by rfl) 0 j).trans (seg_at (n := 2) rfl hj))) ?_
                    refine T.look (.agg #[.int .i64 p0.kind, .string p0.body]) (by kernel_rfl) (fun w' hh => exec_loadN (cs := [.int .i64 p0.kind, .string p0.body]) rfl rfl (by kernel_rfl) (by kernel_rfl) (fun j u hj => (hh.box_at (i := 3) (cs := [.int .i64 p0.kind, .string p0.body]) (by rfl) 0 j).trans (seg_at (n := 2) rfl hj))) ?_
                    refine T.look (.bool (r4.1 == p0)) (by kernel_rfl) (fun w' hh => exec_eql_DFrame r4.1 p0 w' rfl rfl rfl) ?_
                    refine T.pure (.bool (r4.1 == p0)) (by kernel_rfl) (fun _ => by kernel_rfl) ?_
                    refine T.pure (.bool (r4.1 == p0)) (by kernel_rfl) (fun _ => by kernel_rfl) ?_
                    cases hg7 : (r4.1 == p0)
                    ·
                      skip
                      refine T.pass (by kernel_rfl) (by kernel_rfl) ?_
                      refine T.pass (by kernel_rfl) (by kernel_rfl) ?_
                      refine T.pass (by kernel_rfl) (by kernel_rfl) ?_
                      refine T.pure (.bool false) (by kernel_rfl) (fun _ => by kernel_rfl) ?_
                      refine T.pure (.bool false) (by kernel_rfl) (fun _ => by kernel_rfl) ?_
                      refine T.nil ?_
                      exact fun a w' hf hh => And.intro ((Fr.nil hf).pick hf 6 rfl) (hh.sub (.cons _ (.cons _ (.cons _ (.cons _ List.Sublist.slnil)))))
                    ·
                      skip
                      refine T.look (.agg #[.int .i64 r5.1.kind, .string r5.1.body]) (by kernel_rfl) (fun w' hh => exec_loadN (cs := [.int .i64 r5.1.kind, .string r5.1.body]) rfl rfl (by kernel_rfl) (by kernel_rfl) (fun j u hj => (hh.box_at (i := 0) (cs := [.int .i64 r5.1.kind, .string r5.1.body]) (by rfl) 0 j).trans (seg_at (n := 2) rfl hj))) ?_
                      refine T.look (.agg #[.int .i64 p1.kind, .string p1.body]) (by kernel_rfl) (fun w' hh => exec_loadN (cs := [.int .i64 p1.kind, .string p1.body]) rfl rfl (by kernel_rfl) (by kernel_rfl) (fun j u hj => (hh.box_at (i := 2) (cs := [.int .i64 p1.kind, .string p1.body]) (by rfl) 0 j).trans (seg_at (n := 2) rfl hj))) ?_
                      refine T.look (.bool (r5.1 == p1)) (by kernel_rfl) (fun w' hh => exec_eql_DFrame r5.1 p1 w' rfl rfl rfl) ?_
                      refine T.pure (.bool (r5.1 == p1)) (by kernel_rfl) (fun _ => by kernel_rfl) ?_
                      refine T.pure (.bool (r5.1 == p1)) (by kernel_rfl) (fun _ => by kernel_rfl) ?_
                      refine T.nil ?_
                      exact fun a w' hf hh => And.intro ((Fr.nil hf).pick hf 6 rfl) (hh.sub (.cons _ (.cons _ (.cons _ (.cons _ List.Sublist.slnil)))))
              ·
                rintro a w' ⟨hf, hh⟩
                refine (?_ : T 99 w V5 [] [(6, .bool ((r5.2.2 == 0) && ((r5.2.1 == (r3.1.size : Int)) && ((r4.1 == p0) && (r5.1 == p1)))))] _) a w' hf hh
                clear hf hh
                cases hF
                refine T.ret rfl ?_
                exact T.ret1 rfl (ResIs.tmp rfl) fun w' hh => ⟨_, rfl, hh.below, (show _ from rfl)⟩

set_option maxRecDepth 100000 in
set_option maxHeartbeats 4000000 in
theorem annalkeep_CodeOne_l (p0 : ByteArray) (r : Bool) (hF : annalkeep_CodeOne p0 = some r) (w : World)  :
    Calls Try.prog 12 #[.string p0] w (Post (vSc eBool) r w) := by
  unfold annalkeep_CodeOne at hF
  refine T.start (l := [.string p0]) Try.func12 rfl rfl rfl ?_
  refine T.seq ?_
  refine T.region ?_
  refine T.pure (.bool false) (by kernel_rfl) (fun _ => by kernel_rfl) ?_
  refine T.nil ?_
  refine T.seq ?_
  refine T.seq ?_
  refine T.region ?_
  obtain ⟨r1, hb1, hF⟩ := Option.bind_eq_some_iff.1 hF
  refine T.step (W1.call (vT3 (vAg eElem) (vSc eInt) (vSc eInt)) r1 30 #[.string (ByteArray.mk #[120])] (by kernel_rfl) (fun _ => by kernel_rfl) (fun w' hh => code_Get_l (ByteArray.mk #[120]) r1 hb1 w' ) ?_)
  intro u V1 hV1 hu
  obtain rfl := (Sure.t3 sureElem sureInt sureInt) _ _ _ hu
  refine T.pure (.tuple #[.agg #[.int .i64 r1.1.key.pfs, .int .i64 r1.1.key.obj, .int .i64 r1.1.key.off, .int .i64 r1.1.made, .int .i64 r1.1.gone, .string r1.1.val], .int .i64 r1.2.1, .int .i64 r1.2.2]) (by kernel_rfl) (fun _ => by kernel_rfl) ?_
  refine T.pure (.agg #[.int .i64 r1.1.key.pfs, .int .i64 r1.1.key.obj, .int .i64 r1.1.key.off, .int .i64 r1.1.made, .int .i64 r1.1.gone, .string r1.1.val]) (by kernel_rfl) (fun _ => by kernel_rfl) ?_
  refine T.pure (.int .i64 r1.2.1) (by kernel_rfl) (fun _ => by kernel_rfl) ?_
  refine T.pure (.int .i64 r1.2.2) (by kernel_rfl) (fun _ => by kernel_rfl) ?_
  refine T.step (W1.new 33 [.int .i64 0, .int .i64 0, .int .i64 0, .int .i64 0, .int .i64 0, .string (ByteArray.mk #[])] (fun b => .pointer (some ⟨b, 0, none⟩)) (by kernel_rfl) (fun _ => by kernel_rfl) (fun b1 => ?_))
  refine T.step (W1.store 0 [.int .i64 r1.1.key.pfs, .int .i64 r1.1.key.obj, .int .i64 r1.1.key.off, .int .i64 r1.1.made, .int .i64 r1.1.gone, .string r1.1.val] [box b1 33 [.int .i64 r1.1.key.pfs, .int .i64 r1.1.key.obj, .int .i64 r1.1.key.off, .int .i64 r1.1.made, .int .i64 r1.1.gone, .string r1.1.val]] (by rfl) rfl (by kernel_rfl) (fun w' hw => exec_store (vs := [.int .i64 r1.1.key.pfs, .int .i64 r1.1.key.obj, .int .i64 r1.1.key.off, .int .i64 r1.1.made, .int .i64 r1.1.gone, .string r1.1.val]) rfl rfl rfl rfl (by kernel_rfl) (one_of rfl) (by simp) rfl hw) ?_)
  refine T.pure (.int .i64 r1.2.1) (by kernel_rfl) (fun _ => by kernel_rfl) ?_
  refine T.pure (.int .i64 r1.2.2) (by kernel_rfl) (fun _ => by kernel_rfl) ?_
  refine T.nil ?_
  refine T.seq ?_
  refine T.region ?_
  refine T.pure (.int .i64 r1.2.2) (by kernel_rfl) (fun _ => by kernel_rfl) ?_
  refine T.pure (.bool (r1.2.2 != 7)) (by kernel_rfl) (fun _ => by kernel_rfl) ?_
  refine T.nil ?_
  refine T.cond (r1.2.2 != 7) (by kernel_rfl) (by kernel_rfl) (fun hc1 => ?_) (fun hc1 => ?_)
  ·
    rw [hc1, cond_true] at hF
    refine T.seq ?_
    refine T.region ?_
    refine T.pure (.bool false) (by kernel_rfl) (fun _ => by kernel_rfl) ?_
    refine T.nil ?_
    cases hF
    refine T.ret rfl ?_
    exact T.ret1 rfl (ResIs.tmp rfl) fun w' hh => ⟨_, rfl, hh.below, (show _ from rfl)⟩
  ·
    rw [hc1, cond_false] at hF
    refine T.skip_code ?_
    refine T.seq ?_
    refine T.region ?_
    refine T.pure (.string p0) (by kernel_rfl) (fun _ => by kernel_rfl) ?_
    obtain ⟨r2, hb2, hF⟩ := Option.bind_eq_some_iff.1 hF
    refine T.step (W1.call (vT3 (vAg eElem) (vSc eInt) (vSc eInt)) r2 30 #[.string p0] (by kernel_rfl) (fun _ => by kernel_rfl) (fun w' hh => code_Get_l p0 r2 hb2 w' ) ?_)
    intro u V2 hV2 hu
    obtain rfl := (Sure.t3 sureElem sureInt sureInt) _ _ _ hu
    refine T.pure (.tuple #[.agg #[.int .i64 r2.1.key.pfs, .int .i64 r2.1.key.obj, .int .i64 r2.1.key.off, .int .i64 r2.1.made, .int .i64 r2.1.gone, .string r2.1.val], .int .i64 r2.2.1, .int .i64 r2.2.2]) (by kernel_rfl) (fun _ => by kernel_rfl) ?_
    refine T.pure (.agg #[.int .i64 r2.1.key.pfs, .int .i64 r2.1.key.obj, .int .i64 r2.1.key.off, .int .i64 r2.1.made, .int .i64 r2.1.gone, .string r2.1.val]) (by kernel_rfl) (fun _ => by kernel_rfl) ?_
    refine T.pure (.int .i64 r2.2.1) (by kernel_rfl) (fun _ => by kernel_rfl) ?_
    refine T.pure (.int .i64 r2.2.2) (by kernel_rfl) (fun _ => by kernel_rfl) ?_
    refine T.step (W1.new 33 [.int .i64 0, .int .i64 0, .int .i64 0, .int .i64 0, .int .i64 0, .string (ByteArray.mk #[])] (fun b => .pointer (some ⟨b, 0, none⟩)) (by kernel_rfl) (fun _ => by kernel_rfl) (fun b2 => ?_))
    refine T.step (W1.store 0 [.int .i64 r2.1.key.pfs, .int .i64 r2.1.key.obj, .int .i64 r2.1.key.off, .int .i64 r2.1.made, .int .i64 r2.1.gone, .string r2.1.val] [box b2 33 [.int .i64 r2.1.key.pfs, .int .i64 r2.1.key.obj, .int .i64 r2.1.key.off, .int .i64 r2.1.made, .int .i64 r2.1.gone, .string r2.1.val], box b1 33 [.int .i64 r1.1.key.pfs, .int .i64 r1.1.key.obj, .int .i64 r1.1.key.off, .int .i64 r1.1.made, .int .i64 r1.1.gone, .string r1.1.val]] (by rfl) rfl (by kernel_rfl) (fun w' hw => exec_store (vs := [.int .i64 r2.1.key.pfs, .int .i64 r2.1.key.obj, .int .i64 r2.1.key.off, .int .i64 r2.1.made, .int .i64 r2.1.gone, .string r2.1.val]) rfl rfl rfl rfl (by kernel_rfl) (one_of rfl) (by simp) rfl hw) ?_)
    refine T.pure (.int .i64 r2.2.1) (by kernel_rfl) (fun _ => by kernel_rfl) ?_
    refine T.pure (.int .i64 r2.2.2) (by kernel_rfl) (fun _ => by kernel_rfl) ?_
    refine T.nil ?_
    refine T.seq ?_
    refine T.seq ?_
    refine T.region ?_
    refine T.pure (.int .i64 r2.2.2) (by kernel_rfl) (fun _ => by kernel_rfl) ?_
    refine T.pure (.bool (r2.2.2 != 0)) (by kernel_rfl) (fun _ => by kernel_rfl) ?_
    refine T.nil ?_
    refine T.cond (r2.2.2 != 0) (by kernel_rfl) (by kernel_rfl) (fun hc2 => ?_) (fun hc2 => ?_)
    ·
      rw [hc2, cond_true] at hF
      refine T.cut (fun a w' => Fr 52 [(2, .bool ((r2.2.1 == 0) && (r2.1 == (DElem.mk (DKey.mk 0 0 0) 0 0 (ByteArray.mk #[])))))] a ∧ Hp w V2 [] w') ?_ ?_
      ·
        refine T.region ?_
        refine T.pure (.int .i64 r2.2.1) (by kernel_rfl) (fun _ => by kernel_rfl) ?_
        refine T.pure (.bool (r2.2.1 == 0)) (by kernel_rfl) (fun _ => by kernel_rfl) ?_
        refine T.pure (.bool (r2.2.1 == 0)) (by kernel_rfl) (fun _ => by kernel_rfl) ?_
        cases hg1 : (r2.2.1 == 0)
        ·
          skip
          refine T.pass (by kernel_rfl) (by kernel_rfl) ?_
          refine T.pass (by kernel_rfl) (by kernel_rfl) ?_
          refine T.pass (by kernel_rfl) (by kernel_rfl) ?_
          refine T.pure (.bool false) (by kernel_rfl) (fun _ => by kernel_rfl) ?_
          refine T.pure (.bool false) (by kernel_rfl) (fun _ => by kernel_rfl) ?_
          refine T.nil ?_
          exact fun a w' hf hh => And.intro ((Fr.nil hf).pick hf 2 rfl) (hh.sub (.cons _ (.cons _ List.Sublist.slnil)))
        ·
          skip
          refine T.look (.agg #[.int .i64 r2.1.key.pfs, .int .i64 r2.1.key.obj, .int .i64 r2.1.key.off, .int .i64 r2.1.made, .int .i64 r2.1.gone, .string r2.1.val]) (by kernel_rfl) (fun w' hh => exec_loadN (cs := [.int .i64 r2.1.key.pfs, .int .i64 r2.1.key.obj, .int .i64 r2.1.key.off, .int .i64 r2.1.made, .int .i64 r2.1.gone, .string r2.1.val]) rfl rfl (by kernel_rfl) (by kernel_rfl) (fun j u hj => (hh.box_at (i := 0) (cs := [.int .i64 r2.1.key.pfs, .int .i64 r2.1.key.obj, .int .i64 r2.1.key.off, .int .i64 r2.1.made, .int .i64 r2.1.gone, .string r2.1.val]) (by rfl) 0 j).trans (seg_at (n := 6) rfl hj))) ?_
          refine T.pure (.agg #[.int .i64 0, .int .i64 0, .int .i64 0, .int .i64 0, .int .i64 0, .string (ByteArray.mk #[])]) (by kernel_rfl) (fun _ => by kernel_rfl) ?_
          refine T.look (.bool (r2.1 == (DElem.mk (DKey.mk 0 0 0) 0 0 (ByteArray.mk #[])))) (by kernel_rfl) (fun w' hh => exec_eql_DElem r2.1 (DElem.mk (DKey.mk 0 0 0) 0 0 (ByteArray.mk #[])) w' rfl rfl rfl) ?_
          refine T.pure (.bool (r2.1 == (DElem.mk (DKey.mk 0 0 0) 0 0 (ByteArray.mk #[])))) (by kernel_rfl) (fun _ => by kernel_rfl) ?_
          refine T.pure (.bool (r2.1 == (DElem.mk (DKey.mk 0 0 0) 0 0 (ByteArray.mk #[])))) (by kernel_rfl) (fun _ => by kernel_rfl) ?_
          refine T.nil ?_
          exact fun a w' hf hh => And.intro ((Fr.nil hf).pick hf 2 rfl) (hh.sub (.cons _ (.cons _ List.Sublist.slnil)))
      ·
        rintro a w' ⟨hf, hh⟩
        refine (?_ : T 52 w V2 [] [(2, .bool ((r2.2.1 == 0) && (r2.1 == (DElem.mk (DKey.mk 0 0 0) 0 0 (ByteArray.mk #[])))))] _) a w' hf hh
        clear hf hh
        cases hF
        refine T.ret rfl ?_
        exact T.ret1 rfl (ResIs.tmp rfl) fun w' hh => ⟨_, rfl, hh.below, (show _ from rfl)⟩
    ·
      rw [hc2, cond_false] at hF
      refine T.skip_code ?_
      refine T.seq ?_
      refine T.region ?_
      refine T.look (.agg #[.int .i64 r2.1.key.pfs, .int .i64 r2.1.key.obj, .int .i64 r2.1.key.off, .int .i64 r2.1.made, .int .i64 r2.1.gone, .string r2.1.val]) (by kernel_rfl) (fun w' hh => exec_loadN (cs := [.int .i64 r2.1.key.pfs, .int .i64 r2.1.key.obj, .int .i64 r2.1.key.off, .int .i64 r2.1.made, .int .i64 r2.1.gone, .string r2.1.val]) rfl rfl (by kernel_rfl) (by kernel_rfl) (fun j u hj => (hh.box_at (i := 0) (cs := [.int .i64 r2.1.key.pfs, .int .i64 r2.1.key.obj, .int .i64 r2.1.key.off, .int .i64 r2.1.made, .int .i64 r2.1.gone, .string r2.1.val]) (by rfl) 0 j).trans (seg_at (n := 6) rfl hj))) ?_
      obtain ⟨r3, hb3, hF⟩ := Option.bind_eq_some_iff.1 hF
      refine T.step (W1.call (vT2 (vSc eStr) (vSc eInt)) r3 31 #[.agg #[.int .i64 r2.1.key.pfs, .int .i64 r2.1.key.obj, .int .i64 r2.1.key.off, .int .i64 r2.1.made, .int .i64 r2.1.gone, .string r2.1.val]] (by kernel_rfl) (fun _ => by kernel_rfl) (fun w' hh => code_Write_l r2.1 r3 hb3 w' ) ?_)
      intro u V3 hV3 hu
      obtain rfl := (Sure.t2 sureStr sureInt) _ _ _ hu
      refine T.pure (.tuple #[.string r3.1, .int .i64 r3.2]) (by kernel_rfl) (fun _ => by kernel_rfl) ?_
      refine T.pure (.string r3.1) (by kernel_rfl) (fun _ => by kernel_rfl) ?_
      refine T.pure (.int .i64 r3.2) (by kernel_rfl) (fun _ => by kernel_rfl) ?_
      refine T.pure (.string r3.1) (by kernel_rfl) (fun _ => by kernel_rfl) ?_
      refine T.pure (.int .i64 r3.2) (by kernel_rfl) (fun _ => by kernel_rfl) ?_
      refine T.nil ?_
      obtain ⟨z1, hX1, hF⟩ := Option.bind_eq_some_iff.1 hF
      refine T.cut (fun a w' => Fr 52 [(2, .bool z1)] a ∧ Hp w V3 [] w') ?_ ?_
      ·
        refine T.region ?_
        refine T.pure (.int .i64 r3.2) (by kernel_rfl) (fun _ => by kernel_rfl) ?_
        refine T.pure (.bool (r3.2 == 0)) (by kernel_rfl) (fun _ => by kernel_rfl) ?_
        refine T.pure (.bool (r3.2 == 0)) (by kernel_rfl) (fun _ => by kernel_rfl) ?_
        cases hg2 : (r3.2 == 0)
        ·
          skip
          rw [hg2, cond_false] at hX1
          refine T.pass (by kernel_rfl) (by kernel_rfl) ?_
          refine T.pass (by kernel_rfl) (by kernel_rfl) ?_
          refine T.pass (by kernel_rfl) (by kernel_rfl) ?_
          refine T.pass (by kernel_rfl) (by kernel_rfl) ?_
          refine T.pure (.bool false) (by kernel_rfl) (fun _ => by kernel_rfl) ?_
          refine T.pure (.bool false) (by kernel_rfl) (fun _ => by kernel_rfl) ?_
          refine T.pass (by kernel_rfl) (by kernel_rfl) ?_
          refine T.pass (by kernel_rfl) (by kernel_rfl) ?_
          refine T.pass (by kernel_rfl) (by kernel_rfl) ?_
          refine T.pass (by kernel_rfl) (by kernel_rfl) ?_
          refine T.pass (by kernel_rfl) (by kernel_rfl) ?_
          refine T.pure (.bool false) (by kernel_rfl) (fun _ => by kernel_rfl) ?_
          refine T.pure (.bool false) (by kernel_rfl) (fun _ => by kernel_rfl) ?_
          refine T.nil ?_
          cases hX1
          exact fun a w' hf hh => And.intro ((Fr.nil hf).pick hf 2 rfl) (hh.sub (.cons _ (.cons _ List.Sublist.slnil)))
        ·
          skip
          rw [hg2, cond_true] at hX1
          refine T.pure (.int .i64 r2.2.1) (by kernel_rfl) (fun _ => by kernel_rfl) ?_
          refine T.pure (.string p0) (by kernel_rfl) (fun _ => by kernel_rfl) ?_
          refine T.pure (.int .i64 (p0.size : Int)) (by kernel_rfl) (fun _ => by kernel_rfl) ?_
          refine T.pure (.bool (decide (r2.2.1 ≤ (p0.size : Int)))) (by kernel_rfl) (fun _ => by kernel_rfl) ?_
          refine T.pure (.bool (decide (r2.2.1 ≤ (p0.size : Int)))) (by kernel_rfl) (fun _ => by kernel_rfl) ?_
          refine T.pure (.bool (decide (r2.2.1 ≤ (p0.size : Int)))) (by kernel_rfl) (fun _ => by kernel_rfl) ?_
          cases hg3 : decide (r2.2.1 ≤ (p0.size : Int))
          ·
            skip
            rw [hg3, cond_false] at hX1
            refine T.pass (by kernel_rfl) (by kernel_rfl) ?_
            refine T.pass (by kernel_rfl) (by kernel_rfl) ?_
            refine T.pass (by kernel_rfl) (by kernel_rfl) ?_
            refine T.pass (by kernel_rfl) (by kernel_rfl) ?_
            refine T.pass (by kernel_rfl) (by kernel_rfl) ?_
            refine T.pure (.bool false) (by kernel_rfl) (fun _ => by kernel_rfl) ?_
            refine T.pure (.bool false) (by kernel_rfl) (fun _ => by kernel_rfl) ?_
            refine T.nil ?_
            cases hX1
            exact fun a w' hf hh => And.intro ((Fr.nil hf).pick hf 2 rfl) (hh.sub (.cons _ (.cons _ List.Sublist.slnil)))
          ·
            skip
            rw [hg3, cond_true] at hX1
            refine T.pure (.string r3.1) (by kernel_rfl) (fun _ => by kernel_rfl) ?_
            refine T.pure (.string p0) (by kernel_rfl) (fun _ => by kernel_rfl) ?_
            refine T.pure (.int .i64 r2.2.1) (by kernel_rfl) (fun _ => by kernel_rfl) ?_
            obtain ⟨s1, hb4, hX1⟩ := Option.bind_eq_some_iff.1 hX1
            refine T.look (.string s1) (by kernel_rfl) (fun w' hh => exec_slice_str_hi rfl rfl rfl (by kernel_rfl) hb4) ?_
            refine T.pure (.bool (seq r3.1 s1)) (by kernel_rfl) (fun _ => by kernel_rfl) ?_
            refine T.pure (.bool (seq r3.1 s1)) (by kernel_rfl) (fun _ => by kernel_rfl) ?_
            refine T.pure (.bool (seq r3.1 s1)) (by kernel_rfl) (fun _ => by kernel_rfl) ?_
            refine T.nil ?_
            cases hX1
            exact fun a w' hf hh => And.intro ((Fr.nil hf).pick hf 2 rfl) (hh.sub (.cons _ (.cons _ List.Sublist.slnil)))
      ·
        rintro a w' ⟨hf, hh⟩
        refine (?_ : T 52 w V3 [] [(2, .bool z1)] _) a w' hf hh
        clear hf hh
        cases hF
        refine T.ret rfl ?_
        exact T.ret1 rfl (ResIs.tmp rfl) fun w' hh => ⟨_, rfl, hh.below, (show _ from rfl)⟩

set_option maxRecDepth 100000 in
set_option maxHeartbeats 4000000 in
theorem annalkeep_CodeOrders_l (p0 : DElem) (p1 : DElem) (r : Bool) (hF : annalkeep_CodeOrders p0 p1 = some r) (w : World)  :
    Calls Try.prog 13 #[.agg #[.int .i64 p0.key.pfs, .int .i64 p0.key.obj, .int .i64 p0.key.off, .int .i64 p0.made, .int .i64 p0.gone, .string p0.val], .agg #[.int .i64 p1.key.pfs, .int .i64 p1.key.obj, .int .i64 p1.key.off, .int .i64 p1.made, .int .i64 p1.gone, .string p1.val]] w (Post (vSc eBool) r w) := by
  unfold annalkeep_CodeOrders at hF
  refine T.start (l := [.agg #[.int .i64 p0.key.pfs, .int .i64 p0.key.obj, .int .i64 p0.key.off, .int .i64 p0.made, .int .i64 p0.gone, .string p0.val], .agg #[.int .i64 p1.key.pfs, .int .i64 p1.key.obj, .int .i64 p1.key.off, .int .i64 p1.made, .int .i64 p1.gone, .string p1.val]]) Try.func13 rfl rfl rfl ?_
  refine T.seq ?_
  refine T.region ?_
  refine T.step (W1.new 33 [.int .i64 p0.key.pfs, .int .i64 p0.key.obj, .int .i64 p0.key.off, .int .i64 p0.made, .int .i64 p0.gone, .string p0.val] (fun b => .pointer (some ⟨b, 0, none⟩)) (by kernel_rfl) (fun _ => by kernel_rfl) (fun b1 => ?_))
  refine T.step (W1.new 33 [.int .i64 p1.key.pfs, .int .i64 p1.key.obj, .int .i64 p1.key.off, .int .i64 p1.made, .int .i64 p1.gone, .string p1.val] (fun b => .pointer (some ⟨b, 0, none⟩)) (by kernel_rfl) (fun _ => by kernel_rfl) (fun b2 => ?_))
  refine T.pure (.bool false) (by kernel_rfl) (fun _ => by kernel_rfl) ?_
  refine T.nil ?_
  refine T.seq ?_
  refine T.seq ?_
  refine T.region ?_
  obtain ⟨r1, hb1, hF⟩ := Option.bind_eq_some_iff.1 hF
  refine T.step (W1.call (vAg eElem) r1 32 #[.int .i64 1, .string (ByteArray.mk #[97])] (by kernel_rfl) (fun _ => by kernel_rfl) (fun w' hh => annalkeep_at1_l 1 (ByteArray.mk #[97]) r1 hb1 w' ) ?_)
  intro u V1 hV1 hu
  obtain rfl := sureElem _ _ _ hu
  obtain ⟨r2, hb2, hF⟩ := Option.bind_eq_some_iff.1 hF
  refine T.step (W1.call (vT2 (vSc eStr) (vSc eInt)) r2 31 #[.agg #[.int .i64 r1.key.pfs, .int .i64 r1.key.obj, .int .i64 r1.key.off, .int .i64 r1.made, .int .i64 r1.gone, .string r1.val]] (by kernel_rfl) (fun _ => by kernel_rfl) (fun w' hh => code_Write_l r1 r2 hb2 w' ) ?_)
  intro u V2 hV2 hu
  obtain rfl := (Sure.t2 sureStr sureInt) _ _ _ hu
  refine T.pure (.tuple #[.string r2.1, .int .i64 r2.2]) (by kernel_rfl) (fun _ => by kernel_rfl) ?_
  refine T.pure (.string r2.1) (by kernel_rfl) (fun _ => by kernel_rfl) ?_
  refine T.pure (.int .i64 r2.2) (by kernel_rfl) (fun _ => by kernel_rfl) ?_
  refine T.pure (.string r2.1) (by kernel_rfl) (fun _ => by kernel_rfl) ?_
  refine T.pure (.int .i64 r2.2) (by kernel_rfl) (fun _ => by kernel_rfl) ?_
  refine T.nil ?_
  obtain ⟨z1, hX1, hF⟩ := Option.bind_eq_some_iff.1 hF
  refine T.cut (fun a w' => Fr 71 [(2, .pointer (some ⟨b1, 0, none⟩)), (3, .pointer (some ⟨b2, 0, none⟩)), (27, .bool z1)] a ∧ Hp w V2 [box b2 33 [.int .i64 p1.key.pfs, .int .i64 p1.key.obj, .int .i64 p1.key.off, .int .i64 p1.made, .int .i64 p1.gone, .string p1.val], box b1 33 [.int .i64 p0.key.pfs, .int .i64 p0.key.obj, .int .i64 p0.key.off, .int .i64 p0.made, .int .i64 p0.gone, .string p0.val]] w') ?_ ?_
  ·
    refine T.region ?_
    refine T.pure (.int .i64 r2.2) (by kernel_rfl) (fun _ => by kernel_rfl) ?_
    refine T.pure (.bool (r2.2 != 0)) (by kernel_rfl) (fun _ => by kernel_rfl) ?_
    refine T.pure (.bool (r2.2 != 0)) (by kernel_rfl) (fun _ => by kernel_rfl) ?_
    cases hg1 : (r2.2 != 0)
    ·
      skip
      rw [hg1, cond_false] at hX1
      refine T.pure (.string r2.1) (by kernel_rfl) (fun _ => by kernel_rfl) ?_
      refine T.pure (.int .i64 (r2.1.size : Int)) (by kernel_rfl) (fun _ => by kernel_rfl) ?_
      refine T.pure (.bool (decide ((r2.1.size : Int) < 13))) (by kernel_rfl) (fun _ => by kernel_rfl) ?_
      refine T.pure (.bool (decide ((r2.1.size : Int) < 13))) (by kernel_rfl) (fun _ => by kernel_rfl) ?_
      refine T.pure (.bool (decide ((r2.1.size : Int) < 13))) (by kernel_rfl) (fun _ => by kernel_rfl) ?_
      cases hg2 : decide ((r2.1.size : Int) < 13)
      ·
        skip
        rw [hg2, cond_false] at hX1
        refine T.pure (.string r2.1) (by kernel_rfl) (fun _ => by kernel_rfl) ?_
        obtain ⟨s1, hb3, hX1⟩ := Option.bind_eq_some_iff.1 hX1
        refine T.look (.string s1) (by kernel_rfl) (fun w' hh => exec_slice_str_hi rfl rfl rfl (by kernel_rfl) hb3) ?_
        refine T.pure (.bool (!(seq s1 (ByteArray.mk #[0, 0, 0, 0, 0, 0, 0, 0, 1, 0, 0, 0, 1])))) (by kernel_rfl) (fun _ => by kernel_rfl) ?_
        refine T.pure (.bool (!(seq s1 (ByteArray.mk #[0, 0, 0, 0, 0, 0, 0, 0, 1, 0, 0, 0, 1])))) (by kernel_rfl) (fun _ => by kernel_rfl) ?_
        refine T.nil ?_
        cases hX1
        exact fun a w' hf hh => And.intro ((((Fr.nil hf).pick hf 27 rfl).pick hf 3 rfl).pick hf 2 rfl) (hh.sub (.cons_cons _ (.cons_cons _ List.Sublist.slnil)))
      ·
        skip
        rw [hg2, cond_true] at hX1
        refine T.pass (by kernel_rfl) (by kernel_rfl) ?_
        refine T.pass (by kernel_rfl) (by kernel_rfl) ?_
        refine T.pass (by kernel_rfl) (by kernel_rfl) ?_
        refine T.pure (.bool true) (by kernel_rfl) (fun _ => by kernel_rfl) ?_
        refine T.nil ?_
        cases hX1
        exact fun a w' hf hh => And.intro ((((Fr.nil hf).pick hf 27 rfl).pick hf 3 rfl).pick hf 2 rfl) (hh.sub (.cons_cons _ (.cons_cons _ List.Sublist.slnil)))
    ·
      skip
      rw [hg1, cond_true] at hX1
      refine T.pass (by kernel_rfl) (by kernel_rfl) ?_
      refine T.pass (by kernel_rfl) (by kernel_rfl) ?_
      refine T.pass (by kernel_rfl) (by kernel_rfl) ?_
      refine T.pure (.bool true) (by kernel_rfl) (fun _ => by kernel_rfl) ?_
      refine T.pure (.bool true) (by kernel_rfl) (fun _ => by kernel_rfl) ?_
      refine T.pass (by kernel_rfl) (by kernel_rfl) ?_
      refine T.pass (by kernel_rfl) (by kernel_rfl) ?_
      refine T.pass (by kernel_rfl) (by kernel_rfl) ?_
      refine T.pure (.bool true) (by kernel_rfl) (fun _ => by kernel_rfl) ?_
      refine T.nil ?_
      cases hX1
      exact fun a w' hf hh => And.intro ((((Fr.nil hf).pick hf 27 rfl).pick hf 3 rfl).pick hf 2 rfl) (hh.sub (.cons_cons _ (.cons_cons _ List.Sublist.slnil)))
  ·
    rintro a w' ⟨hf, hh⟩
    refine (?_ : T 71 w V2 [box b2 33 [.int .i64 p1.key.pfs, .int .i64 p1.key.obj, .int .i64 p1.key.off, .int .i64 p1.made, .int .i64 p1.gone, .string p1.val], box b1 33 [.int .i64 p0.key.pfs, .int .i64 p0.key.obj, .int .i64 p0.key.off, .int .i64 p0.made, .int .i64 p0.gone, .string p0.val]] [(2, .pointer (some ⟨b1, 0, none⟩)), (3, .pointer (some ⟨b2, 0, none⟩)), (27, .bool z1)] _) a w' hf hh
    clear hf hh
    refine T.cond z1 (by kernel_rfl) (by kernel_rfl) (fun hc1 => ?_) (fun hc1 => ?_)
    ·
      rw [hc1, cond_true] at hF
      refine T.seq ?_
      refine T.region ?_
      refine T.pure (.bool false) (by kernel_rfl) (fun _ => by kernel_rfl) ?_
      refine T.nil ?_
      cases hF
      refine T.ret rfl ?_
      exact T.ret1 rfl (ResIs.tmp rfl) fun w' hh => ⟨_, rfl, hh.below, (show _ from rfl)⟩
    ·
      rw [hc1, cond_false] at hF
      refine T.skip_code ?_
      refine T.seq ?_
      refine T.region ?_
      refine T.look (.agg #[.int .i64 p0.key.pfs, .int .i64 p0.key.obj, .int .i64 p0.key.off, .int .i64 p0.made, .int .i64 p0.gone, .string p0.val]) (by kernel_rfl) (fun w' hh => exec_loadN (cs := [.int .i64 p0.key.pfs, .int .i64 p0.key.obj, .int .i64 p0.key.off, .int .i64 p0.made, .int .i64 p0.gone, .string p0.val]) rfl rfl (by kernel_rfl) (by kernel_rfl) (fun j u hj => (hh.box_at (i := 1) (cs := [.int .i64 p0.key.pfs, .int .i64 p0.key.obj, .int .i64 p0.key.off, .int .i64 p0.made, .int .i64 p0.gone, .string p0.val]) (by rfl) 0 j).trans (seg_at (n := 6) rfl hj))) ?_
      obtain ⟨r3, hb4, hF⟩ := Option.bind_eq_some_iff.1 hF
      refine T.step (W1.call (vT2 (vSc eStr) (vSc eInt)) r3 31 #[.agg #[.int .i64 p0.key.pfs, .int .i64 p0.key.obj, .int .i64 p0.key.off, .int .i64 p0.made, .int .i64 p0.gone, .string p0.val]] (by kernel_rfl) (fun _ => by kernel_rfl) (fun w' hh => code_Write_l p0 r3 hb4 w' ) ?_)
      intro u V3 hV3 hu
      obtain rfl := (Sure.t2 sureStr sureInt) _ _ _ hu
      refine T.pure (.tuple #[.string r3.1, .int .i64 r3.2]) (by kernel_rfl) (fun _ => by kernel_rfl) ?_
      refine T.pure (.string r3.1) (by kernel_rfl) (fun _ => by kernel_rfl) ?_
      refine T.pure (.int .i64 r3.2) (by kernel_rfl) (fun _ => by kernel_rfl) ?_
      refine T.pure (.string r3.1) (by kernel_rfl) (fun _ => by kernel_rfl) ?_
      refine T.pure (.int .i64 r3.2) (by kernel_rfl) (fun _ => by kernel_rfl) ?_
      refine T.nil ?_
      refine T.seq ?_
      refine T.region ?_
      refine T.look (.agg #[.int .i64 p1.key.pfs, .int .i64 p1.key.obj, .int .i64 p1.key.off, .int .i64 p1.made, .int .i64 p1.gone, .string p1.val]) (by kernel_rfl) (fun w' hh => exec_loadN (cs := [.int .i64 p1.key.pfs, .int .i64 p1.key.obj, .int .i64 p1.key.off, .int .i64 p1.made, .int .i64 p1.gone, .string p1.val]) rfl rfl (by kernel_rfl) (by kernel_rfl) (fun j u hj => (hh.box_at (i := 0) (cs := [.int .i64 p1.key.pfs, .int .i64 p1.key.obj, .int .i64 p1.key.off, .int .i64 p1.made, .int .i64 p1.gone, .string p1.val]) (by rfl) 0 j).trans (seg_at (n := 6) rfl hj))) ?_
      obtain ⟨r4, hb5, hF⟩ := Option.bind_eq_some_iff.1 hF
      refine T.step (W1.call (vT2 (vSc eStr) (vSc eInt)) r4 31 #[.agg #[.int .i64 p1.key.pfs, .int .i64 p1.key.obj, .int .i64 p1.key.off, .int .i64 p1.made, .int .i64 p1.gone, .string p1.val]] (by kernel_rfl) (fun _ => by kernel_rfl) (fun w' hh => code_Write_l p1 r4 hb5 w' ) ?_)
      intro u V4 hV4 hu
      obtain rfl := (Sure.t2 sureStr sureInt) _ _ _ hu
      refine T.pure (.tuple #[.string r4.1, .int .i64 r4.2]) (by kernel_rfl) (fun _ => by kernel_rfl) ?_
      refine T.pure (.string r4.1) (by kernel_rfl) (fun _ => by kernel_rfl) ?_
      refine T.pure (.int .i64 r4.2) (by kernel_rfl) (fun _ => by kernel_rfl) ?_
      refine T.pure (.string r4.1) (by kernel_rfl) (fun _ => by kernel_rfl) ?_
      refine T.pure (.int .i64 r4.2) (by kernel_rfl) (fun _ => by kernel_rfl) ?_
      refine T.nil ?_
      refine T.seq ?_
      refine T.cut (fun a w' => Fr 71 [(2, .pointer (some ⟨b1, 0, none⟩)), (3, .pointer (some ⟨b2, 0, none⟩)), (7, .string r3.1), (8, .int .i64 r3.2), (9, .string r4.1), (43, .bool ((r3.2 != 0) || (r4.2 != 0)))] a ∧ Hp w V4 [box b2 33 [.int .i64 p1.key.pfs, .int .i64 p1.key.obj, .int .i64 p1.key.off, .int .i64 p1.made, .int .i64 p1.gone, .string p1.val], box b1 33 [.int .i64 p0.key.pfs, .int .i64 p0.key.obj, .int .i64 p0.key.off, .int .i64 p0.made, .int .i64 p0.gone, .string p0.val]] w') ?_ ?_
      ·
        refine T.region ?_
        refine T.pure (.int .i64 r3.2) (by kernel_rfl) (fun _ => by kernel_rfl) ?_
        refine T.pure (.bool (r3.2 != 0)) (by kernel_rfl) (fun _ => by kernel_rfl) ?_
        refine T.pure (.bool (r3.2 != 0)) (by kernel_rfl) (fun _ => by kernel_rfl) ?_
        cases hg3 : (r3.2 != 0)
        ·
          skip
          refine T.pure (.int .i64 r4.2) (by kernel_rfl) (fun _ => by kernel_rfl) ?_
          refine T.pure (.bool (r4.2 != 0)) (by kernel_rfl) (fun _ => by kernel_rfl) ?_
          refine T.pure (.bool (r4.2 != 0)) (by kernel_rfl) (fun _ => by kernel_rfl) ?_
          refine T.nil ?_
          exact fun a w' hf hh => And.intro (((((((Fr.nil hf).pick hf 43 rfl).pick hf 9 rfl).pick hf 8 rfl).pick hf 7 rfl).pick hf 3 rfl).pick hf 2 rfl) (hh.sub (.cons_cons _ (.cons_cons _ List.Sublist.slnil)))
        ·
          skip
          refine T.pass (by kernel_rfl) (by kernel_rfl) ?_
          refine T.pass (by kernel_rfl) (by kernel_rfl) ?_
          refine T.pure (.bool true) (by kernel_rfl) (fun _ => by kernel_rfl) ?_
          refine T.nil ?_
          exact fun a w' hf hh => And.intro (((((((Fr.nil hf).pick hf 43 rfl).pick hf 9 rfl).pick hf 8 rfl).pick hf 7 rfl).pick hf 3 rfl).pick hf 2 rfl) (hh.sub (.cons_cons _ (.cons_cons _ List.Sublist.slnil)))
      ·
        rintro a w' ⟨hf, hh⟩
        refine (?_ : T 71 w V4 [box b2 33 [.int .i64 p1.key.pfs, .int .i64 p1.key.obj, .int .i64 p1.key.off, .int .i64 p1.made, .int .i64 p1.gone, .string p1.val], box b1 33 [.int .i64 p0.key.pfs, .int .i64 p0.key.obj, .int .i64 p0.key.off, .int .i64 p0.made, .int .i64 p0.gone, .string p0.val]] [(2, .pointer (some ⟨b1, 0, none⟩)), (3, .pointer (some ⟨b2, 0, none⟩)), (7, .string r3.1), (8, .int .i64 r3.2), (9, .string r4.1), (43, .bool ((r3.2 != 0) || (r4.2 != 0)))] _) a w' hf hh
        clear hf hh
        refine T.cond ((r3.2 != 0) || (r4.2 != 0)) (by kernel_rfl) (by kernel_rfl) (fun hc2 => ?_) (fun hc2 => ?_)
        ·
          rw [hc2, cond_true] at hF
          refine T.cut (fun a w' => Fr 71 [(4, .bool ((r3.2 == 0) || (seq r3.1 (ByteArray.mk #[]))))] a ∧ Hp w V4 [] w') ?_ ?_
          ·
            refine T.region ?_
            refine T.pure (.int .i64 r3.2) (by kernel_rfl) (fun _ => by kernel_rfl) ?_
            refine T.pure (.bool (r3.2 == 0)) (by kernel_rfl) (fun _ => by kernel_rfl) ?_
            refine T.pure (.bool (r3.2 == 0)) (by kernel_rfl) (fun _ => by kernel_rfl) ?_
            cases hg4 : (r3.2 == 0)
            ·
              skip
              refine T.pure (.string r3.1) (by kernel_rfl) (fun _ => by kernel_rfl) ?_
              refine T.pure (.bool (seq r3.1 (ByteArray.mk #[]))) (by kernel_rfl) (fun _ => by kernel_rfl) ?_
              refine T.pure (.bool (seq r3.1 (ByteArray.mk #[]))) (by kernel_rfl) (fun _ => by kernel_rfl) ?_
              refine T.pure (.bool (seq r3.1 (ByteArray.mk #[]))) (by kernel_rfl) (fun _ => by kernel_rfl) ?_
              refine T.nil ?_
              exact fun a w' hf hh => And.intro ((Fr.nil hf).pick hf 4 rfl) (hh.sub (.cons _ (.cons _ List.Sublist.slnil)))
            ·
              skip
              refine T.pass (by kernel_rfl) (by kernel_rfl) ?_
              refine T.pass (by kernel_rfl) (by kernel_rfl) ?_
              refine T.pure (.bool true) (by kernel_rfl) (fun _ => by kernel_rfl) ?_
              refine T.pure (.bool true) (by kernel_rfl) (fun _ => by kernel_rfl) ?_
              refine T.nil ?_
              exact fun a w' hf hh => And.intro ((Fr.nil hf).pick hf 4 rfl) (hh.sub (.cons _ (.cons _ List.Sublist.slnil)))
          ·
            rintro a w' ⟨hf, hh⟩
            refine (?_ : T 71 w V4 [] [(4, .bool ((r3.2 == 0) || (seq r3.1 (ByteArray.mk #[]))))] _) a w' hf hh
            clear hf hh
            cases hF
            refine T.ret rfl ?_
            exact T.ret1 rfl (ResIs.tmp rfl) fun w' hh => ⟨_, rfl, hh.below, (show _ from rfl)⟩
        ·
          rw [hc2, cond_false] at hF
          refine T.skip_code ?_
          obtain ⟨z2, hX2, hF⟩ := Option.bind_eq_some_iff.1 hF
          refine T.cut (fun a w' => Fr 71 [(4, .bool z2)] a ∧ Hp w V4 [] w') ?_ ?_
          ·
            refine T.quiet (by kernel_rfl) (by kernel_rfl) ?_
            refine TQ.pure (.string r3.1) (by kernel_rfl) (fun _ => by kernel_rfl) ?_
            refine TQ.pure (.int .i64 (r3.1.size : Int)) (by kernel_rfl) (fun _ => by kernel_rfl) ?_
            refine TQ.pure (.bool (decide ((13 : Int) ≤ (r3.1.size : Int)))) (by kernel_rfl) (fun _ => by kernel_rfl) ?_
            refine TQ.pure (.bool (decide ((13 : Int) ≤ (r3.1.size : Int)))) (by kernel_rfl) (fun _ => by kernel_rfl) ?_
            cases hg5 : decide ((13 : Int) ≤ (r3.1.size : Int))
            ·
              skip
              rw [hg5, cond_false] at hX2
              refine TQ.pass (by kernel_rfl) (by kernel_rfl) ?_
              refine TQ.pass (by kernel_rfl) (by kernel_rfl) ?_
              refine TQ.pass (by kernel_rfl) (by kernel_rfl) ?_
              refine TQ.pure (.bool false) (by kernel_rfl) (fun _ => by kernel_rfl) ?_
              refine TQ.pure (.bool false) (by kernel_rfl) (fun _ => by kernel_rfl) ?_
              refine TQ.pass (by kernel_rfl) (by kernel_rfl) ?_
              refine TQ.pass (by kernel_rfl) (by kernel_rfl) ?_
              refine TQ.pass (by kernel_rfl) (by kernel_rfl) ?_
              refine TQ.pass (by kernel_rfl) (by kernel_rfl) ?_
              refine TQ.pass (by kernel_rfl) (by kernel_rfl) ?_
              refine TQ.pass (by kernel_rfl) (by kernel_rfl) ?_
              refine TQ.pass (by kernel_rfl) (by kernel_rfl) ?_
              refine TQ.pass (by kernel_rfl) (by kernel_rfl) ?_
              refine TQ.pass (by kernel_rfl) (by kernel_rfl) ?_
              refine TQ.pass (by kernel_rfl) (by kernel_rfl) ?_
              refine TQ.pass (by kernel_rfl) (by kernel_rfl) ?_
              refine TQ.pure (.bool false) (by kernel_rfl) (fun _ => by kernel_rfl) ?_
              refine TQ.pure (.bool false) (by kernel_rfl) (fun _ => by kernel_rfl) ?_
              refine TQ.nil ?_
              cases hX2
              exact fun a w' hf hh => And.intro ((Fr.nil hf).pick hf 4 rfl) (hh.sub (.cons _ (.cons _ List.Sublist.slnil)))
            ·
              skip
              rw [hg5, cond_true] at hX2
              refine TQ.pure (.string r4.1) (by kernel_rfl) (fun _ => by kernel_rfl) ?_
              refine TQ.pure (.int .i64 (r4.1.size : Int)) (by kernel_rfl) (fun _ => by kernel_rfl) ?_
              refine TQ.pure (.bool (decide ((13 : Int) ≤ (r4.1.size : Int)))) (by kernel_rfl) (fun _ => by kernel_rfl) ?_
              refine TQ.pure (.bool (decide ((13 : Int) ≤ (r4.1.size : Int)))) (by kernel_rfl) (fun _ => by kernel_rfl) ?_
              refine TQ.pure (.bool (decide ((13 : Int) ≤ (r4.1.size : Int)))) (by kernel_rfl) (fun _ => by kernel_rfl) ?_
              cases hg6 : decide ((13 : Int) ≤ (r4.1.size : Int))
              ·
                skip
                rw [hg6, cond_false] at hX2
                refine TQ.pass (by kernel_rfl) (by kernel_rfl) ?_
                refine TQ.pass (by kernel_rfl) (by kernel_rfl) ?_
                refine TQ.pass (by kernel_rfl) (by kernel_rfl) ?_
                refine TQ.pass (by kernel_rfl) (by kernel_rfl) ?_
                refine TQ.pass (by kernel_rfl) (by kernel_rfl) ?_
                refine TQ.pass (by kernel_rfl) (by kernel_rfl) ?_
                refine TQ.pass (by kernel_rfl) (by kernel_rfl) ?_
                refine TQ.pass (by kernel_rfl) (by kernel_rfl) ?_
                refine TQ.pass (by kernel_rfl) (by kernel_rfl) ?_
                refine TQ.pass (by kernel_rfl) (by kernel_rfl) ?_
                refine TQ.pass (by kernel_rfl) (by kernel_rfl) ?_
                refine TQ.pure (.bool false) (by kernel_rfl) (fun _ => by kernel_rfl) ?_
                refine TQ.pure (.bool false) (by kernel_rfl) (fun _ => by kernel_rfl) ?_
                refine TQ.nil ?_
                cases hX2
                exact fun a w' hf hh => And.intro ((Fr.nil hf).pick hf 4 rfl) (hh.sub (.cons _ (.cons _ List.Sublist.slnil)))
              ·
                skip
                rw [hg6, cond_true] at hX2
                refine TQ.pure (.string r3.1) (by kernel_rfl) (fun _ => by kernel_rfl) ?_
                obtain ⟨s2, hb6, hX2⟩ := Option.bind_eq_some_iff.1 hX2
                refine TQ.look (.string s2) (by kernel_rfl) (fun w' hh => exec_slice_str_hi rfl rfl rfl (by kernel_rfl) hb6) ?_
                refine TQ.pure (.string r4.1) (by kernel_rfl) (fun _ => by kernel_rfl) ?_
                obtain ⟨s3, hb7, hX2⟩ := Option.bind_eq_some_iff.1 hX2
                refine TQ.look (.string s3) (by kernel_rfl) (fun w' hh => exec_slice_str_hi rfl rfl rfl (by kernel_rfl) hb7) ?_
                obtain ⟨r5, hb8, hX2⟩ := Option.bind_eq_some_iff.1 hX2
                refine TQ.call (vSc eInt) r5 33 #[.string s2, .string s3] (.int .i64 r5) (fun V u hu => sureInt V u _ hu) (by kernel_rfl) (fun _ => by kernel_rfl) (fun w' hh => strings_Compare_l s2 s3 r5 hb8 w' ) ?_
                refine TQ.look (.agg #[.int .i64 p0.key.pfs, .int .i64 p0.key.obj, .int .i64 p0.key.off, .int .i64 p0.made, .int .i64 p0.gone, .string p0.val]) (by kernel_rfl) (fun w' hh => exec_loadN (cs := [.int .i64 p0.key.pfs, .int .i64 p0.key.obj, .int .i64 p0.key.off, .int .i64 p0.made, .int .i64 p0.gone, .string p0.val]) rfl rfl (by kernel_rfl) (by kernel_rfl) (fun j u hj => (hh.box_at (i := 1) (cs := [.int .i64 p0.key.pfs, .int .i64 p0.key.obj, .int .i64 p0.key.off, .int .i64 p0.made, .int .i64 p0.gone, .string p0.val]) (by rfl) 0 j).trans (seg_at (n := 6) rfl hj))) ?_
                obtain ⟨r6, hb9, hX2⟩ := Option.bind_eq_some_iff.1 hX2
                refine TQ.call (vAg eSpot) r6 34 #[.agg #[.int .i64 p0.key.pfs, .int .i64 p0.key.obj, .int .i64 p0.key.off, .int .i64 p0.made, .int .i64 p0.gone, .string p0.val]] (.agg #[.int .i64 r6.key.pfs, .int .i64 r6.key.obj, .int .i64 r6.key.off, .int .i64 r6.made]) (fun V u hu => sureSpot V u _ hu) (by kernel_rfl) (fun _ => by kernel_rfl) (fun w' hh => elem_Spot_l p0 r6 hb9 w' ) ?_
                refine TQ.look (.agg #[.int .i64 p1.key.pfs, .int .i64 p1.key.obj, .int .i64 p1.key.off, .int .i64 p1.made, .int .i64 p1.gone, .string p1.val]) (by kernel_rfl) (fun w' hh => exec_loadN (cs := [.int .i64 p1.key.pfs, .int .i64 p1.key.obj, .int .i64 p1.key.off, .int .i64 p1.made, .int .i64 p1.gone, .string p1.val]) rfl rfl (by kernel_rfl) (by kernel_rfl) (fun j u hj => (hh.box_at (i := 0) (cs := [.int .i64 p1.key.pfs, .int .i64 p1.key.obj, .int .i64 p1.key.off, .int .i64 p1.made, .int .i64 p1.gone, .string p1.val]) (by rfl) 0 j).trans (seg_at (n := 6) rfl hj))) ?_
                obtain ⟨r7, hb10, hX2⟩ := Option.bind_eq_some_iff.1 hX2
                refine TQ.call (vAg eSpot) r7 34 #[.agg #[.int .i64 p1.key.pfs, .int .i64 p1.key.obj, .int .i64 p1.key.off, .int .i64 p1.made, .int .i64 p1.gone, .string p1.val]] (.agg #[.int .i64 r7.key.pfs, .int .i64 r7.key.obj, .int .i64 r7.key.off, .int .i64 r7.made]) (fun V u hu => sureSpot V u _ hu) (by kernel_rfl) (fun _ => by kernel_rfl) (fun w' hh => elem_Spot_l p1 r7 hb10 w' ) ?_
                obtain ⟨r8, hb11, hX2⟩ := Option.bind_eq_some_iff.1 hX2
                refine TQ.call (vSc eInt) r8 27 #[.agg #[.int .i64 r6.key.pfs, .int .i64 r6.key.obj, .int .i64 r6.key.off, .int .i64 r6.made], .agg #[.int .i64 r7.key.pfs, .int .i64 r7.key.obj, .int .i64 r7.key.off, .int .i64 r7.made]] (.int .i64 r8) (fun V u hu => sureInt V u _ hu) (by kernel_rfl) (fun _ => by kernel_rfl) (fun w' hh => key_CmpSpot_l r6 r7 r8 hb11 w' ) ?_
                refine TQ.pure (.bool (r5 == r8)) (by kernel_rfl) (fun _ => by kernel_rfl) ?_
                refine TQ.pure (.bool (r5 == r8)) (by kernel_rfl) (fun _ => by kernel_rfl) ?_
                refine TQ.pure (.bool (r5 == r8)) (by kernel_rfl) (fun _ => by kernel_rfl) ?_
                refine TQ.nil ?_
                cases hX2
                exact fun a w' hf hh => And.intro ((Fr.nil hf).pick hf 4 rfl) (hh.sub (.cons _ (.cons _ List.Sublist.slnil)))
          ·
            rintro a w' ⟨hf, hh⟩
            refine (?_ : T 71 w V4 [] [(4, .bool z2)] _) a w' hf hh
            clear hf hh
            cases hF
            refine T.ret rfl ?_
            exact T.ret1 rfl (ResIs.tmp rfl) fun w' hh => ⟨_, rfl, hh.below, (show _ from rfl)⟩

set_option maxRecDepth 100000 in
set_option maxHeartbeats 4000000 in
theorem annalkeep_CodeBack_l (p0 : DElem) (p1 : DElem) (p2 : ByteArray) (p3 : Int) (r : Bool) (hF : annalkeep_CodeBack p0 p1 p2 p3 = some r) (w : World)  :
    Calls Try.prog 14 #[.agg #[.int .i64 p0.key.pfs, .int .i64 p0.key.obj, .int .i64 p0.key.off, .int .i64 p0.made, .int .i64 p0.gone, .string p0.val], .agg #[.int .i64 p1.key.pfs, .int .i64 p1.key.obj, .int .i64 p1.key.off, .int .i64 p1.made, .int .i64 p1.gone, .string p1.val], .string p2, .int .i64 p3] w (Post (vSc eBool) r w) := by
  unfold annalkeep_CodeBack at hF
  refine T.start (l := [.agg #[.int .i64 p0.key.pfs, .int .i64 p0.key.obj, .int .i64 p0.key.off, .int .i64 p0.made, .int .i64 p0.gone, .string p0.val], .agg #[.int .i64 p1.key.pfs, .int .i64 p1.key.obj, .int .i64 p1.key.off, .int .i64 p1.made, .int .i64 p1.gone, .string p1.val], .string p2, .int .i64 p3]) Try.func14 rfl rfl rfl ?_
  refine T.seq ?_
  refine T.region ?_
  refine T.step (W1.new 33 [.int .i64 p0.key.pfs, .int .i64 p0.key.obj, .int .i64 p0.key.off, .int .i64 p0.made, .int .i64 p0.gone, .string p0.val] (fun b => .pointer (some ⟨b, 0, none⟩)) (by kernel_rfl) (fun _ => by kernel_rfl) (fun b1 => ?_))
  refine T.step (W1.new 33 [.int .i64 p1.key.pfs, .int .i64 p1.key.obj, .int .i64 p1.key.off, .int .i64 p1.made, .int .i64 p1.gone, .string p1.val] (fun b => .pointer (some ⟨b, 0, none⟩)) (by kernel_rfl) (fun _ => by kernel_rfl) (fun b2 => ?_))
  refine T.pure (.bool false) (by kernel_rfl) (fun _ => by kernel_rfl) ?_
  refine T.nil ?_
  refine T.seq ?_
  refine T.seq ?_
  refine T.region ?_
  obtain ⟨r1, hb1, hF⟩ := Option.bind_eq_some_iff.1 hF
  refine T.step (W1.call (vAg eElem) r1 32 #[.int .i64 1, .string (ByteArray.mk #[97, 98])] (by kernel_rfl) (fun _ => by kernel_rfl) (fun w' hh => annalkeep_at1_l 1 (ByteArray.mk #[97, 98]) r1 hb1 w' ) ?_)
  intro u V1 hV1 hu
  obtain rfl := sureElem _ _ _ hu
  obtain ⟨r2, hb2, hF⟩ := Option.bind_eq_some_iff.1 hF
  refine T.step (W1.call (vT2 (vSc eStr) (vSc eInt)) r2 31 #[.agg #[.int .i64 r1.key.pfs, .int .i64 r1.key.obj, .int .i64 r1.key.off, .int .i64 r1.made, .int .i64 r1.gone, .string r1.val]] (by kernel_rfl) (fun _ => by kernel_rfl) (fun w' hh => code_Write_l r1 r2 hb2 w' ) ?_)
  intro u V2 hV2 hu
  obtain rfl := (Sure.t2 sureStr sureInt) _ _ _ hu
  refine T.pure (.tuple #[.string r2.1, .int .i64 r2.2]) (by kernel_rfl) (fun _ => by kernel_rfl) ?_
  refine T.pure (.string r2.1) (by kernel_rfl) (fun _ => by kernel_rfl) ?_
  refine T.pure (.int .i64 r2.2) (by kernel_rfl) (fun _ => by kernel_rfl) ?_
  refine T.pure (.string r2.1) (by kernel_rfl) (fun _ => by kernel_rfl) ?_
  refine T.pure (.int .i64 r2.2) (by kernel_rfl) (fun _ => by kernel_rfl) ?_
  refine T.nil ?_
  refine T.cut (fun a w' => Fr 106 [(2, .string p2), (3, .int .i64 p3), (4, .pointer (some ⟨b1, 0, none⟩)), (5, .pointer (some ⟨b2, 0, none⟩)), (31, .bool ((r2.2 != 0) || ((r2.1.size : Int) != 20)))] a ∧ Hp w V2 [box b2 33 [.int .i64 p1.key.pfs, .int .i64 p1.key.obj, .int .i64 p1.key.off, .int .i64 p1.made, .int .i64 p1.gone, .string p1.val], box b1 33 [.int .i64 p0.key.pfs, .int .i64 p0.key.obj, .int .i64 p0.key.off, .int .i64 p0.made, .int .i64 p0.gone, .string p0.val]] w') ?_ ?_
  ·
    refine T.region ?_
    refine T.pure (.int .i64 r2.2) (by kernel_rfl) (fun _ => by kernel_rfl) ?_
    refine T.pure (.bool (r2.2 != 0)) (by kernel_rfl) (fun _ => by kernel_rfl) ?_
    refine T.pure (.bool (r2.2 != 0)) (by kernel_rfl) (fun _ => by kernel_rfl) ?_
    cases hg1 : (r2.2 != 0)
    ·
      skip
      refine T.pure (.string r2.1) (by kernel_rfl) (fun _ => by kernel_rfl) ?_
      refine T.pure (.int .i64 (r2.1.size : Int)) (by kernel_rfl) (fun _ => by kernel_rfl) ?_
      refine T.pure (.bool ((r2.1.size : Int) != 20)) (by kernel_rfl) (fun _ => by kernel_rfl) ?_
      refine T.pure (.bool ((r2.1.size : Int) != 20)) (by kernel_rfl) (fun _ => by kernel_rfl) ?_
      refine T.nil ?_
      exact fun a w' hf hh => And.intro ((((((Fr.nil hf).pick hf 31 rfl).pick hf 5 rfl).pick hf 4 rfl).pick hf 3 rfl).pick hf 2 rfl) (hh.sub (.cons_cons _ (.cons_cons _ List.Sublist.slnil)))
    ·
      skip
      refine T.pass (by kernel_rfl) (by kernel_rfl) ?_
      refine T.pass (by kernel_rfl) (by kernel_rfl) ?_
      refine T.pass (by kernel_rfl) (by kernel_rfl) ?_
      refine T.pure (.bool true) (by kernel_rfl) (fun _ => by kernel_rfl) ?_
      refine T.nil ?_
      exact fun a w' hf hh => And.intro ((((((Fr.nil hf).pick hf 31 rfl).pick hf 5 rfl).pick hf 4 rfl).pick hf 3 rfl).pick hf 2 rfl) (hh.sub (.cons_cons _ (.cons_cons _ List.Sublist.slnil)))
  ·
    rintro a w' ⟨hf, hh⟩
    refine (?_ : T 106 w V2 [box b2 33 [.int .i64 p1.key.pfs, .int .i64 p1.key.obj, .int .i64 p1.key.off, .int .i64 p1.made, .int .i64 p1.gone, .string p1.val], box b1 33 [.int .i64 p0.key.pfs, .int .i64 p0.key.obj, .int .i64 p0.key.off, .int .i64 p0.made, .int .i64 p0.gone, .string p0.val]] [(2, .string p2), (3, .int .i64 p3), (4, .pointer (some ⟨b1, 0, none⟩)), (5, .pointer (some ⟨b2, 0, none⟩)), (31, .bool ((r2.2 != 0) || ((r2.1.size : Int) != 20)))] _) a w' hf hh
    clear hf hh
    refine T.cond ((r2.2 != 0) || ((r2.1.size : Int) != 20)) (by kernel_rfl) (by kernel_rfl) (fun hc1 => ?_) (fun hc1 => ?_)
    ·
      rw [hc1, cond_true] at hF
      refine T.seq ?_
      refine T.region ?_
      refine T.pure (.bool false) (by kernel_rfl) (fun _ => by kernel_rfl) ?_
      refine T.nil ?_
      cases hF
      refine T.ret rfl ?_
      exact T.ret1 rfl (ResIs.tmp rfl) fun w' hh => ⟨_, rfl, hh.below, (show _ from rfl)⟩
    ·
      rw [hc1, cond_false] at hF
      refine T.skip_code ?_
      refine T.seq ?_
      refine T.region ?_
      refine T.look (.agg #[.int .i64 p0.key.pfs, .int .i64 p0.key.obj, .int .i64 p0.key.off, .int .i64 p0.made, .int .i64 p0.gone, .string p0.val]) (by kernel_rfl) (fun w' hh => exec_loadN (cs := [.int .i64 p0.key.pfs, .int .i64 p0.key.obj, .int .i64 p0.key.off, .int .i64 p0.made, .int .i64 p0.gone, .string p0.val]) rfl rfl (by kernel_rfl) (by kernel_rfl) (fun j u hj => (hh.box_at (i := 1) (cs := [.int .i64 p0.key.pfs, .int .i64 p0.key.obj, .int .i64 p0.key.off, .int .i64 p0.made, .int .i64 p0.gone, .string p0.val]) (by rfl) 0 j).trans (seg_at (n := 6) rfl hj))) ?_
      obtain ⟨r3, hb3, hF⟩ := Option.bind_eq_some_iff.1 hF
      refine T.step (W1.call (vT2 (vSc eStr) (vSc eInt)) r3 31 #[.agg #[.int .i64 p0.key.pfs, .int .i64 p0.key.obj, .int .i64 p0.key.off, .int .i64 p0.made, .int .i64 p0.gone, .string p0.val]] (by kernel_rfl) (fun _ => by kernel_rfl) (fun w' hh => code_Write_l p0 r3 hb3 w' ) ?_)
      intro u V3 hV3 hu
      obtain rfl := (Sure.t2 sureStr sureInt) _ _ _ hu
      refine T.pure (.tuple #[.string r3.1, .int .i64 r3.2]) (by kernel_rfl) (fun _ => by kernel_rfl) ?_
      refine T.pure (.string r3.1) (by kernel_rfl) (fun _ => by kernel_rfl) ?_
      refine T.pure (.int .i64 r3.2) (by kernel_rfl) (fun _ => by kernel_rfl) ?_
      refine T.pure (.string r3.1) (by kernel_rfl) (fun _ => by kernel_rfl) ?_
      refine T.pure (.int .i64 r3.2) (by kernel_rfl) (fun _ => by kernel_rfl) ?_
      refine T.nil ?_
      refine T.seq ?_
      refine T.seq ?_
      refine T.region ?_
      refine T.pure (.int .i64 r3.2) (by kernel_rfl) (fun _ => by kernel_rfl) ?_
      refine T.pure (.bool (r3.2 != 0)) (by kernel_rfl) (fun _ => by kernel_rfl) ?_
      refine T.nil ?_
      refine T.cond (r3.2 != 0) (by kernel_rfl) (by kernel_rfl) (fun hc2 => ?_) (fun hc2 => ?_)
      ·
        rw [hc2, cond_true] at hF
        obtain ⟨z1, hX1, hF⟩ := Option.bind_eq_some_iff.1 hF
        refine T.cut (fun a w' => ∃ (V4 : View), View.le V3 V4 ∧ Fr 106 [(8, .bool z1)] a ∧ Hp w V4 [] w') ?_ ?_
        ·
          refine T.region ?_
          refine T.pure (.string r3.1) (by kernel_rfl) (fun _ => by kernel_rfl) ?_
          refine T.pure (.bool (seq r3.1 (ByteArray.mk #[]))) (by kernel_rfl) (fun _ => by kernel_rfl) ?_
          refine T.pure (.bool (seq r3.1 (ByteArray.mk #[]))) (by kernel_rfl) (fun _ => by kernel_rfl) ?_
          cases hg2 : (seq r3.1 (ByteArray.mk #[]))
          ·
            skip
            rw [hg2, cond_false] at hX1
            refine T.pass (by kernel_rfl) (by kernel_rfl) ?_
            refine T.pass (by kernel_rfl) (by kernel_rfl) ?_
            refine T.pass (by kernel_rfl) (by kernel_rfl) ?_
            refine T.pass (by kernel_rfl) (by kernel_rfl) ?_
            refine T.pure (.bool false) (by kernel_rfl) (fun _ => by kernel_rfl) ?_
            refine T.pure (.bool false) (by kernel_rfl) (fun _ => by kernel_rfl) ?_
            refine T.nil ?_
            cases hX1
            exact fun a w' hf hh => Exists.intro V3 (And.intro (View.le_refl _) (And.intro ((Fr.nil hf).pick hf 8 rfl) (hh.sub (.cons _ (.cons _ List.Sublist.slnil)))))
          ·
            skip
            rw [hg2, cond_true] at hX1
            refine T.pure (.int .i64 r3.2) (by kernel_rfl) (fun _ => by kernel_rfl) ?_
            refine T.look (.agg #[.int .i64 p0.key.pfs, .int .i64 p0.key.obj, .int .i64 p0.key.off, .int .i64 p0.made, .int .i64 p0.gone, .string p0.val]) (by kernel_rfl) (fun w' hh => exec_loadN (cs := [.int .i64 p0.key.pfs, .int .i64 p0.key.obj, .int .i64 p0.key.off, .int .i64 p0.made, .int .i64 p0.gone, .string p0.val]) rfl rfl (by kernel_rfl) (by kernel_rfl) (fun j u hj => (hh.box_at (i := 1) (cs := [.int .i64 p0.key.pfs, .int .i64 p0.key.obj, .int .i64 p0.key.off, .int .i64 p0.made, .int .i64 p0.gone, .string p0.val]) (by rfl) 0 j).trans (seg_at (n := 6) rfl hj))) ?_
            obtain ⟨r4, hb4, hX1⟩ := Option.bind_eq_some_iff.1 hX1
            refine T.step (W1.call (vSc eInt) r4 25 #[.agg #[.int .i64 p0.key.pfs, .int .i64 p0.key.obj, .int .i64 p0.key.off, .int .i64 p0.made, .int .i64 p0.gone, .string p0.val]] (by kernel_rfl) (fun _ => by kernel_rfl) (fun w' hh => elem_Check_l p0 r4 hb4 w' ) ?_)
            intro u V5 hV5 hu
            obtain rfl := sureInt _ _ _ hu
            refine T.pure (.bool (r3.2 == r4)) (by kernel_rfl) (fun _ => by kernel_rfl) ?_
            refine T.pure (.bool (r3.2 == r4)) (by kernel_rfl) (fun _ => by kernel_rfl) ?_
            refine T.pure (.bool (r3.2 == r4)) (by kernel_rfl) (fun _ => by kernel_rfl) ?_
            refine T.nil ?_
            cases hX1
            exact fun a w' hf hh => Exists.intro V5 (And.intro hV5 (And.intro ((Fr.nil hf).pick hf 8 rfl) (hh.sub (.cons _ (.cons _ List.Sublist.slnil)))))
        ·
          rintro a w' ⟨V4, hV4, hf, hh⟩
          refine (?_ : T 106 w V4 [] [(8, .bool z1)] _) a w' hf hh
          clear hf hh
          cases hF
          refine T.ret rfl ?_
          exact T.ret1 rfl (ResIs.tmp rfl) fun w' hh => ⟨_, rfl, hh.below, (show _ from rfl)⟩
      ·
        rw [hc2, cond_false] at hF
        refine T.skip_code ?_
        refine T.seq ?_
        refine T.region ?_
        refine T.pure (.string r3.1) (by kernel_rfl) (fun _ => by kernel_rfl) ?_
        refine T.pure (.string p2) (by kernel_rfl) (fun _ => by kernel_rfl) ?_
        obtain ⟨s1, hb5, hF⟩ := Option.bind_eq_some_iff.1 hF
        refine T.look (.string s1) (by kernel_rfl) (fun w' hh => exec_scat rfl rfl rfl hb5) ?_
        obtain ⟨r5, hb6, hF⟩ := Option.bind_eq_some_iff.1 hF
        refine T.step (W1.call (vT3 (vAg eElem) (vSc eInt) (vSc eInt)) r5 30 #[.string s1] (by kernel_rfl) (fun _ => by kernel_rfl) (fun w' hh => code_Get_l s1 r5 hb6 w' ) ?_)
        intro u V6 hV6 hu
        obtain rfl := (Sure.t3 sureElem sureInt sureInt) _ _ _ hu
        refine T.pure (.tuple #[.agg #[.int .i64 r5.1.key.pfs, .int .i64 r5.1.key.obj, .int .i64 r5.1.key.off, .int .i64 r5.1.made, .int .i64 r5.1.gone, .string r5.1.val], .int .i64 r5.2.1, .int .i64 r5.2.2]) (by kernel_rfl) (fun _ => by kernel_rfl) ?_
        refine T.pure (.agg #[.int .i64 r5.1.key.pfs, .int .i64 r5.1.key.obj, .int .i64 r5.1.key.off, .int .i64 r5.1.made, .int .i64 r5.1.gone, .string r5.1.val]) (by kernel_rfl) (fun _ => by kernel_rfl) ?_
        refine T.pure (.int .i64 r5.2.1) (by kernel_rfl) (fun _ => by kernel_rfl) ?_
        refine T.pure (.int .i64 r5.2.2) (by kernel_rfl) (fun _ => by kernel_rfl) ?_
        refine T.step (W1.new 33 [.int .i64 0, .int .i64 0, .int .i64 0, .int .i64 0, .int .i64 0, .string (ByteArray.mk #[])] (fun b => .pointer (some ⟨b, 0, none⟩)) (by kernel_rfl) (fun _ => by kernel_rfl) (fun b3 => ?_))
        refine T.step (W1.store 0 [.int .i64 r5.1.key.pfs, .int .i64 r5.1.key.obj, .int .i64 r5.1.key.off, .int .i64 r5.1.made, .int .i64 r5.1.gone, .string r5.1.val] [box b3 33 [.int .i64 r5.1.key.pfs, .int .i64 r5.1.key.obj, .int .i64 r5.1.key.off, .int .i64 r5.1.made, .int .i64 r5.1.gone, .string r5.1.val], box b2 33 [.int .i64 p1.key.pfs, .int .i64 p1.key.obj, .int .i64 p1.key.off, .int .i64 p1.made, .int .i64 p1.gone, .string p1.val], box b1 33 [.int .i64 p0.key.pfs, .int .i64 p0.key.obj, .int .i64 p0.key.off, .int .i64 p0.made, .int .i64 p0.gone, .string p0.val]] (by rfl) rfl (by kernel_rfl) (fun w' hw => exec_store (vs := [.int .i64 r5.1.key.pfs, .int .i64 r5.1.key.obj, .int .i64 r5.1.key.off, .int .i64 r5.1.made, .int .i64 r5.1.gone, .string r5.1.val]) rfl rfl rfl rfl (by kernel_rfl) (one_of rfl) (by simp) rfl hw) ?_)
        refine T.pure (.int .i64 r5.2.1) (by kernel_rfl) (fun _ => by kernel_rfl) ?_
        refine T.pure (.int .i64 r5.2.2) (by kernel_rfl) (fun _ => by kernel_rfl) ?_
        refine T.nil ?_
        refine T.seq ?_
        refine T.region ?_
        refine T.pure (.string r3.1) (by kernel_rfl) (fun _ => by kernel_rfl) ?_
        refine T.pure (.int .i64 p3) (by kernel_rfl) (fun _ => by kernel_rfl) ?_
        refine T.pure (.string r3.1) (by kernel_rfl) (fun _ => by kernel_rfl) ?_
        refine T.pure (.int .i64 (r3.1.size : Int)) (by kernel_rfl) (fun _ => by kernel_rfl) ?_
        obtain ⟨r6, hb7, hF⟩ := Option.bind_eq_some_iff.1 hF
        refine T.step (W1.call (vSc eInt) r6 22 #[.int .i64 p3, .int .i64 (r3.1.size : Int)] (by kernel_rfl) (fun _ => by kernel_rfl) (fun w' hh => annalkeep_Within_l p3 (r3.1.size : Int) r6 hb7 w' ) ?_)
        intro u V7 hV7 hu
        obtain rfl := sureInt _ _ _ hu
        obtain ⟨s2, hb8, hF⟩ := Option.bind_eq_some_iff.1 hF
        refine T.look (.string s2) (by kernel_rfl) (fun w' hh => exec_slice_str_hi rfl rfl rfl (by kernel_rfl) hb8) ?_
        obtain ⟨r7, hb9, hF⟩ := Option.bind_eq_some_iff.1 hF
        refine T.step (W1.call (vT3 (vAg eElem) (vSc eInt) (vSc eInt)) r7 30 #[.string s2] (by kernel_rfl) (fun _ => by kernel_rfl) (fun w' hh => code_Get_l s2 r7 hb9 w' ) ?_)
        intro u V8 hV8 hu
        obtain rfl := (Sure.t3 sureElem sureInt sureInt) _ _ _ hu
        refine T.pure (.tuple #[.agg #[.int .i64 r7.1.key.pfs, .int .i64 r7.1.key.obj, .int .i64 r7.1.key.off, .int .i64 r7.1.made, .int .i64 r7.1.gone, .string r7.1.val], .int .i64 r7.2.1, .int .i64 r7.2.2]) (by kernel_rfl) (fun _ => by kernel_rfl) ?_
        refine T.pure (.agg #[.int .i64 r7.1.key.pfs, .int .i64 r7.1.key.obj, .int .i64 r7.1.key.off, .int .i64 r7.1.made, .int .i64 r7.1.gone, .string r7.1.val]) (by kernel_rfl) (fun _ => by kernel_rfl) ?_
        refine T.pure (.int .i64 r7.2.1) (by kernel_rfl) (fun _ => by kernel_rfl) ?_
        refine T.pure (.int .i64 r7.2.2) (by kernel_rfl) (fun _ => by kernel_rfl) ?_
        refine T.step (W1.new 33 [.int .i64 0, .int .i64 0, .int .i64 0, .int .i64 0, .int .i64 0, .string (ByteArray.mk #[])] (fun b => .pointer (some ⟨b, 0, none⟩)) (by kernel_rfl) (fun _ => by kernel_rfl) (fun b4 => ?_))
        refine T.step (W1.store 0 [.int .i64 r7.1.key.pfs, .int .i64 r7.1.key.obj, .int .i64 r7.1.key.off, .int .i64 r7.1.made, .int .i64 r7.1.gone, .string r7.1.val] [box b4 33 [.int .i64 r7.1.key.pfs, .int .i64 r7.1.key.obj, .int .i64 r7.1.key.off, .int .i64 r7.1.made, .int .i64 r7.1.gone, .string r7.1.val], box b3 33 [.int .i64 r5.1.key.pfs, .int .i64 r5.1.key.obj, .int .i64 r5.1.key.off, .int .i64 r5.1.made, .int .i64 r5.1.gone, .string r5.1.val], box b2 33 [.int .i64 p1.key.pfs, .int .i64 p1.key.obj, .int .i64 p1.key.off, .int .i64 p1.made, .int .i64 p1.gone, .string p1.val], box b1 33 [.int .i64 p0.key.pfs, .int .i64 p0.key.obj, .int .i64 p0.key.off, .int .i64 p0.made, .int .i64 p0.gone, .string p0.val]] (by rfl) rfl (by kernel_rfl) (fun w' hw => exec_store (vs := [.int .i64 r7.1.key.pfs, .int .i64 r7.1.key.obj, .int .i64 r7.1.key.off, .int .i64 r7.1.made, .int .i64 r7.1.gone, .string r7.1.val]) rfl rfl rfl rfl (by kernel_rfl) (one_of rfl) (by simp) rfl hw) ?_)
        refine T.pure (.int .i64 r7.2.1) (by kernel_rfl) (fun _ => by kernel_rfl) ?_
        refine T.pure (.int .i64 r7.2.2) (by kernel_rfl) (fun _ => by kernel_rfl) ?_
        refine T.nil ?_
        refine T.seq ?_
        refine T.cut (fun a w' => Fr 106 [(4, .pointer (some ⟨b1, 0, none⟩)), (5, .pointer (some ⟨b2, 0, none⟩)), (11, .string r3.1), (82, .bool ((r5.2.2 != 0) || ((!(r5.1 == p0)) || ((r5.2.1 != (r3.1.size : Int)) || (r7.2.2 != 7)))))] a ∧ Hp w V8 [box b2 33 [.int .i64 p1.key.pfs, .int .i64 p1.key.obj, .int .i64 p1.key.off, .int .i64 p1.made, .int .i64 p1.gone, .string p1.val], box b1 33 [.int .i64 p0.key.pfs, .int .i64 p0.key.obj, .int .i64 p0.key.off, .int .i64 p0.made, .int .i64 p0.gone, .string p0.val]] w') ?_ ?_
        ·
          refine T.region ?_
          refine T.pure (.int .i64 r5.2.2) (by kernel_rfl) (fun _ => by kernel_rfl) ?_
          refine T.pure (.bool (r5.2.2 != 0)) (by kernel_rfl) (fun _ => by kernel_rfl) ?_
          refine T.pure (.bool (r5.2.2 != 0)) (by kernel_rfl) (fun _ => by kernel_rfl) ?_
          cases hg3 : (r5.2.2 != 0)
          ·
            skip
            refine T.look (.agg #[.int .i64 r5.1.key.pfs, .int .i64 r5.1.key.obj, .int .i64 r5.1.key.off, .int .i64 r5.1.made, .int .i64 r5.1.gone, .string r5.1.val]) (by kernel_rfl) (fun w' hh => exec_loadN (cs := [.int .i64 r5.1.key.pfs, .int .i64 r5.1.key.obj, .int .i64 r5.1.key.off, .int .i64 r5.1.made, .int .i64 r5.1.gone, .string r5.1.val]) rfl rfl (by kernel_rfl) (by kernel_rfl) (fun j u hj => (hh.box_at (i := 1) (cs := [.int .i64 r5.1.key.pfs, .int .i64 r5.1.key.obj, .int .i64 r5.1.key.off, .int .i64 r5.1.made, .int .i64 r5.1.gone, .string r5.1.val]) (by rfl) 0 j).trans (seg_at (n := 6) rfl hj))) ?_
            refine T.look (.agg #[.int .i64 p0.key.pfs, .int .i64 p0.key.obj, .int .i64 p0.key.off, .int .i64 p0.made, .int .i64 p0.gone, .string p0.val]) (by kernel_rfl) (fun w' hh => exec_loadN (cs := [.int .i64 p0.key.pfs, .int .i64 p0.key.obj, .int .i64 p0.key.off, .int .i64 p0.made, .int .i64 p0.gone, .string p0.val]) rfl rfl (by kernel_rfl) (by kernel_rfl) (fun j u hj => (hh.box_at (i := 3) (cs := [.int .i64 p0.key.pfs, .int .i64 p0.key.obj, .int .i64 p0.key.off, .int .i64 p0.made, .int .i64 p0.gone, .string p0.val]) (by rfl) 0 j).trans (seg_at (n := 6) rfl hj))) ?_
            refine T.look (.bool (!(r5.1 == p0))) (by kernel_rfl) (fun w' hh => exec_neq_DElem r5.1 p0 w' rfl rfl rfl) ?_
            refine T.pure (.bool (!(r5.1 == p0))) (by kernel_rfl) (fun _ => by kernel_rfl) ?_
            refine T.pure (.bool (!(r5.1 == p0))) (by kernel_rfl) (fun _ => by kernel_rfl) ?_
            cases hg4 : (!(r5.1 == p0))
            ·
              skip
              refine T.pure (.int .i64 r5.2.1) (by kernel_rfl) (fun _ => by kernel_rfl) ?_
              refine T.pure (.string r3.1) (by kernel_rfl) (fun _ => by kernel_rfl) ?_
              refine T.pure (.int .i64 (r3.1.size : Int)) (by kernel_rfl) (fun _ => by kernel_rfl) ?_
              refine T.pure (.bool (r5.2.1 != (r3.1.size : Int))) (by kernel_rfl) (fun _ => by kernel_rfl) ?_
              refine T.pure (.bool (r5.2.1 != (r3.1.size : Int))) (by kernel_rfl) (fun _ => by kernel_rfl) ?_
              refine T.pure (.bool (r5.2.1 != (r3.1.size : Int))) (by kernel_rfl) (fun _ => by kernel_rfl) ?_
              cases hg5 : (r5.2.1 != (r3.1.size : Int))
              ·
                skip
                refine T.pure (.int .i64 r7.2.2) (by kernel_rfl) (fun _ => by kernel_rfl) ?_
                refine T.pure (.bool (r7.2.2 != 7)) (by kernel_rfl) (fun _ => by kernel_rfl) ?_
                refine T.pure (.bool (r7.2.2 != 7)) (by kernel_rfl) (fun _ => by kernel_rfl) ?_
                refine T.nil ?_
                exact fun a w' hf hh => And.intro (((((Fr.nil hf).pick hf 82 rfl).pick hf 11 rfl).pick hf 5 rfl).pick hf 4 rfl) (hh.sub (.cons _ (.cons _ (.cons_cons _ (.cons_cons _ List.Sublist.slnil)))))
              ·
                skip
                refine T.pass (by kernel_rfl) (by kernel_rfl) ?_
                refine T.pass (by kernel_rfl) (by kernel_rfl) ?_
                refine T.pure (.bool true) (by kernel_rfl) (fun _ => by kernel_rfl) ?_
                refine T.nil ?_
                exact fun a w' hf hh => And.intro (((((Fr.nil hf).pick hf 82 rfl).pick hf 11 rfl).pick hf 5 rfl).pick hf 4 rfl) (hh.sub (.cons _ (.cons _ (.cons_cons _ (.cons_cons _ List.Sublist.slnil)))))
            ·
              skip
              refine T.pass (by kernel_rfl) (by kernel_rfl) ?_
              refine T.pass (by kernel_rfl) (by kernel_rfl) ?_
              refine T.pass (by kernel_rfl) (by kernel_rfl) ?_
              refine T.pass (by kernel_rfl) (by kernel_rfl) ?_
              refine T.pure (.bool true) (by kernel_rfl) (fun _ => by kernel_rfl) ?_
              refine T.pure (.bool true) (by kernel_rfl) (fun _ => by kernel_rfl) ?_
              refine T.pass (by kernel_rfl) (by kernel_rfl) ?_
              refine T.pass (by kernel_rfl) (by kernel_rfl) ?_
              refine T.pure (.bool true) (by kernel_rfl) (fun _ => by kernel_rfl) ?_
              refine T.nil ?_
              exact fun a w' hf hh => And.intro (((((Fr.nil hf).pick hf 82 rfl).pick hf 11 rfl).pick hf 5 rfl).pick hf 4 rfl) (hh.sub (.cons _ (.cons _ (.cons_cons _ (.cons_cons _ List.Sublist.slnil)))))
          ·
            skip
            refine T.pass (by kernel_rfl) (by kernel_rfl) ?_
            refine T.pass (by kernel_rfl) (by kernel_rfl) ?_
            refine T.pass (by kernel_rfl) (by kernel_rfl) ?_
            refine T.pure (.bool true) (by kernel_rfl) (fun _ => by kernel_rfl) ?_
            refine T.pure (.bool true) (by kernel_rfl) (fun _ => by kernel_rfl) ?_
            refine T.pass (by kernel_rfl) (by kernel_rfl) ?_
            refine T.pass (by kernel_rfl) (by kernel_rfl) ?_
            refine T.pass (by kernel_rfl) (by kernel_rfl) ?_
            refine T.pass (by kernel_rfl) (by kernel_rfl) ?_
            refine T.pure (.bool true) (by kernel_rfl) (fun _ => by kernel_rfl) ?_
            refine T.pure (.bool true) (by kernel_rfl) (fun _ => by kernel_rfl) ?_
            refine T.pass (by kernel_rfl) (by kernel_rfl) ?_
            refine T.pass (by kernel_rfl) (by kernel_rfl) ?_
            refine T.pure (.bool true) (by kernel_rfl) (fun _ => by kernel_rfl) ?_
            refine T.nil ?_
            exact fun a w' hf hh => And.intro (((((Fr.nil hf).pick hf 82 rfl).pick hf 11 rfl).pick hf 5 rfl).pick hf 4 rfl) (hh.sub (.cons _ (.cons _ (.cons_cons _ (.cons_cons _ List.Sublist.slnil)))))
        ·
          rintro a w' ⟨hf, hh⟩
          refine (?_ : T 106 w V8 [box b2 33 [.int .i64 p1.key.pfs, .int .i64 p1.key.obj, .int .i64 p1.key.off, .int .i64 p1.made, .int .i64 p1.gone, .string p1.val], box b1 33 [.int .i64 p0.key.pfs, .int .i64 p0.key.obj, .int .i64 p0.key.off, .int .i64 p0.made, .int .i64 p0.gone, .string p0.val]] [(4, .pointer (some ⟨b1, 0, none⟩)), (5, .pointer (some ⟨b2, 0, none⟩)), (11, .string r3.1), (82, .bool ((r5.2.2 != 0) || ((!(r5.1 == p0)) || ((r5.2.1 != (r3.1.size : Int)) || (r7.2.2 != 7)))))] _) a w' hf hh
          clear hf hh
          refine T.cond ((r5.2.2 != 0) || ((!(r5.1 == p0)) || ((r5.2.1 != (r3.1.size : Int)) || (r7.2.2 != 7)))) (by kernel_rfl) (by kernel_rfl) (fun hc3 => ?_) (fun hc3 => ?_)
          ·
            rw [hc3, cond_true] at hF
            refine T.seq ?_
            refine T.region ?_
            refine T.pure (.bool false) (by kernel_rfl) (fun _ => by kernel_rfl) ?_
            refine T.nil ?_
            cases hF
            refine T.ret rfl ?_
            exact T.ret1 rfl (ResIs.tmp rfl) fun w' hh => ⟨_, rfl, hh.below, (show _ from rfl)⟩
          ·
            rw [hc3, cond_false] at hF
            refine T.skip_code ?_
            refine T.seq ?_
            refine T.region ?_
            refine T.look (.agg #[.int .i64 p1.key.pfs, .int .i64 p1.key.obj, .int .i64 p1.key.off, .int .i64 p1.made, .int .i64 p1.gone, .string p1.val]) (by kernel_rfl) (fun w' hh => exec_loadN (cs := [.int .i64 p1.key.pfs, .int .i64 p1.key.obj, .int .i64 p1.key.off, .int .i64 p1.made, .int .i64 p1.gone, .string p1.val]) rfl rfl (by kernel_rfl) (by kernel_rfl) (fun j u hj => (hh.box_at (i := 0) (cs := [.int .i64 p1.key.pfs, .int .i64 p1.key.obj, .int .i64 p1.key.off, .int .i64 p1.made, .int .i64 p1.gone, .string p1.val]) (by rfl) 0 j).trans (seg_at (n := 6) rfl hj))) ?_
            obtain ⟨r8, hb10, hF⟩ := Option.bind_eq_some_iff.1 hF
            refine T.step (W1.call (vT2 (vSc eStr) (vSc eInt)) r8 31 #[.agg #[.int .i64 p1.key.pfs, .int .i64 p1.key.obj, .int .i64 p1.key.off, .int .i64 p1.made, .int .i64 p1.gone, .string p1.val]] (by kernel_rfl) (fun _ => by kernel_rfl) (fun w' hh => code_Write_l p1 r8 hb10 w' ) ?_)
            intro u V9 hV9 hu
            obtain rfl := (Sure.t2 sureStr sureInt) _ _ _ hu
            refine T.pure (.tuple #[.string r8.1, .int .i64 r8.2]) (by kernel_rfl) (fun _ => by kernel_rfl) ?_
            refine T.pure (.string r8.1) (by kernel_rfl) (fun _ => by kernel_rfl) ?_
            refine T.pure (.int .i64 r8.2) (by kernel_rfl) (fun _ => by kernel_rfl) ?_
            refine T.pure (.string r8.1) (by kernel_rfl) (fun _ => by kernel_rfl) ?_
            refine T.pure (.int .i64 r8.2) (by kernel_rfl) (fun _ => by kernel_rfl) ?_
            refine T.nil ?_
            refine T.seq ?_
            refine T.seq ?_
            refine T.region ?_
            refine T.pure (.int .i64 r8.2) (by kernel_rfl) (fun _ => by kernel_rfl) ?_
            refine T.pure (.bool (r8.2 != 0)) (by kernel_rfl) (fun _ => by kernel_rfl) ?_
            refine T.nil ?_
            refine T.cond (r8.2 != 0) (by kernel_rfl) (by kernel_rfl) (fun hc4 => ?_) (fun hc4 => ?_)
            ·
              rw [hc4, cond_true] at hF
              refine T.seq ?_
              refine T.region ?_
              refine T.pure (.bool true) (by kernel_rfl) (fun _ => by kernel_rfl) ?_
              refine T.nil ?_
              cases hF
              refine T.ret rfl ?_
              exact T.ret1 rfl (ResIs.tmp rfl) fun w' hh => ⟨_, rfl, hh.below, (show _ from rfl)⟩
            ·
              rw [hc4, cond_false] at hF
              refine T.skip_code ?_
              refine T.seq ?_
              refine T.region ?_
              refine T.pure (.string r3.1) (by kernel_rfl) (fun _ => by kernel_rfl) ?_
              refine T.pure (.string r8.1) (by kernel_rfl) (fun _ => by kernel_rfl) ?_
              obtain ⟨s3, hb11, hF⟩ := Option.bind_eq_some_iff.1 hF
              refine T.look (.string s3) (by kernel_rfl) (fun w' hh => exec_scat rfl rfl rfl hb11) ?_
              obtain ⟨r9, hb12, hF⟩ := Option.bind_eq_some_iff.1 hF
              refine T.step (W1.call (vT2 (vSc (eList eElem)) (vSc eInt)) r9 35 #[.string s3] (by kernel_rfl) (fun _ => by kernel_rfl) (fun w' hh => code_All_l s3 r9 hb12 w' ) ?_)
              intro u V10 hV10 hu
              obtain ⟨u1, u2, rfl, hu1, hu2⟩ := vT2_elim hu
              obtain ⟨A1, c1, rfl, hs1⟩ := vlist_elim hu1
              obtain rfl := sureInt _ _ _ hu2
              refine T.pure (.tuple #[.slice A1 r9.1.length c1, .int .i64 r9.2]) (by kernel_rfl) (fun _ => by kernel_rfl) ?_
              refine T.pure (.slice A1 r9.1.length c1) (by kernel_rfl) (fun _ => by kernel_rfl) ?_
              refine T.pure (.int .i64 r9.2) (by kernel_rfl) (fun _ => by kernel_rfl) ?_
              refine T.pure (.slice A1 r9.1.length c1) (by kernel_rfl) (fun _ => by kernel_rfl) ?_
              refine T.pure (.int .i64 r9.2) (by kernel_rfl) (fun _ => by kernel_rfl) ?_
              refine T.nil ?_
              obtain ⟨z2, hX2, hF⟩ := Option.bind_eq_some_iff.1 hF
              refine T.cut (fun a w' => ∃ (V11 : View), View.le V10 V11 ∧ Fr 106 [(8, .bool z2)] a ∧ Hp w V11 [] w') ?_ ?_
              ·
                refine T.region ?_
                refine T.pure (.int .i64 r9.2) (by kernel_rfl) (fun _ => by kernel_rfl) ?_
                refine T.pure (.bool (r9.2 == 0)) (by kernel_rfl) (fun _ => by kernel_rfl) ?_
                refine T.pure (.bool (r9.2 == 0)) (by kernel_rfl) (fun _ => by kernel_rfl) ?_
                cases hg6 : (r9.2 == 0)
                ·
                  skip
                  rw [hg6, cond_false] at hX2
                  refine T.pass (by kernel_rfl) (by kernel_rfl) ?_
                  refine T.pass (by kernel_rfl) (by kernel_rfl) ?_
                  refine T.pass (by kernel_rfl) (by kernel_rfl) ?_
                  refine T.pass (by kernel_rfl) (by kernel_rfl) ?_
                  refine T.pass (by kernel_rfl) (by kernel_rfl) ?_
                  refine T.pure (.bool false) (by kernel_rfl) (fun _ => by kernel_rfl) ?_
                  refine T.pure (.bool false) (by kernel_rfl) (fun _ => by kernel_rfl) ?_
                  refine T.nil ?_
                  cases hX2
                  exact fun a w' hf hh => Exists.intro V10 (And.intro (View.le_refl _) (And.intro ((Fr.nil hf).pick hf 8 rfl) (hh.sub (.cons _ (.cons _ List.Sublist.slnil)))))
                ·
                  skip
                  rw [hg6, cond_true] at hX2
                  refine T.pure (.slice A1 r9.1.length c1) (by kernel_rfl) (fun _ => by kernel_rfl) ?_
                  refine T.look (.agg #[.int .i64 p0.key.pfs, .int .i64 p0.key.obj, .int .i64 p0.key.off, .int .i64 p0.made, .int .i64 p0.gone, .string p0.val]) (by kernel_rfl) (fun w' hh => exec_loadN (cs := [.int .i64 p0.key.pfs, .int .i64 p0.key.obj, .int .i64 p0.key.off, .int .i64 p0.made, .int .i64 p0.gone, .string p0.val]) rfl rfl (by kernel_rfl) (by kernel_rfl) (fun j u hj => (hh.box_at (i := 1) (cs := [.int .i64 p0.key.pfs, .int .i64 p0.key.obj, .int .i64 p0.key.off, .int .i64 p0.made, .int .i64 p0.gone, .string p0.val]) (by rfl) 0 j).trans (seg_at (n := 6) rfl hj))) ?_
                  refine T.look (.agg #[.int .i64 p1.key.pfs, .int .i64 p1.key.obj, .int .i64 p1.key.off, .int .i64 p1.made, .int .i64 p1.gone, .string p1.val]) (by kernel_rfl) (fun w' hh => exec_loadN (cs := [.int .i64 p1.key.pfs, .int .i64 p1.key.obj, .int .i64 p1.key.off, .int .i64 p1.made, .int .i64 p1.gone, .string p1.val]) rfl rfl (by kernel_rfl) (by kernel_rfl) (fun j u hj => (hh.box_at (i := 0) (cs := [.int .i64 p1.key.pfs, .int .i64 p1.key.obj, .int .i64 p1.key.off, .int .i64 p1.made, .int .i64 p1.gone, .string p1.val]) (by rfl) 0 j).trans (seg_at (n := 6) rfl hj))) ?_
                  refine T.step (W1.new 33 [.int .i64 p0.key.pfs, .int .i64 p0.key.obj, .int .i64 p0.key.off, .int .i64 p0.made, .int .i64 p0.gone, .string p0.val, .int .i64 p1.key.pfs, .int .i64 p1.key.obj, .int .i64 p1.key.off, .int .i64 p1.made, .int .i64 p1.gone, .string p1.val] (fun b => .slice (some ⟨b, 0, none⟩) 2 2) (by kernel_rfl) (fun _ => by kernel_rfl) (fun b5 => ?_))
                  obtain ⟨r10, hb13, hX2⟩ := Option.bind_eq_some_iff.1 hX2
                  refine T.step (W1.call (vSc eBool) r10 36 #[.slice A1 r9.1.length c1, .slice (some ⟨b5, 0, none⟩) 2 2] (by kernel_rfl) (fun _ => by kernel_rfl) (fun w' hh => slices_Equal_Elem_l r9.1 [p0, p1] r10 hb13 w' A1 c1 (SlOk.mono (SlOk.mono hs1 (View.le_trans (made_le _ _) (View.le_refl _))) hh.view) (some ⟨b5, 0, none⟩) 2 (slok_lit (E := eElem) (f := DElem.cells) [p0, p1] (fun _ _ => rfl) (Nat.le_of_ble_eq_true (by rfl)) (fun j => hh.cellBox (i := 0) (by rfl) j))) ?_)
                  intro u V12 hV12 hu
                  obtain rfl := sureBool _ _ _ hu
                  refine T.pure (.bool r10) (by kernel_rfl) (fun _ => by kernel_rfl) ?_
                  refine T.pure (.bool r10) (by kernel_rfl) (fun _ => by kernel_rfl) ?_
                  refine T.nil ?_
                  cases hX2
                  exact fun a w' hf hh => Exists.intro V12 (And.intro hV12 (And.intro ((Fr.nil hf).pick hf 8 rfl) (hh.sub (.cons _ (.cons _ (.cons _ List.Sublist.slnil))))))
              ·
                rintro a w' ⟨V11, hV11, hf, hh⟩
                refine (?_ : T 106 w V11 [] [(8, .bool z2)] _) a w' hf hh
                clear hf hh
                cases hF
                refine T.ret rfl ?_
                exact T.ret1 rfl (ResIs.tmp rfl) fun w' hh => ⟨_, rfl, hh.below, (show _ from rfl)⟩

set_option maxRecDepth 100000 in
set_option maxHeartbeats 4000000 in
theorem annalkeep_CodeSize_l (p0 : (List DElem)) (r : Bool) (hF : annalkeep_CodeSize p0 = some r) (w : World) (A1 : Option Addr) (c1 : Nat) (hs1 : SlOk (vw w) eElem A1 c1 p0) :
    Calls Try.prog 15 #[.slice A1 p0.length c1] w (Post (vSc eBool) r w) := by
  unfold annalkeep_CodeSize at hF
  refine T.start (l := [.slice A1 p0.length c1]) Try.func15 rfl rfl rfl ?_
  refine T.seq ?_
  refine T.region ?_
  refine T.pure (.bool false) (by kernel_rfl) (fun _ => by kernel_rfl) ?_
  refine T.nil ?_
  refine T.seq ?_
  refine T.seq ?_
  refine T.region ?_
  obtain ⟨r1, hb1, hF⟩ := Option.bind_eq_some_iff.1 hF
  refine T.step (W1.call (vAg eElem) r1 32 #[.int .i64 1, .string (ByteArray.mk #[97, 98, 99])] (by kernel_rfl) (fun _ => by kernel_rfl) (fun w' hh => annalkeep_at1_l 1 (ByteArray.mk #[97, 98, 99]) r1 hb1 w' ) ?_)
  intro u V1 hV1 hu
  obtain rfl := sureElem _ _ _ hu
  obtain ⟨r2, hb2, hF⟩ := Option.bind_eq_some_iff.1 hF
  refine T.step (W1.call (vT2 (vSc eStr) (vSc eInt)) r2 31 #[.agg #[.int .i64 r1.key.pfs, .int .i64 r1.key.obj, .int .i64 r1.key.off, .int .i64 r1.made, .int .i64 r1.gone, .string r1.val]] (by kernel_rfl) (fun _ => by kernel_rfl) (fun w' hh => code_Write_l r1 r2 hb2 w' ) ?_)
  intro u V2 hV2 hu
  obtain rfl := (Sure.t2 sureStr sureInt) _ _ _ hu
  refine T.pure (.tuple #[.string r2.1, .int .i64 r2.2]) (by kernel_rfl) (fun _ => by kernel_rfl) ?_
  refine T.pure (.string r2.1) (by kernel_rfl) (fun _ => by kernel_rfl) ?_
  refine T.pure (.int .i64 r2.2) (by kernel_rfl) (fun _ => by kernel_rfl) ?_
  refine T.pure (.string r2.1) (by kernel_rfl) (fun _ => by kernel_rfl) ?_
  refine T.pure (.int .i64 r2.2) (by kernel_rfl) (fun _ => by kernel_rfl) ?_
  refine T.nil ?_
  refine T.cut (fun a w' => Fr 70 [(0, .slice A1 p0.length c1), (24, .bool ((r2.2 != 0) || ((r2.1.size : Int) != 21)))] a ∧ Hp w V2 [] w') ?_ ?_
  ·
    refine T.region ?_
    refine T.pure (.int .i64 r2.2) (by kernel_rfl) (fun _ => by kernel_rfl) ?_
    refine T.pure (.bool (r2.2 != 0)) (by kernel_rfl) (fun _ => by kernel_rfl) ?_
    refine T.pure (.bool (r2.2 != 0)) (by kernel_rfl) (fun _ => by kernel_rfl) ?_
    cases hg1 : (r2.2 != 0)
    ·
      skip
      refine T.pure (.string r2.1) (by kernel_rfl) (fun _ => by kernel_rfl) ?_
      refine T.pure (.int .i64 (r2.1.size : Int)) (by kernel_rfl) (fun _ => by kernel_rfl) ?_
      refine T.pure (.bool ((r2.1.size : Int) != 21)) (by kernel_rfl) (fun _ => by kernel_rfl) ?_
      refine T.pure (.bool ((r2.1.size : Int) != 21)) (by kernel_rfl) (fun _ => by kernel_rfl) ?_
      refine T.nil ?_
      exact fun a w' hf hh => And.intro (((Fr.nil hf).pick hf 24 rfl).pick hf 0 rfl) (hh.sub List.Sublist.slnil)
    ·
      skip
      refine T.pass (by kernel_rfl) (by kernel_rfl) ?_
      refine T.pass (by kernel_rfl) (by kernel_rfl) ?_
      refine T.pass (by kernel_rfl) (by kernel_rfl) ?_
      refine T.pure (.bool true) (by kernel_rfl) (fun _ => by kernel_rfl) ?_
      refine T.nil ?_
      exact fun a w' hf hh => And.intro (((Fr.nil hf).pick hf 24 rfl).pick hf 0 rfl) (hh.sub List.Sublist.slnil)
  ·
    rintro a w' ⟨hf, hh⟩
    refine (?_ : T 70 w V2 [] [(0, .slice A1 p0.length c1), (24, .bool ((r2.2 != 0) || ((r2.1.size : Int) != 21)))] _) a w' hf hh
    clear hf hh
    refine T.cond ((r2.2 != 0) || ((r2.1.size : Int) != 21)) (by kernel_rfl) (by kernel_rfl) (fun hc1 => ?_) (fun hc1 => ?_)
    ·
      rw [hc1, cond_true] at hF
      refine T.seq ?_
      refine T.region ?_
      refine T.pure (.bool false) (by kernel_rfl) (fun _ => by kernel_rfl) ?_
      refine T.nil ?_
      cases hF
      refine T.ret rfl ?_
      exact T.ret1 rfl (ResIs.tmp rfl) fun w' hh => ⟨_, rfl, hh.below, (show _ from rfl)⟩
    ·
      rw [hc1, cond_false] at hF
      refine T.skip_code ?_
      refine T.seq ?_
      refine T.region ?_
      refine T.pure (.string (ByteArray.mk #[])) (by kernel_rfl) (fun _ => by kernel_rfl) ?_
      refine T.pure (.int .i64 0) (by kernel_rfl) (fun _ => by kernel_rfl) ?_
      refine T.nil ?_
      refine T.seq ?_
      refine T.seq ?_
      refine T.region ?_
      refine T.pure (.slice A1 p0.length c1) (by kernel_rfl) (fun _ => by kernel_rfl) ?_
      refine T.pure (.int .i64 (p0.length : Int)) (by kernel_rfl) (fun _ => by kernel_rfl) ?_
      refine T.pure (.int .i64 0) (by kernel_rfl) (fun _ => by kernel_rfl) ?_
      refine T.nil ?_
      obtain ⟨q1, hz1, hF⟩ := Option.bind_eq_some_iff.1 hF
      refine T.mid (fun a w' => ∃ (z1 : ByteArray) (z2 : Int), q1 = Sum.inl (z1, z2) ∧ ∃ (V4 : View), View.le V2 V4 ∧ Fr 70 [(0, .slice A1 p0.length c1), (5, .string z1), (6, .int .i64 z2)] a ∧ Hp w V4 [] w') ?_ ?_
      ·
        refine T.block ?_
        refine T.iter (fun s1 a w' => ∃ (x1 : ByteArray) (x2 : Int) (x3 : Int), s1 = (x1, x2, x3) ∧ ∃ (V3 : View), View.le V2 V3 ∧ Fr 70 [(0, .slice A1 p0.length c1), (5, .string x1), (6, .int .i64 x2), (25, .slice A1 p0.length c1), (26, .int .i64 (p0.length : Int)), (27, .int .i64 x3)] a ∧ Hp w V3 [] w') hz1 ?_ ?_
        ·
          exact fun a w' hf hh => Exists.intro (ByteArray.mk #[]) (Exists.intro 0 (Exists.intro 0 (And.intro rfl (Exists.intro V2 (And.intro (View.le_refl _) (And.intro (((((((Fr.nil hf).pick hf 27 rfl).pick hf 26 rfl).pick hf 25 rfl).pick hf 6 rfl).pick hf 5 rfl).pick hf 0 rfl) (hh.sub List.Sublist.slnil)))))))
        ·
          rintro s1 y1 hY1 hr1 a w' ⟨x1, x2, x3, rfl, V3, hV3, hf, hh⟩
          refine (?_ : T 70 w V3 [] [(0, .slice A1 p0.length c1), (5, .string x1), (6, .int .i64 x2), (25, .slice A1 p0.length c1), (26, .int .i64 (p0.length : Int)), (27, .int .i64 x3)] _) a w' hf hh
          clear hf hh
          try dsimp only at hY1
          refine T.seq ?_
          refine T.region ?_
          refine T.pure (.bool (decide (x3 < (p0.length : Int)))) (by kernel_rfl) (fun _ => by kernel_rfl) ?_
          refine T.nil ?_
          refine T.seq ?_
          refine T.cond (decide (x3 < (p0.length : Int))) (by kernel_rfl) (by kernel_rfl) (fun hc2 => ?_) (fun hc2 => ?_)
          ·
            rw [hc2, cond_true] at hY1
            refine T.skip_code ?_
            refine T.seq ?_
            refine T.block ?_
            refine T.seq ?_
            refine T.region ?_
            obtain ⟨e1, hb3, hY1⟩ := Option.bind_eq_some_iff.1 hY1
            obtain ⟨hi1, hi2, hi3⟩ := idx_some hb3
            refine T.look (.pointer (some ((sadr A1).add (x3.toNat * 6)))) (by kernel_rfl) (fun w' hh => exec_indexAddr (e := 33) (s := 6) rfl rfl rfl (by kernel_rfl) (by kernel_rfl) hi1 hi2 ((SlOk.mono hs1 (View.le_trans (View.le_trans hV1 hV2) hV3)).some_ hi3 (by decide))) ?_
            refine T.look (.agg #[.int .i64 e1.key.pfs, .int .i64 e1.key.obj, .int .i64 e1.key.off, .int .i64 e1.made, .int .i64 e1.gone, .string e1.val]) (by kernel_rfl) (fun w' hh => exec_loadN (cs := [.int .i64 e1.key.pfs, .int .i64 e1.key.obj, .int .i64 e1.key.off, .int .i64 e1.made, .int .i64 e1.gone, .string e1.val]) rfl rfl (by kernel_rfl) (by kernel_rfl) (fun j u hj => (hh.cell_view (SlOk.cellF (E := eElem) (SlOk.mono hs1 (View.le_trans (View.le_trans hV1 hV2) hV3)) hi3 j (fun _ _ _ h => h) hj)))) ?_
            refine T.step (W1.new 33 [.int .i64 0, .int .i64 0, .int .i64 0, .int .i64 0, .int .i64 0, .string (ByteArray.mk #[])] (fun b => .pointer (some ⟨b, 0, none⟩)) (by kernel_rfl) (fun _ => by kernel_rfl) (fun b1 => ?_))
            refine T.step (W1.store 0 [.int .i64 e1.key.pfs, .int .i64 e1.key.obj, .int .i64 e1.key.off, .int .i64 e1.made, .int .i64 e1.gone, .string e1.val] [box b1 33 [.int .i64 e1.key.pfs, .int .i64 e1.key.obj, .int .i64 e1.key.off, .int .i64 e1.made, .int .i64 e1.gone, .string e1.val]] (by rfl) rfl (by kernel_rfl) (fun w' hw => exec_store (vs := [.int .i64 e1.key.pfs, .int .i64 e1.key.obj, .int .i64 e1.key.off, .int .i64 e1.made, .int .i64 e1.gone, .string e1.val]) rfl rfl rfl rfl (by kernel_rfl) (one_of rfl) (by simp) rfl hw) ?_)
            refine T.nil ?_
            refine T.seq ?_
            refine T.region ?_
            refine T.look (.agg #[.int .i64 e1.key.pfs, .int .i64 e1.key.obj, .int .i64 e1.key.off, .int .i64 e1.made, .int .i64 e1.gone, .string e1.val]) (by kernel_rfl) (fun w' hh => exec_loadN (cs := [.int .i64 e1.key.pfs, .int .i64 e1.key.obj, .int .i64 e1.key.off, .int .i64 e1.made, .int .i64 e1.gone, .string e1.val]) rfl rfl (by kernel_rfl) (by kernel_rfl) (fun j u hj => (hh.box_at (i := 0) (cs := [.int .i64 e1.key.pfs, .int .i64 e1.key.obj, .int .i64 e1.key.off, .int .i64 e1.made, .int .i64 e1.gone, .string e1.val]) (by rfl) 0 j).trans (seg_at (n := 6) rfl hj))) ?_
            obtain ⟨r3, hb4, hY1⟩ := Option.bind_eq_some_iff.1 hY1
            refine T.step (W1.call (vT2 (vSc eStr) (vSc eInt)) r3 31 #[.agg #[.int .i64 e1.key.pfs, .int .i64 e1.key.obj, .int .i64 e1.key.off, .int .i64 e1.made, .int .i64 e1.gone, .string e1.val]] (by kernel_rfl) (fun _ => by kernel_rfl) (fun w' hh => code_Write_l e1 r3 hb4 w' ) ?_)
            intro u V5 hV5 hu
            obtain rfl := (Sure.t2 sureStr sureInt) _ _ _ hu
            refine T.pure (.tuple #[.string r3.1, .int .i64 r3.2]) (by kernel_rfl) (fun _ => by kernel_rfl) ?_
            refine T.pure (.string r3.1) (by kernel_rfl) (fun _ => by kernel_rfl) ?_
            refine T.pure (.int .i64 r3.2) (by kernel_rfl) (fun _ => by kernel_rfl) ?_
            refine T.pure (.string r3.1) (by kernel_rfl) (fun _ => by kernel_rfl) ?_
            refine T.pure (.int .i64 r3.2) (by kernel_rfl) (fun _ => by kernel_rfl) ?_
            refine T.nil ?_
            refine T.seq ?_
            refine T.seq ?_
            refine T.region ?_
            refine T.pure (.int .i64 r3.2) (by kernel_rfl) (fun _ => by kernel_rfl) ?_
            refine T.pure (.bool (r3.2 != 0)) (by kernel_rfl) (fun _ => by kernel_rfl) ?_
            refine T.nil ?_
            refine T.cond (r3.2 != 0) (by kernel_rfl) (by kernel_rfl) (fun hc3 => ?_) (fun hc3 => ?_)
            ·
              rw [hc3, cond_true] at hY1
              refine T.seq ?_
              refine T.region ?_
              refine T.pure (.int .i64 r3.2) (by kernel_rfl) (fun _ => by kernel_rfl) ?_
              refine T.look (.agg #[.int .i64 e1.key.pfs, .int .i64 e1.key.obj, .int .i64 e1.key.off, .int .i64 e1.made, .int .i64 e1.gone, .string e1.val]) (by kernel_rfl) (fun w' hh => exec_loadN (cs := [.int .i64 e1.key.pfs, .int .i64 e1.key.obj, .int .i64 e1.key.off, .int .i64 e1.made, .int .i64 e1.gone, .string e1.val]) rfl rfl (by kernel_rfl) (by kernel_rfl) (fun j u hj => (hh.box_at (i := 0) (cs := [.int .i64 e1.key.pfs, .int .i64 e1.key.obj, .int .i64 e1.key.off, .int .i64 e1.made, .int .i64 e1.gone, .string e1.val]) (by rfl) 0 j).trans (seg_at (n := 6) rfl hj))) ?_
              obtain ⟨r4, hb5, hY1⟩ := Option.bind_eq_some_iff.1 hY1
              refine T.step (W1.call (vSc eInt) r4 25 #[.agg #[.int .i64 e1.key.pfs, .int .i64 e1.key.obj, .int .i64 e1.key.off, .int .i64 e1.made, .int .i64 e1.gone, .string e1.val]] (by kernel_rfl) (fun _ => by kernel_rfl) (fun w' hh => elem_Check_l e1 r4 hb5 w' ) ?_)
              intro u V6 hV6 hu
              obtain rfl := sureInt _ _ _ hu
              refine T.pure (.bool (r3.2 == r4)) (by kernel_rfl) (fun _ => by kernel_rfl) ?_
              refine T.pure (.bool (r3.2 == r4)) (by kernel_rfl) (fun _ => by kernel_rfl) ?_
              refine T.nil ?_
              cases hY1
              cases (hr1 _ rfl)
              try dsimp only at hF
              cases hF
              refine T.ret rfl ?_
              exact T.ret1 rfl (ResIs.tmp rfl) fun w' hh => ⟨_, rfl, hh.below, (show _ from rfl)⟩
            ·
              rw [hc3, cond_false] at hY1
              refine T.skip_code ?_
              refine T.seq ?_
              refine T.region ?_
              refine T.pure (.string x1) (by kernel_rfl) (fun _ => by kernel_rfl) ?_
              refine T.pure (.string r3.1) (by kernel_rfl) (fun _ => by kernel_rfl) ?_
              obtain ⟨s2, hb6, hY1⟩ := Option.bind_eq_some_iff.1 hY1
              refine T.look (.string s2) (by kernel_rfl) (fun w' hh => exec_scat rfl rfl rfl hb6) ?_
              refine T.pure (.string s2) (by kernel_rfl) (fun _ => by kernel_rfl) ?_
              refine T.nil ?_
              refine T.region ?_
              refine T.pure (.int .i64 x2) (by kernel_rfl) (fun _ => by kernel_rfl) ?_
              refine T.pure (.pointer (some ⟨b1, 5, none⟩)) (by kernel_rfl) (fun _ => by kernel_rfl) ?_
              refine T.look (.string e1.val) (by kernel_rfl) (fun w' hh => exec_load1 rfl rfl (by kernel_rfl) (hh.cellBox (i := 0) (by rfl) 5)) ?_
              refine T.pure (.int .i64 (e1.val.size : Int)) (by kernel_rfl) (fun _ => by kernel_rfl) ?_
              refine T.pure (.int .i64 (IntKind.i64.wrap (18 + (e1.val.size : Int)))) (by kernel_rfl) (fun _ => by kernel_rfl) ?_
              refine T.pure (.int .i64 (IntKind.i64.wrap (x2 + (IntKind.i64.wrap (18 + (e1.val.size : Int)))))) (by kernel_rfl) (fun _ => by kernel_rfl) ?_
              refine T.pure (.int .i64 (IntKind.i64.wrap (x2 + (IntKind.i64.wrap (18 + (e1.val.size : Int)))))) (by kernel_rfl) (fun _ => by kernel_rfl) ?_
              refine T.nil ?_
              refine T.region ?_
              refine T.pure (.int .i64 (IntKind.i64.wrap (x3 + 1))) (by kernel_rfl) (fun _ => by kernel_rfl) ?_
              refine T.pure (.int .i64 (IntKind.i64.wrap (x3 + 1))) (by kernel_rfl) (fun _ => by kernel_rfl) ?_
              refine T.nil ?_
              cases hY1
              exact fun a w' hf hh => Exists.intro (s2, IntKind.i64.wrap (x2 + (IntKind.i64.wrap (18 + (e1.val.size : Int)))), IntKind.i64.wrap (x3 + 1)) (And.intro rfl (Exists.intro s2 (Exists.intro (IntKind.i64.wrap (x2 + (IntKind.i64.wrap (18 + (e1.val.size : Int))))) (Exists.intro (IntKind.i64.wrap (x3 + 1)) (And.intro rfl (Exists.intro V5 (And.intro (View.le_trans hV3 hV5) (And.intro (((((((Fr.nil hf).pick hf 27 rfl).pick hf 26 rfl).pick hf 25 rfl).pick hf 6 rfl).pick hf 5 rfl).pick hf 0 rfl) (hh.sub (.cons _ List.Sublist.slnil))))))))))
          ·
            rw [hc2, cond_false] at hY1
            refine T.exit ?_
            cases hY1
            cases (hr1 _ rfl)
            exact fun a w' hf hh => Exists.intro x1 (Exists.intro x2 (And.intro rfl (Exists.intro V3 (And.intro hV3 (And.intro ((((Fr.nil hf).pick hf 6 rfl).pick hf 5 rfl).pick hf 0 rfl) (hh.sub List.Sublist.slnil))))))
      ·
        rintro a w' ⟨z1, z2, rfl, V4, hV4, hf, hh⟩
        try dsimp only at hF
        refine (?_ : T 70 w V4 [] [(0, .slice A1 p0.length c1), (5, .string z1), (6, .int .i64 z2)] _) a w' hf hh
        clear hf hh
        refine T.seq ?_
        refine T.region ?_
        refine T.pure (.string z1) (by kernel_rfl) (fun _ => by kernel_rfl) ?_
        obtain ⟨r5, hb7, hF⟩ := Option.bind_eq_some_iff.1 hF
        refine T.step (W1.call (vT2 (vSc (eList eElem)) (vSc eInt)) r5 35 #[.string z1] (by kernel_rfl) (fun _ => by kernel_rfl) (fun w' hh => code_All_l z1 r5 hb7 w' ) ?_)
        intro u V7 hV7 hu
        obtain ⟨u1, u2, rfl, hu1, hu2⟩ := vT2_elim hu
        obtain ⟨A2, c2, rfl, hs2⟩ := vlist_elim hu1
        obtain rfl := sureInt _ _ _ hu2
        refine T.pure (.tuple #[.slice A2 r5.1.length c2, .int .i64 r5.2]) (by kernel_rfl) (fun _ => by kernel_rfl) ?_
        refine T.pure (.slice A2 r5.1.length c2) (by kernel_rfl) (fun _ => by kernel_rfl) ?_
        refine T.pure (.int .i64 r5.2) (by kernel_rfl) (fun _ => by kernel_rfl) ?_
        refine T.pure (.slice A2 r5.1.length c2) (by kernel_rfl) (fun _ => by kernel_rfl) ?_
        refine T.pure (.int .i64 r5.2) (by kernel_rfl) (fun _ => by kernel_rfl) ?_
        refine T.nil ?_
        obtain ⟨z3, hX1, hF⟩ := Option.bind_eq_some_iff.1 hF
        refine T.cut (fun a w' => ∃ (V8 : View), View.le V7 V8 ∧ Fr 70 [(2, .bool z3)] a ∧ Hp w V8 [] w') ?_ ?_
        ·
          refine T.region ?_
          refine T.pure (.int .i64 r5.2) (by kernel_rfl) (fun _ => by kernel_rfl) ?_
          refine T.pure (.bool (r5.2 == 0)) (by kernel_rfl) (fun _ => by kernel_rfl) ?_
          refine T.pure (.bool (r5.2 == 0)) (by kernel_rfl) (fun _ => by kernel_rfl) ?_
          cases hg2 : (r5.2 == 0)
          ·
            skip
            rw [hg2, cond_false] at hX1
            refine T.pass (by kernel_rfl) (by kernel_rfl) ?_
            refine T.pass (by kernel_rfl) (by kernel_rfl) ?_
            refine T.pass (by kernel_rfl) (by kernel_rfl) ?_
            refine T.pass (by kernel_rfl) (by kernel_rfl) ?_
            refine T.pure (.bool false) (by kernel_rfl) (fun _ => by kernel_rfl) ?_
            refine T.pure (.bool false) (by kernel_rfl) (fun _ => by kernel_rfl) ?_
            refine T.pass (by kernel_rfl) (by kernel_rfl) ?_
            refine T.pass (by kernel_rfl) (by kernel_rfl) ?_
            refine T.pass (by kernel_rfl) (by kernel_rfl) ?_
            refine T.pure (.bool false) (by kernel_rfl) (fun _ => by kernel_rfl) ?_
            refine T.pure (.bool false) (by kernel_rfl) (fun _ => by kernel_rfl) ?_
            refine T.nil ?_
            cases hX1
            exact fun a w' hf hh => Exists.intro V7 (And.intro (View.le_refl _) (And.intro ((Fr.nil hf).pick hf 2 rfl) (hh.sub List.Sublist.slnil)))
          ·
            skip
            rw [hg2, cond_true] at hX1
            refine T.pure (.string z1) (by kernel_rfl) (fun _ => by kernel_rfl) ?_
            refine T.pure (.int .i64 (z1.size : Int)) (by kernel_rfl) (fun _ => by kernel_rfl) ?_
            refine T.pure (.int .i64 z2) (by kernel_rfl) (fun _ => by kernel_rfl) ?_
            refine T.pure (.bool ((z1.size : Int) == z2)) (by kernel_rfl) (fun _ => by kernel_rfl) ?_
            refine T.pure (.bool ((z1.size : Int) == z2)) (by kernel_rfl) (fun _ => by kernel_rfl) ?_
            refine T.pure (.bool ((z1.size : Int) == z2)) (by kernel_rfl) (fun _ => by kernel_rfl) ?_
            cases hg3 : ((z1.size : Int) == z2)
            ·
              skip
              rw [hg3, cond_false] at hX1
              refine T.pass (by kernel_rfl) (by kernel_rfl) ?_
              refine T.pass (by kernel_rfl) (by kernel_rfl) ?_
              refine T.pass (by kernel_rfl) (by kernel_rfl) ?_
              refine T.pure (.bool false) (by kernel_rfl) (fun _ => by kernel_rfl) ?_
              refine T.pure (.bool false) (by kernel_rfl) (fun _ => by kernel_rfl) ?_
              refine T.nil ?_
              cases hX1
              exact fun a w' hf hh => Exists.intro V7 (And.intro (View.le_refl _) (And.intro ((Fr.nil hf).pick hf 2 rfl) (hh.sub List.Sublist.slnil)))
            ·
              skip
              rw [hg3, cond_true] at hX1
              refine T.pure (.slice A2 r5.1.length c2) (by kernel_rfl) (fun _ => by kernel_rfl) ?_
              refine T.pure (.slice A1 p0.length c1) (by kernel_rfl) (fun _ => by kernel_rfl) ?_
              obtain ⟨r6, hb8, hX1⟩ := Option.bind_eq_some_iff.1 hX1
              refine T.step (W1.call (vSc eBool) r6 36 #[.slice A2 r5.1.length c2, .slice A1 p0.length c1] (by kernel_rfl) (fun _ => by kernel_rfl) (fun w' hh => slices_Equal_Elem_l r5.1 p0 r6 hb8 w' A2 c2 (SlOk.mono (SlOk.mono hs2 (View.le_trans (made_le _ _) (View.le_refl _))) hh.view) A1 c1 (SlOk.mono (SlOk.mono hs1 (View.le_trans (View.le_trans (View.le_trans hV1 hV2) hV4) hV7)) hh.view)) ?_)
              intro u V9 hV9 hu
              obtain rfl := sureBool _ _ _ hu
              refine T.pure (.bool r6) (by kernel_rfl) (fun _ => by kernel_rfl) ?_
              refine T.pure (.bool r6) (by kernel_rfl) (fun _ => by kernel_rfl) ?_
              refine T.nil ?_
              cases hX1
              exact fun a w' hf hh => Exists.intro V9 (And.intro hV9 (And.intro ((Fr.nil hf).pick hf 2 rfl) (hh.sub List.Sublist.slnil)))
        ·
          rintro a w' ⟨V8, hV8, hf, hh⟩
          refine (?_ : T 70 w V8 [] [(2, .bool z3)] _) a w' hf hh
          clear hf hh
          cases hF
          refine T.ret rfl ?_
          exact T.ret1 rfl (ResIs.tmp rfl) fun w' hh => ⟨_, rfl, hh.below, (show _ from rfl)⟩

end Go.Proofs.Ytgpcpllkcehheaa
