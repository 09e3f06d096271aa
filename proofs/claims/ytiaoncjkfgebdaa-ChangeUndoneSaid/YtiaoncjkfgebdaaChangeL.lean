/- The Go functions of group Change compute the pure functions of that group: written by walkgen.py. Condition of each: the pure function yields a result. -/
import Derived.Test.YtiaoncjkfgebdaaRunL
import Derived.Test.YtiaoncjkfgebdaaChangeF
import Derived.Test.YtiaoncjkfgebdaaEqL
namespace Go.Proofs.Ytiaoncjkfgebdaa
set_option linter.unusedVariables false

set_option maxRecDepth 100000 in
set_option maxHeartbeats 4000000 in
theorem change_Check_l (F : Nat) (p0 : (List DChange)) (r : Int) (hF : change_Check F p0 = some r) (w : World) (A1 : Option Addr) (c1 : Nat) (hs1 : SlOk (vw w) eChange A1 c1 p0) :
    Calls Try.prog 76 #[.slice A1 p0.length c1] w (Post (vSc eInt) r w) := by
  unfold change_Check at hF
  refine T.start (l := [.slice A1 p0.length c1]) Try.func76 rfl rfl rfl ?_
  refine T.seq ?_
  refine T.region ?_
  refine T.pure (.int .i64 0) (by kernel_rfl) (fun _ => by kernel_rfl) ?_
  refine T.nil ?_
  refine T.seq ?_
  refine T.seq ?_
  refine T.region ?_
  refine T.pure (.slice A1 p0.length c1) (by kernel_rfl) (fun _ => by kernel_rfl) ?_
  refine T.pure (.int .i64 (p0.length : Int)) (by kernel_rfl) (fun _ => by kernel_rfl) ?_
  refine T.pure (.bool (decide ((400 : Int) < (p0.length : Int)))) (by kernel_rfl) (fun _ => by kernel_rfl) ?_
  refine T.nil ?_
  refine T.cond (decide ((400 : Int) < (p0.length : Int))) (by kernel_rfl) (by kernel_rfl) (fun hc1 => ?_) (fun hc1 => ?_)
  ·
    rw [hc1, cond_true] at hF
    refine T.seq ?_
    refine T.region ?_
    refine T.pure (.int .i64 2) (by kernel_rfl) (fun _ => by kernel_rfl) ?_
    refine T.nil ?_
    cases hF
    refine T.ret rfl ?_
    exact T.ret1 rfl (ResIs.tmp rfl) fun w' hh => ⟨_, rfl, hh.below, (show _ from rfl)⟩
  ·
    rw [hc1, cond_false] at hF
    refine T.skip_code ?_
    refine T.seq ?_
    refine T.seq ?_
    refine T.region ?_
    refine T.pure (.slice A1 p0.length c1) (by kernel_rfl) (fun _ => by kernel_rfl) ?_
    refine T.pure (.int .i64 (p0.length : Int)) (by kernel_rfl) (fun _ => by kernel_rfl) ?_
    refine T.pure (.int .i64 0) (by kernel_rfl) (fun _ => by kernel_rfl) ?_
    refine T.nil ?_
    obtain ⟨q1, hz1, hF⟩ := Option.bind_eq_some_iff.1 hF
    refine T.mid (fun a w' => q1 = Sum.inl () ∧ ∃ (V2 : View), View.le (vw w) V2 ∧ Fr 79 [] a ∧ Hp w V2 [] w') ?_ ?_
    ·
      refine T.block ?_
      refine T.iter (fun x1 a w' => ∃ (V1 : View), View.le (vw w) V1 ∧ Fr 79 [(0, .slice A1 p0.length c1), (9, .slice A1 p0.length c1), (10, .int .i64 (p0.length : Int)), (11, .int .i64 x1)] a ∧ Hp w V1 [] w') hz1 ?_ ?_
      ·
        exact fun a w' hf hh => Exists.intro (vw w) (And.intro (View.le_refl _) (And.intro (((((Fr.nil hf).pick hf 11 rfl).pick hf 10 rfl).pick hf 9 rfl).pick hf 0 rfl) (hh.sub List.Sublist.slnil)))
      ·
        rintro x1 y1 hY1 hr1 a w' ⟨V1, hV1, hf, hh⟩
        refine (?_ : T 79 w V1 [] [(0, .slice A1 p0.length c1), (9, .slice A1 p0.length c1), (10, .int .i64 (p0.length : Int)), (11, .int .i64 x1)] _) a w' hf hh
        clear hf hh
        try dsimp only at hY1
        refine T.seq ?_
        refine T.region ?_
        refine T.pure (.bool (decide (x1 < (p0.length : Int)))) (by kernel_rfl) (fun _ => by kernel_rfl) ?_
        refine T.nil ?_
        refine T.seq ?_
        refine T.cond (decide (x1 < (p0.length : Int))) (by kernel_rfl) (by kernel_rfl) (fun hc2 => ?_) (fun hc2 => ?_)
        ·
          rw [hc2, cond_true] at hY1
          refine T.skip_code ?_
          refine T.seq ?_
          refine T.block ?_
          refine T.seq ?_
          refine T.region ?_
          refine T.pure (.int .i64 x1) (by kernel_rfl) (fun _ => by kernel_rfl) ?_
          obtain ⟨e1, hb1, hY1⟩ := Option.bind_eq_some_iff.1 hY1
          obtain ⟨hi1, hi2, hi3⟩ := idx_some hb1
          refine T.look (.pointer (some ((sadr A1).add (x1.toNat * 7)))) (by kernel_rfl) (fun w' hh => exec_indexAddr (e := 44) (s := 7) rfl rfl rfl (by kernel_rfl) (by kernel_rfl) hi1 hi2 ((SlOk.mono hs1 hV1).some_ hi3 (by decide))) ?_
          refine T.look (.agg #[.int .i64 e1.key.pfs, .int .i64 e1.key.obj, .int .i64 e1.key.off, .bool e1.had, .bool e1.has, .string e1.was, .string e1.is_]) (by kernel_rfl) (fun w' hh => exec_loadN (cs := [.int .i64 e1.key.pfs, .int .i64 e1.key.obj, .int .i64 e1.key.off, .bool e1.had, .bool e1.has, .string e1.was, .string e1.is_]) rfl rfl (by kernel_rfl) (by kernel_rfl) (fun j u hj => (hh.cell_view (SlOk.cellF (E := eChange) (SlOk.mono hs1 hV1) hi3 j (fun _ _ _ h => h) hj)))) ?_
          refine T.step (W1.new 44 [.int .i64 0, .int .i64 0, .int .i64 0, .bool false, .bool false, .string (ByteArray.mk #[]), .string (ByteArray.mk #[])] (fun b => .pointer (some ⟨b, 0, none⟩)) (by kernel_rfl) (fun _ => by kernel_rfl) (fun b1 => ?_))
          refine T.pure (.int .i64 x1) (by kernel_rfl) (fun _ => by kernel_rfl) ?_
          refine T.step (W1.store 0 [.int .i64 e1.key.pfs, .int .i64 e1.key.obj, .int .i64 e1.key.off, .bool e1.had, .bool e1.has, .string e1.was, .string e1.is_] [box b1 44 [.int .i64 e1.key.pfs, .int .i64 e1.key.obj, .int .i64 e1.key.off, .bool e1.had, .bool e1.has, .string e1.was, .string e1.is_]] (by rfl) rfl (by kernel_rfl) (fun w' hw => exec_store (vs := [.int .i64 e1.key.pfs, .int .i64 e1.key.obj, .int .i64 e1.key.off, .bool e1.had, .bool e1.has, .string e1.was, .string e1.is_]) rfl rfl rfl rfl (by kernel_rfl) (one_of rfl) (by simp) rfl hw) ?_)
          refine T.nil ?_
          refine T.seq ?_
          refine T.seq ?_
          refine T.region ?_
          refine T.pure (.pointer (some ⟨b1, 0, none⟩)) (by kernel_rfl) (fun _ => by kernel_rfl) ?_
          refine T.look (.agg #[.int .i64 e1.key.pfs, .int .i64 e1.key.obj, .int .i64 e1.key.off]) (by kernel_rfl) (fun w' hh => exec_loadN (cs := [.int .i64 e1.key.pfs, .int .i64 e1.key.obj, .int .i64 e1.key.off]) rfl rfl (by kernel_rfl) (by kernel_rfl) (fun j u hj => (hh.box_at (i := 0) (cs := [.int .i64 e1.key.pfs, .int .i64 e1.key.obj, .int .i64 e1.key.off, .bool e1.had, .bool e1.has, .string e1.was, .string e1.is_]) (by rfl) 0 j).trans (seg_at (n := 3) rfl hj))) ?_
          obtain ⟨r1, hb2, hY1⟩ := Option.bind_eq_some_iff.1 hY1
          refine T.step (W1.call (vSc eInt) r1 46 #[.agg #[.int .i64 e1.key.pfs, .int .i64 e1.key.obj, .int .i64 e1.key.off]] (by kernel_rfl) (fun _ => by kernel_rfl) (fun w' hh => key_Check_l e1.key r1 hb2 w' ) ?_)
          intro u V3 hV3 hu
          obtain rfl := sureInt _ _ _ hu
          refine T.pure (.int .i64 r1) (by kernel_rfl) (fun _ => by kernel_rfl) ?_
          refine T.nil ?_
          refine T.seq ?_
          refine T.region ?_
          refine T.pure (.int .i64 r1) (by kernel_rfl) (fun _ => by kernel_rfl) ?_
          refine T.pure (.bool (r1 != 0)) (by kernel_rfl) (fun _ => by kernel_rfl) ?_
          refine T.nil ?_
          refine T.cond (r1 != 0) (by kernel_rfl) (by kernel_rfl) (fun hc3 => ?_) (fun hc3 => ?_)
          ·
            rw [hc3, cond_true] at hY1
            refine T.seq ?_
            refine T.region ?_
            refine T.pure (.int .i64 r1) (by kernel_rfl) (fun _ => by kernel_rfl) ?_
            refine T.pure (.int .i64 r1) (by kernel_rfl) (fun _ => by kernel_rfl) ?_
            refine T.nil ?_
            cases hY1
            cases (hr1 _ rfl)
            try dsimp only at hF
            cases hF
            refine T.ret rfl ?_
            exact T.ret1 rfl (ResIs.tmp rfl) fun w' hh => ⟨_, rfl, hh.below, (show _ from rfl)⟩
          ·
            rw [hc3, cond_false] at hY1
            refine T.skip_code ?_
            refine T.seq ?_
            refine T.cut (fun a w' => Fr 79 [(0, .slice A1 p0.length c1), (3, .int .i64 x1), (4, .pointer (some ⟨b1, 0, none⟩)), (9, .slice A1 p0.length c1), (10, .int .i64 (p0.length : Int)), (11, .int .i64 x1), (31, .bool ((decide ((40 : Int) < (e1.was.size : Int))) || (decide ((40 : Int) < (e1.is_.size : Int)))))] a ∧ Hp w V3 [box b1 44 [.int .i64 e1.key.pfs, .int .i64 e1.key.obj, .int .i64 e1.key.off, .bool e1.had, .bool e1.has, .string e1.was, .string e1.is_]] w') ?_ ?_
            ·
              refine T.region ?_
              refine T.pure (.pointer (some ⟨b1, 5, none⟩)) (by kernel_rfl) (fun _ => by kernel_rfl) ?_
              refine T.look (.string e1.was) (by kernel_rfl) (fun w' hh => exec_load1 rfl rfl (by kernel_rfl) (hh.cellBox (i := 0) (by rfl) 5)) ?_
              refine T.pure (.int .i64 (e1.was.size : Int)) (by kernel_rfl) (fun _ => by kernel_rfl) ?_
              refine T.pure (.bool (decide ((40 : Int) < (e1.was.size : Int)))) (by kernel_rfl) (fun _ => by kernel_rfl) ?_
              refine T.pure (.bool (decide ((40 : Int) < (e1.was.size : Int)))) (by kernel_rfl) (fun _ => by kernel_rfl) ?_
              cases hg1 : decide ((40 : Int) < (e1.was.size : Int))
              ·
                skip
                refine T.pure (.pointer (some ⟨b1, 6, none⟩)) (by kernel_rfl) (fun _ => by kernel_rfl) ?_
                refine T.look (.string e1.is_) (by kernel_rfl) (fun w' hh => exec_load1 rfl rfl (by kernel_rfl) (hh.cellBox (i := 0) (by rfl) 6)) ?_
                refine T.pure (.int .i64 (e1.is_.size : Int)) (by kernel_rfl) (fun _ => by kernel_rfl) ?_
                refine T.pure (.bool (decide ((40 : Int) < (e1.is_.size : Int)))) (by kernel_rfl) (fun _ => by kernel_rfl) ?_
                refine T.pure (.bool (decide ((40 : Int) < (e1.is_.size : Int)))) (by kernel_rfl) (fun _ => by kernel_rfl) ?_
                refine T.nil ?_
                exact fun a w' hf hh => And.intro ((((((((Fr.nil hf).pick hf 31 rfl).pick hf 11 rfl).pick hf 10 rfl).pick hf 9 rfl).pick hf 4 rfl).pick hf 3 rfl).pick hf 0 rfl) (hh.sub (.cons_cons _ List.Sublist.slnil))
              ·
                skip
                refine T.pass (by kernel_rfl) (by kernel_rfl) ?_
                refine T.pass (by kernel_rfl) (by kernel_rfl) ?_
                refine T.pass (by kernel_rfl) (by kernel_rfl) ?_
                refine T.pass (by kernel_rfl) (by kernel_rfl) ?_
                refine T.pure (.bool true) (by kernel_rfl) (fun _ => by kernel_rfl) ?_
                refine T.nil ?_
                exact fun a w' hf hh => And.intro ((((((((Fr.nil hf).pick hf 31 rfl).pick hf 11 rfl).pick hf 10 rfl).pick hf 9 rfl).pick hf 4 rfl).pick hf 3 rfl).pick hf 0 rfl) (hh.sub (.cons_cons _ List.Sublist.slnil))
            ·
              rintro a w' ⟨hf, hh⟩
              refine (?_ : T 79 w V3 [box b1 44 [.int .i64 e1.key.pfs, .int .i64 e1.key.obj, .int .i64 e1.key.off, .bool e1.had, .bool e1.has, .string e1.was, .string e1.is_]] [(0, .slice A1 p0.length c1), (3, .int .i64 x1), (4, .pointer (some ⟨b1, 0, none⟩)), (9, .slice A1 p0.length c1), (10, .int .i64 (p0.length : Int)), (11, .int .i64 x1), (31, .bool ((decide ((40 : Int) < (e1.was.size : Int))) || (decide ((40 : Int) < (e1.is_.size : Int)))))] _) a w' hf hh
              clear hf hh
              refine T.cond ((decide ((40 : Int) < (e1.was.size : Int))) || (decide ((40 : Int) < (e1.is_.size : Int)))) (by kernel_rfl) (by kernel_rfl) (fun hc4 => ?_) (fun hc4 => ?_)
              ·
                rw [hc4, cond_true] at hY1
                refine T.seq ?_
                refine T.region ?_
                refine T.pure (.int .i64 2) (by kernel_rfl) (fun _ => by kernel_rfl) ?_
                refine T.nil ?_
                cases hY1
                cases (hr1 _ rfl)
                try dsimp only at hF
                cases hF
                refine T.ret rfl ?_
                exact T.ret1 rfl (ResIs.tmp rfl) fun w' hh => ⟨_, rfl, hh.below, (show _ from rfl)⟩
              ·
                rw [hc4, cond_false] at hY1
                refine T.skip_code ?_
                refine T.seq ?_
                refine T.cut (fun a w' => Fr 79 [(0, .slice A1 p0.length c1), (3, .int .i64 x1), (4, .pointer (some ⟨b1, 0, none⟩)), (9, .slice A1 p0.length c1), (10, .int .i64 (p0.length : Int)), (11, .int .i64 x1), (63, .bool (bif (!e1.had) then ((!(seq e1.was (ByteArray.mk #[]))) || (bif (!e1.has) then ((!(seq e1.is_ (ByteArray.mk #[]))) || ((e1.had == e1.has) && (seq e1.was e1.is_))) else ((e1.had == e1.has) && (seq e1.was e1.is_)))) else (bif (!e1.has) then ((!(seq e1.is_ (ByteArray.mk #[]))) || ((e1.had == e1.has) && (seq e1.was e1.is_))) else ((e1.had == e1.has) && (seq e1.was e1.is_)))))] a ∧ Hp w V3 [box b1 44 [.int .i64 e1.key.pfs, .int .i64 e1.key.obj, .int .i64 e1.key.off, .bool e1.had, .bool e1.has, .string e1.was, .string e1.is_]] w') ?_ ?_
                ·
                  refine T.region ?_
                  refine T.pure (.pointer (some ⟨b1, 3, none⟩)) (by kernel_rfl) (fun _ => by kernel_rfl) ?_
                  refine T.look (.bool e1.had) (by kernel_rfl) (fun w' hh => exec_load1 rfl rfl (by kernel_rfl) (hh.cellBox (i := 0) (by rfl) 3)) ?_
                  refine T.pure (.bool (!e1.had)) (by kernel_rfl) (fun _ => by kernel_rfl) ?_
                  refine T.pure (.bool (!e1.had)) (by kernel_rfl) (fun _ => by kernel_rfl) ?_
                  cases hg2 : (!e1.had)
                  ·
                    skip
                    refine T.pass (by kernel_rfl) (by kernel_rfl) ?_
                    refine T.pass (by kernel_rfl) (by kernel_rfl) ?_
                    refine T.pass (by kernel_rfl) (by kernel_rfl) ?_
                    refine T.pure (.bool false) (by kernel_rfl) (fun _ => by kernel_rfl) ?_
                    refine T.pure (.bool false) (by kernel_rfl) (fun _ => by kernel_rfl) ?_
                    refine T.pure (.pointer (some ⟨b1, 4, none⟩)) (by kernel_rfl) (fun _ => by kernel_rfl) ?_
                    refine T.look (.bool e1.has) (by kernel_rfl) (fun w' hh => exec_load1 rfl rfl (by kernel_rfl) (hh.cellBox (i := 0) (by rfl) 4)) ?_
                    refine T.pure (.bool (!e1.has)) (by kernel_rfl) (fun _ => by kernel_rfl) ?_
                    refine T.pure (.bool (!e1.has)) (by kernel_rfl) (fun _ => by kernel_rfl) ?_
                    cases hg3 : (!e1.has)
                    ·
                      skip
                      refine T.pass (by kernel_rfl) (by kernel_rfl) ?_
                      refine T.pass (by kernel_rfl) (by kernel_rfl) ?_
                      refine T.pass (by kernel_rfl) (by kernel_rfl) ?_
                      refine T.pure (.bool false) (by kernel_rfl) (fun _ => by kernel_rfl) ?_
                      refine T.pure (.bool false) (by kernel_rfl) (fun _ => by kernel_rfl) ?_
                      refine T.pure (.bool false) (by kernel_rfl) (fun _ => by kernel_rfl) ?_
                      refine T.pure (.pointer (some ⟨b1, 3, none⟩)) (by kernel_rfl) (fun _ => by kernel_rfl) ?_
                      refine T.look (.bool e1.had) (by kernel_rfl) (fun w' hh => exec_load1 rfl rfl (by kernel_rfl) (hh.cellBox (i := 0) (by rfl) 3)) ?_
                      refine T.pure (.pointer (some ⟨b1, 4, none⟩)) (by kernel_rfl) (fun _ => by kernel_rfl) ?_
                      refine T.look (.bool e1.has) (by kernel_rfl) (fun w' hh => exec_load1 rfl rfl (by kernel_rfl) (hh.cellBox (i := 0) (by rfl) 4)) ?_
                      refine T.pure (.bool (e1.had == e1.has)) (by kernel_rfl) (fun _ => by kernel_rfl) ?_
                      refine T.pure (.bool (e1.had == e1.has)) (by kernel_rfl) (fun _ => by kernel_rfl) ?_
                      cases hg4 : (e1.had == e1.has)
                      ·
                        skip
                        refine T.pass (by kernel_rfl) (by kernel_rfl) ?_
                        refine T.pass (by kernel_rfl) (by kernel_rfl) ?_
                        refine T.pass (by kernel_rfl) (by kernel_rfl) ?_
                        refine T.pass (by kernel_rfl) (by kernel_rfl) ?_
                        refine T.pass (by kernel_rfl) (by kernel_rfl) ?_
                        refine T.pure (.bool false) (by kernel_rfl) (fun _ => by kernel_rfl) ?_
                        refine T.pure (.bool false) (by kernel_rfl) (fun _ => by kernel_rfl) ?_
                        refine T.nil ?_
                        exact fun a w' hf hh => And.intro ((((((((Fr.nil hf).pick hf 63 rfl).pick hf 11 rfl).pick hf 10 rfl).pick hf 9 rfl).pick hf 4 rfl).pick hf 3 rfl).pick hf 0 rfl) (hh.sub (.cons_cons _ List.Sublist.slnil))
                      ·
                        skip
                        refine T.pure (.pointer (some ⟨b1, 5, none⟩)) (by kernel_rfl) (fun _ => by kernel_rfl) ?_
                        refine T.look (.string e1.was) (by kernel_rfl) (fun w' hh => exec_load1 rfl rfl (by kernel_rfl) (hh.cellBox (i := 0) (by rfl) 5)) ?_
                        refine T.pure (.pointer (some ⟨b1, 6, none⟩)) (by kernel_rfl) (fun _ => by kernel_rfl) ?_
                        refine T.look (.string e1.is_) (by kernel_rfl) (fun w' hh => exec_load1 rfl rfl (by kernel_rfl) (hh.cellBox (i := 0) (by rfl) 6)) ?_
                        refine T.pure (.bool (seq e1.was e1.is_)) (by kernel_rfl) (fun _ => by kernel_rfl) ?_
                        refine T.pure (.bool (seq e1.was e1.is_)) (by kernel_rfl) (fun _ => by kernel_rfl) ?_
                        refine T.pure (.bool (seq e1.was e1.is_)) (by kernel_rfl) (fun _ => by kernel_rfl) ?_
                        refine T.nil ?_
                        exact fun a w' hf hh => And.intro ((((((((Fr.nil hf).pick hf 63 rfl).pick hf 11 rfl).pick hf 10 rfl).pick hf 9 rfl).pick hf 4 rfl).pick hf 3 rfl).pick hf 0 rfl) (hh.sub (.cons_cons _ List.Sublist.slnil))
                    ·
                      skip
                      refine T.pure (.pointer (some ⟨b1, 6, none⟩)) (by kernel_rfl) (fun _ => by kernel_rfl) ?_
                      refine T.look (.string e1.is_) (by kernel_rfl) (fun w' hh => exec_load1 rfl rfl (by kernel_rfl) (hh.cellBox (i := 0) (by rfl) 6)) ?_
                      refine T.pure (.bool (!(seq e1.is_ (ByteArray.mk #[])))) (by kernel_rfl) (fun _ => by kernel_rfl) ?_
                      refine T.pure (.bool (!(seq e1.is_ (ByteArray.mk #[])))) (by kernel_rfl) (fun _ => by kernel_rfl) ?_
                      refine T.pure (.bool (!(seq e1.is_ (ByteArray.mk #[])))) (by kernel_rfl) (fun _ => by kernel_rfl) ?_
                      refine T.pure (.bool (!(seq e1.is_ (ByteArray.mk #[])))) (by kernel_rfl) (fun _ => by kernel_rfl) ?_
                      cases hg5 : (!(seq e1.is_ (ByteArray.mk #[])))
                      ·
                        skip
                        refine T.pure (.pointer (some ⟨b1, 3, none⟩)) (by kernel_rfl) (fun _ => by kernel_rfl) ?_
                        refine T.look (.bool e1.had) (by kernel_rfl) (fun w' hh => exec_load1 rfl rfl (by kernel_rfl) (hh.cellBox (i := 0) (by rfl) 3)) ?_
                        refine T.pure (.pointer (some ⟨b1, 4, none⟩)) (by kernel_rfl) (fun _ => by kernel_rfl) ?_
                        refine T.look (.bool e1.has) (by kernel_rfl) (fun w' hh => exec_load1 rfl rfl (by kernel_rfl) (hh.cellBox (i := 0) (by rfl) 4)) ?_
                        refine T.pure (.bool (e1.had == e1.has)) (by kernel_rfl) (fun _ => by kernel_rfl) ?_
                        refine T.pure (.bool (e1.had == e1.has)) (by kernel_rfl) (fun _ => by kernel_rfl) ?_
                        cases hg6 : (e1.had == e1.has)
                        ·
                          skip
                          refine T.pass (by kernel_rfl) (by kernel_rfl) ?_
                          refine T.pass (by kernel_rfl) (by kernel_rfl) ?_
                          refine T.pass (by kernel_rfl) (by kernel_rfl) ?_
                          refine T.pass (by kernel_rfl) (by kernel_rfl) ?_
                          refine T.pass (by kernel_rfl) (by kernel_rfl) ?_
                          refine T.pure (.bool false) (by kernel_rfl) (fun _ => by kernel_rfl) ?_
                          refine T.pure (.bool false) (by kernel_rfl) (fun _ => by kernel_rfl) ?_
                          refine T.nil ?_
                          exact fun a w' hf hh => And.intro ((((((((Fr.nil hf).pick hf 63 rfl).pick hf 11 rfl).pick hf 10 rfl).pick hf 9 rfl).pick hf 4 rfl).pick hf 3 rfl).pick hf 0 rfl) (hh.sub (.cons_cons _ List.Sublist.slnil))
                        ·
                          skip
                          refine T.pure (.pointer (some ⟨b1, 5, none⟩)) (by kernel_rfl) (fun _ => by kernel_rfl) ?_
                          refine T.look (.string e1.was) (by kernel_rfl) (fun w' hh => exec_load1 rfl rfl (by kernel_rfl) (hh.cellBox (i := 0) (by rfl) 5)) ?_
                          refine T.pure (.pointer (some ⟨b1, 6, none⟩)) (by kernel_rfl) (fun _ => by kernel_rfl) ?_
                          refine T.look (.string e1.is_) (by kernel_rfl) (fun w' hh => exec_load1 rfl rfl (by kernel_rfl) (hh.cellBox (i := 0) (by rfl) 6)) ?_
                          refine T.pure (.bool (seq e1.was e1.is_)) (by kernel_rfl) (fun _ => by kernel_rfl) ?_
                          refine T.pure (.bool (seq e1.was e1.is_)) (by kernel_rfl) (fun _ => by kernel_rfl) ?_
                          refine T.pure (.bool (seq e1.was e1.is_)) (by kernel_rfl) (fun _ => by kernel_rfl) ?_
                          refine T.nil ?_
                          exact fun a w' hf hh => And.intro ((((((((Fr.nil hf).pick hf 63 rfl).pick hf 11 rfl).pick hf 10 rfl).pick hf 9 rfl).pick hf 4 rfl).pick hf 3 rfl).pick hf 0 rfl) (hh.sub (.cons_cons _ List.Sublist.slnil))
                      ·
                        skip
                        refine T.pass (by kernel_rfl) (by kernel_rfl) ?_
                        refine T.pass (by kernel_rfl) (by kernel_rfl) ?_
                        refine T.pass (by kernel_rfl) (by kernel_rfl) ?_
                        refine T.pass (by kernel_rfl) (by kernel_rfl) ?_
                        refine T.pass (by kernel_rfl) (by kernel_rfl) ?_
                        refine T.pass (by kernel_rfl) (by kernel_rfl) ?_
                        refine T.pass (by kernel_rfl) (by kernel_rfl) ?_
                        refine T.pass (by kernel_rfl) (by kernel_rfl) ?_
                        refine T.pass (by kernel_rfl) (by kernel_rfl) ?_
                        refine T.pass (by kernel_rfl) (by kernel_rfl) ?_
                        refine T.pass (by kernel_rfl) (by kernel_rfl) ?_
                        refine T.pass (by kernel_rfl) (by kernel_rfl) ?_
                        refine T.pure (.bool true) (by kernel_rfl) (fun _ => by kernel_rfl) ?_
                        refine T.nil ?_
                        exact fun a w' hf hh => And.intro ((((((((Fr.nil hf).pick hf 63 rfl).pick hf 11 rfl).pick hf 10 rfl).pick hf 9 rfl).pick hf 4 rfl).pick hf 3 rfl).pick hf 0 rfl) (hh.sub (.cons_cons _ List.Sublist.slnil))
                  ·
                    skip
                    refine T.pure (.pointer (some ⟨b1, 5, none⟩)) (by kernel_rfl) (fun _ => by kernel_rfl) ?_
                    refine T.look (.string e1.was) (by kernel_rfl) (fun w' hh => exec_load1 rfl rfl (by kernel_rfl) (hh.cellBox (i := 0) (by rfl) 5)) ?_
                    refine T.pure (.bool (!(seq e1.was (ByteArray.mk #[])))) (by kernel_rfl) (fun _ => by kernel_rfl) ?_
                    refine T.pure (.bool (!(seq e1.was (ByteArray.mk #[])))) (by kernel_rfl) (fun _ => by kernel_rfl) ?_
                    refine T.pure (.bool (!(seq e1.was (ByteArray.mk #[])))) (by kernel_rfl) (fun _ => by kernel_rfl) ?_
                    cases hg7 : (!(seq e1.was (ByteArray.mk #[])))
                    ·
                      skip
                      refine T.pure (.pointer (some ⟨b1, 4, none⟩)) (by kernel_rfl) (fun _ => by kernel_rfl) ?_
                      refine T.look (.bool e1.has) (by kernel_rfl) (fun w' hh => exec_load1 rfl rfl (by kernel_rfl) (hh.cellBox (i := 0) (by rfl) 4)) ?_
                      refine T.pure (.bool (!e1.has)) (by kernel_rfl) (fun _ => by kernel_rfl) ?_
                      refine T.pure (.bool (!e1.has)) (by kernel_rfl) (fun _ => by kernel_rfl) ?_
                      cases hg8 : (!e1.has)
                      ·
                        skip
                        refine T.pass (by kernel_rfl) (by kernel_rfl) ?_
                        refine T.pass (by kernel_rfl) (by kernel_rfl) ?_
                        refine T.pass (by kernel_rfl) (by kernel_rfl) ?_
                        refine T.pure (.bool false) (by kernel_rfl) (fun _ => by kernel_rfl) ?_
                        refine T.pure (.bool false) (by kernel_rfl) (fun _ => by kernel_rfl) ?_
                        refine T.pure (.bool false) (by kernel_rfl) (fun _ => by kernel_rfl) ?_
                        refine T.pure (.pointer (some ⟨b1, 3, none⟩)) (by kernel_rfl) (fun _ => by kernel_rfl) ?_
                        refine T.look (.bool e1.had) (by kernel_rfl) (fun w' hh => exec_load1 rfl rfl (by kernel_rfl) (hh.cellBox (i := 0) (by rfl) 3)) ?_
                        refine T.pure (.pointer (some ⟨b1, 4, none⟩)) (by kernel_rfl) (fun _ => by kernel_rfl) ?_
                        refine T.look (.bool e1.has) (by kernel_rfl) (fun w' hh => exec_load1 rfl rfl (by kernel_rfl) (hh.cellBox (i := 0) (by rfl) 4)) ?_
                        refine T.pure (.bool (e1.had == e1.has)) (by kernel_rfl) (fun _ => by kernel_rfl) ?_
                        refine T.pure (.bool (e1.had == e1.has)) (by kernel_rfl) (fun _ => by kernel_rfl) ?_
                        cases hg9 : (e1.had == e1.has)
                        ·
                          skip
                          refine T.pass (by kernel_rfl) (by kernel_rfl) ?_
                          refine T.pass (by kernel_rfl) (by kernel_rfl) ?_
                          refine T.pass (by kernel_rfl) (by kernel_rfl) ?_
                          refine T.pass (by kernel_rfl) (by kernel_rfl) ?_
                          refine T.pass (by kernel_rfl) (by kernel_rfl) ?_
                          refine T.pure (.bool false) (by kernel_rfl) (fun _ => by kernel_rfl) ?_
                          refine T.pure (.bool false) (by kernel_rfl) (fun _ => by kernel_rfl) ?_
                          refine T.nil ?_
                          exact fun a w' hf hh => And.intro ((((((((Fr.nil hf).pick hf 63 rfl).pick hf 11 rfl).pick hf 10 rfl).pick hf 9 rfl).pick hf 4 rfl).pick hf 3 rfl).pick hf 0 rfl) (hh.sub (.cons_cons _ List.Sublist.slnil))
                        ·
                          skip
                          refine T.pure (.pointer (some ⟨b1, 5, none⟩)) (by kernel_rfl) (fun _ => by kernel_rfl) ?_
                          refine T.look (.string e1.was) (by kernel_rfl) (fun w' hh => exec_load1 rfl rfl (by kernel_rfl) (hh.cellBox (i := 0) (by rfl) 5)) ?_
                          refine T.pure (.pointer (some ⟨b1, 6, none⟩)) (by kernel_rfl) (fun _ => by kernel_rfl) ?_
                          refine T.look (.string e1.is_) (by kernel_rfl) (fun w' hh => exec_load1 rfl rfl (by kernel_rfl) (hh.cellBox (i := 0) (by rfl) 6)) ?_
                          refine T.pure (.bool (seq e1.was e1.is_)) (by kernel_rfl) (fun _ => by kernel_rfl) ?_
                          refine T.pure (.bool (seq e1.was e1.is_)) (by kernel_rfl) (fun _ => by kernel_rfl) ?_
                          refine T.pure (.bool (seq e1.was e1.is_)) (by kernel_rfl) (fun _ => by kernel_rfl) ?_
                          refine T.nil ?_
                          exact fun a w' hf hh => And.intro ((((((((Fr.nil hf).pick hf 63 rfl).pick hf 11 rfl).pick hf 10 rfl).pick hf 9 rfl).pick hf 4 rfl).pick hf 3 rfl).pick hf 0 rfl) (hh.sub (.cons_cons _ List.Sublist.slnil))
                      ·
                        skip
                        refine T.pure (.pointer (some ⟨b1, 6, none⟩)) (by kernel_rfl) (fun _ => by kernel_rfl) ?_
                        refine T.look (.string e1.is_) (by kernel_rfl) (fun w' hh => exec_load1 rfl rfl (by kernel_rfl) (hh.cellBox (i := 0) (by rfl) 6)) ?_
                        refine T.pure (.bool (!(seq e1.is_ (ByteArray.mk #[])))) (by kernel_rfl) (fun _ => by kernel_rfl) ?_
                        refine T.pure (.bool (!(seq e1.is_ (ByteArray.mk #[])))) (by kernel_rfl) (fun _ => by kernel_rfl) ?_
                        refine T.pure (.bool (!(seq e1.is_ (ByteArray.mk #[])))) (by kernel_rfl) (fun _ => by kernel_rfl) ?_
                        refine T.pure (.bool (!(seq e1.is_ (ByteArray.mk #[])))) (by kernel_rfl) (fun _ => by kernel_rfl) ?_
                        cases hg10 : (!(seq e1.is_ (ByteArray.mk #[])))
                        ·
                          skip
                          refine T.pure (.pointer (some ⟨b1, 3, none⟩)) (by kernel_rfl) (fun _ => by kernel_rfl) ?_
                          refine T.look (.bool e1.had) (by kernel_rfl) (fun w' hh => exec_load1 rfl rfl (by kernel_rfl) (hh.cellBox (i := 0) (by rfl) 3)) ?_
                          refine T.pure (.pointer (some ⟨b1, 4, none⟩)) (by kernel_rfl) (fun _ => by kernel_rfl) ?_
                          refine T.look (.bool e1.has) (by kernel_rfl) (fun w' hh => exec_load1 rfl rfl (by kernel_rfl) (hh.cellBox (i := 0) (by rfl) 4)) ?_
                          refine T.pure (.bool (e1.had == e1.has)) (by kernel_rfl) (fun _ => by kernel_rfl) ?_
                          refine T.pure (.bool (e1.had == e1.has)) (by kernel_rfl) (fun _ => by kernel_rfl) ?_
                          cases hg11 : (e1.had == e1.has)
                          ·
                            skip
                            refine T.pass (by kernel_rfl) (by kernel_rfl) ?_
                            refine T.pass (by kernel_rfl) (by kernel_rfl) ?_
                            refine T.pass (by kernel_rfl) (by kernel_rfl) ?_
                            refine T.pass (by kernel_rfl) (by kernel_rfl) ?_
                            refine T.pass (by kernel_rfl) (by kernel_rfl) ?_
                            refine T.pure (.bool false) (by kernel_rfl) (fun _ => by kernel_rfl) ?_
                            refine T.pure (.bool false) (by kernel_rfl) (fun _ => by kernel_rfl) ?_
                            refine T.nil ?_
                            exact fun a w' hf hh => And.intro ((((((((Fr.nil hf).pick hf 63 rfl).pick hf 11 rfl).pick hf 10 rfl).pick hf 9 rfl).pick hf 4 rfl).pick hf 3 rfl).pick hf 0 rfl) (hh.sub (.cons_cons _ List.Sublist.slnil))
                          ·
                            skip
                            refine T.pure (.pointer (some ⟨b1, 5, none⟩)) (by kernel_rfl) (fun _ => by kernel_rfl) ?_
                            refine T.look (.string e1.was) (by kernel_rfl) (fun w' hh => exec_load1 rfl rfl (by kernel_rfl) (hh.cellBox (i := 0) (by rfl) 5)) ?_
                            refine T.pure (.pointer (some ⟨b1, 6, none⟩)) (by kernel_rfl) (fun _ => by kernel_rfl) ?_
                            refine T.look (.string e1.is_) (by kernel_rfl) (fun w' hh => exec_load1 rfl rfl (by kernel_rfl) (hh.cellBox (i := 0) (by rfl) 6)) ?_
                            refine T.pure (.bool (seq e1.was e1.is_)) (by kernel_rfl) (fun _ => by kernel_rfl) ?_
                            refine T.pure (.bool (seq e1.was e1.is_)) (by kernel_rfl) (fun _ => by kernel_rfl) ?_
                            refine T.pure (.bool (seq e1.was e1.is_)) (by kernel_rfl) (fun _ => by kernel_rfl) ?_
                            refine T.nil ?_
                            exact fun a w' hf hh => And.intro ((((((((Fr.nil hf).pick hf 63 rfl).pick hf 11 rfl).pick hf 10 rfl).pick hf 9 rfl).pick hf 4 rfl).pick hf 3 rfl).pick hf 0 rfl) (hh.sub (.cons_cons _ List.Sublist.slnil))
                        ·
                          skip
                          refine T.pass (by kernel_rfl) (by kernel_rfl) ?_
                          refine T.pass (by kernel_rfl) (by kernel_rfl) ?_
                          refine T.pass (by kernel_rfl) (by kernel_rfl) ?_
                          refine T.pass (by kernel_rfl) (by kernel_rfl) ?_
                          refine T.pass (by kernel_rfl) (by kernel_rfl) ?_
                          refine T.pass (by kernel_rfl) (by kernel_rfl) ?_
                          refine T.pass (by kernel_rfl) (by kernel_rfl) ?_
                          refine T.pass (by kernel_rfl) (by kernel_rfl) ?_
                          refine T.pass (by kernel_rfl) (by kernel_rfl) ?_
                          refine T.pass (by kernel_rfl) (by kernel_rfl) ?_
                          refine T.pass (by kernel_rfl) (by kernel_rfl) ?_
                          refine T.pass (by kernel_rfl) (by kernel_rfl) ?_
                          refine T.pure (.bool true) (by kernel_rfl) (fun _ => by kernel_rfl) ?_
                          refine T.nil ?_
                          exact fun a w' hf hh => And.intro ((((((((Fr.nil hf).pick hf 63 rfl).pick hf 11 rfl).pick hf 10 rfl).pick hf 9 rfl).pick hf 4 rfl).pick hf 3 rfl).pick hf 0 rfl) (hh.sub (.cons_cons _ List.Sublist.slnil))
                    ·
                      skip
                      refine T.pass (by kernel_rfl) (by kernel_rfl) ?_
                      refine T.pass (by kernel_rfl) (by kernel_rfl) ?_
                      refine T.pass (by kernel_rfl) (by kernel_rfl) ?_
                      refine T.pass (by kernel_rfl) (by kernel_rfl) ?_
                      refine T.pass (by kernel_rfl) (by kernel_rfl) ?_
                      refine T.pass (by kernel_rfl) (by kernel_rfl) ?_
                      refine T.pass (by kernel_rfl) (by kernel_rfl) ?_
                      refine T.pass (by kernel_rfl) (by kernel_rfl) ?_
                      refine T.pure (.bool true) (by kernel_rfl) (fun _ => by kernel_rfl) ?_
                      refine T.pure (.bool true) (by kernel_rfl) (fun _ => by kernel_rfl) ?_
                      refine T.pass (by kernel_rfl) (by kernel_rfl) ?_
                      refine T.pass (by kernel_rfl) (by kernel_rfl) ?_
                      refine T.pass (by kernel_rfl) (by kernel_rfl) ?_
                      refine T.pass (by kernel_rfl) (by kernel_rfl) ?_
                      refine T.pass (by kernel_rfl) (by kernel_rfl) ?_
                      refine T.pass (by kernel_rfl) (by kernel_rfl) ?_
                      refine T.pass (by kernel_rfl) (by kernel_rfl) ?_
                      refine T.pass (by kernel_rfl) (by kernel_rfl) ?_
                      refine T.pass (by kernel_rfl) (by kernel_rfl) ?_
                      refine T.pass (by kernel_rfl) (by kernel_rfl) ?_
                      refine T.pass (by kernel_rfl) (by kernel_rfl) ?_
                      refine T.pass (by kernel_rfl) (by kernel_rfl) ?_
                      refine T.pure (.bool true) (by kernel_rfl) (fun _ => by kernel_rfl) ?_
                      refine T.nil ?_
                      exact fun a w' hf hh => And.intro ((((((((Fr.nil hf).pick hf 63 rfl).pick hf 11 rfl).pick hf 10 rfl).pick hf 9 rfl).pick hf 4 rfl).pick hf 3 rfl).pick hf 0 rfl) (hh.sub (.cons_cons _ List.Sublist.slnil))
                ·
                  rintro a w' ⟨hf, hh⟩
                  refine (?_ : T 79 w V3 [box b1 44 [.int .i64 e1.key.pfs, .int .i64 e1.key.obj, .int .i64 e1.key.off, .bool e1.had, .bool e1.has, .string e1.was, .string e1.is_]] [(0, .slice A1 p0.length c1), (3, .int .i64 x1), (4, .pointer (some ⟨b1, 0, none⟩)), (9, .slice A1 p0.length c1), (10, .int .i64 (p0.length : Int)), (11, .int .i64 x1), (63, .bool (bif (!e1.had) then ((!(seq e1.was (ByteArray.mk #[]))) || (bif (!e1.has) then ((!(seq e1.is_ (ByteArray.mk #[]))) || ((e1.had == e1.has) && (seq e1.was e1.is_))) else ((e1.had == e1.has) && (seq e1.was e1.is_)))) else (bif (!e1.has) then ((!(seq e1.is_ (ByteArray.mk #[]))) || ((e1.had == e1.has) && (seq e1.was e1.is_))) else ((e1.had == e1.has) && (seq e1.was e1.is_)))))] _) a w' hf hh
                  clear hf hh
                  refine T.cond (bif (!e1.had) then ((!(seq e1.was (ByteArray.mk #[]))) || (bif (!e1.has) then ((!(seq e1.is_ (ByteArray.mk #[]))) || ((e1.had == e1.has) && (seq e1.was e1.is_))) else ((e1.had == e1.has) && (seq e1.was e1.is_)))) else (bif (!e1.has) then ((!(seq e1.is_ (ByteArray.mk #[]))) || ((e1.had == e1.has) && (seq e1.was e1.is_))) else ((e1.had == e1.has) && (seq e1.was e1.is_)))) (by kernel_rfl) (by kernel_rfl) (fun hc5 => ?_) (fun hc5 => ?_)
                  ·
                    rw [hc5, cond_true] at hY1
                    refine T.seq ?_
                    refine T.region ?_
                    refine T.pure (.int .i64 3) (by kernel_rfl) (fun _ => by kernel_rfl) ?_
                    refine T.nil ?_
                    cases hY1
                    cases (hr1 _ rfl)
                    try dsimp only at hF
                    cases hF
                    refine T.ret rfl ?_
                    exact T.ret1 rfl (ResIs.tmp rfl) fun w' hh => ⟨_, rfl, hh.below, (show _ from rfl)⟩
                  ·
                    rw [hc5, cond_false] at hY1
                    refine T.skip_code ?_
                    obtain ⟨z1, hX1, hY1⟩ := Option.bind_eq_some_iff.1 hY1
                    refine T.cut (fun a w' => Fr 79 [(0, .slice A1 p0.length c1), (9, .slice A1 p0.length c1), (10, .int .i64 (p0.length : Int)), (11, .int .i64 x1), (77, .bool z1)] a ∧ Hp w V3 [box b1 44 [.int .i64 e1.key.pfs, .int .i64 e1.key.obj, .int .i64 e1.key.off, .bool e1.had, .bool e1.has, .string e1.was, .string e1.is_]] w') ?_ ?_
                    ·
                      refine T.quiet (by kernel_rfl) (by kernel_rfl) ?_
                      refine TQ.pure (.int .i64 x1) (by kernel_rfl) (fun _ => by kernel_rfl) ?_
                      refine TQ.pure (.bool (decide ((0 : Int) < x1))) (by kernel_rfl) (fun _ => by kernel_rfl) ?_
                      refine TQ.pure (.bool (decide ((0 : Int) < x1))) (by kernel_rfl) (fun _ => by kernel_rfl) ?_
                      cases hg12 : decide ((0 : Int) < x1)
                      ·
                        skip
                        rw [hg12, cond_false] at hX1
                        refine TQ.pass (by kernel_rfl) (by kernel_rfl) ?_
                        refine TQ.pass (by kernel_rfl) (by kernel_rfl) ?_
                        refine TQ.pass (by kernel_rfl) (by kernel_rfl) ?_
                        refine TQ.pass (by kernel_rfl) (by kernel_rfl) ?_
                        refine TQ.pass (by kernel_rfl) (by kernel_rfl) ?_
                        refine TQ.pass (by kernel_rfl) (by kernel_rfl) ?_
                        refine TQ.pass (by kernel_rfl) (by kernel_rfl) ?_
                        refine TQ.pass (by kernel_rfl) (by kernel_rfl) ?_
                        refine TQ.pass (by kernel_rfl) (by kernel_rfl) ?_
                        refine TQ.pass (by kernel_rfl) (by kernel_rfl) ?_
                        refine TQ.pure (.bool false) (by kernel_rfl) (fun _ => by kernel_rfl) ?_
                        refine TQ.nil ?_
                        cases hX1
                        exact fun a w' hf hh => And.intro ((((((Fr.nil hf).pick hf 77 rfl).pick hf 11 rfl).pick hf 10 rfl).pick hf 9 rfl).pick hf 0 rfl) (hh.sub (.cons_cons _ List.Sublist.slnil))
                      ·
                        skip
                        rw [hg12, cond_true] at hX1
                        refine TQ.pure (.slice A1 p0.length c1) (by kernel_rfl) (fun _ => by kernel_rfl) ?_
                        refine TQ.pure (.int .i64 x1) (by kernel_rfl) (fun _ => by kernel_rfl) ?_
                        refine TQ.pure (.int .i64 (IntKind.i64.wrap (x1 - 1))) (by kernel_rfl) (fun _ => by kernel_rfl) ?_
                        obtain ⟨e2, hb3, hX1⟩ := Option.bind_eq_some_iff.1 hX1
                        obtain ⟨hi4, hi5, hi6⟩ := idx_some hb3
                        refine TQ.look (.pointer (some ((sadr A1).add (((IntKind.i64.wrap (x1 - 1)).toNat) * 7)))) (by kernel_rfl) (fun w' hh => exec_indexAddr (e := 44) (s := 7) rfl rfl rfl (by kernel_rfl) (by kernel_rfl) hi4 hi5 ((SlOk.mono hs1 (View.le_trans hV1 hV3)).some_ hi6 (by decide))) ?_
                        refine TQ.pure (.pointer (some ((sadr A1).add (((IntKind.i64.wrap (x1 - 1)).toNat) * 7)))) (by kernel_rfl) (fun _ => by kernel_rfl) ?_
                        refine TQ.look (.agg #[.int .i64 e2.key.pfs, .int .i64 e2.key.obj, .int .i64 e2.key.off]) (by kernel_rfl) (fun w' hh => exec_loadN (cs := [.int .i64 e2.key.pfs, .int .i64 e2.key.obj, .int .i64 e2.key.off]) rfl rfl (by kernel_rfl) (by kernel_rfl) (fun j u hj => (hh.cell_view (SlOk.cellF (E := eChange) (SlOk.mono hs1 (View.le_trans hV1 hV3)) hi6 j (fun _ _ _ h => h) (take_at (n := 3) rfl hj))))) ?_
                        refine TQ.pure (.pointer (some ⟨b1, 0, none⟩)) (by kernel_rfl) (fun _ => by kernel_rfl) ?_
                        refine TQ.look (.agg #[.int .i64 e1.key.pfs, .int .i64 e1.key.obj, .int .i64 e1.key.off]) (by kernel_rfl) (fun w' hh => exec_loadN (cs := [.int .i64 e1.key.pfs, .int .i64 e1.key.obj, .int .i64 e1.key.off]) rfl rfl (by kernel_rfl) (by kernel_rfl) (fun j u hj => (hh.box_at (i := 0) (cs := [.int .i64 e1.key.pfs, .int .i64 e1.key.obj, .int .i64 e1.key.off, .bool e1.had, .bool e1.has, .string e1.was, .string e1.is_]) (by rfl) 0 j).trans (seg_at (n := 3) rfl hj))) ?_
                        obtain ⟨r2, hb4, hX1⟩ := Option.bind_eq_some_iff.1 hX1
                        refine TQ.call (vSc eInt) r2 45 #[.agg #[.int .i64 e2.key.pfs, .int .i64 e2.key.obj, .int .i64 e2.key.off], .agg #[.int .i64 e1.key.pfs, .int .i64 e1.key.obj, .int .i64 e1.key.off]] (.int .i64 r2) (fun V u hu => sureInt V u _ hu) (by kernel_rfl) (fun _ => by kernel_rfl) (fun w' hh => key_Cmp_l e2.key e1.key r2 hb4 w' ) ?_
                        refine TQ.pure (.bool (decide ((0 : Int) ≤ r2))) (by kernel_rfl) (fun _ => by kernel_rfl) ?_
                        refine TQ.pure (.bool (decide ((0 : Int) ≤ r2))) (by kernel_rfl) (fun _ => by kernel_rfl) ?_
                        refine TQ.nil ?_
                        cases hX1
                        exact fun a w' hf hh => And.intro ((((((Fr.nil hf).pick hf 77 rfl).pick hf 11 rfl).pick hf 10 rfl).pick hf 9 rfl).pick hf 0 rfl) (hh.sub (.cons_cons _ List.Sublist.slnil))
                    ·
                      rintro a w' ⟨hf, hh⟩
                      refine (?_ : T 79 w V3 [box b1 44 [.int .i64 e1.key.pfs, .int .i64 e1.key.obj, .int .i64 e1.key.off, .bool e1.had, .bool e1.has, .string e1.was, .string e1.is_]] [(0, .slice A1 p0.length c1), (9, .slice A1 p0.length c1), (10, .int .i64 (p0.length : Int)), (11, .int .i64 x1), (77, .bool z1)] _) a w' hf hh
                      clear hf hh
                      refine T.cond z1 (by kernel_rfl) (by kernel_rfl) (fun hc6 => ?_) (fun hc6 => ?_)
                      ·
                        rw [hc6, cond_true] at hY1
                        refine T.seq ?_
                        refine T.region ?_
                        refine T.pure (.int .i64 3) (by kernel_rfl) (fun _ => by kernel_rfl) ?_
                        refine T.nil ?_
                        cases hY1
                        cases (hr1 _ rfl)
                        try dsimp only at hF
                        cases hF
                        refine T.ret rfl ?_
                        exact T.ret1 rfl (ResIs.tmp rfl) fun w' hh => ⟨_, rfl, hh.below, (show _ from rfl)⟩
                      ·
                        rw [hc6, cond_false] at hY1
                        refine T.skip_code ?_
                        refine T.region ?_
                        refine T.pure (.int .i64 (IntKind.i64.wrap (x1 + 1))) (by kernel_rfl) (fun _ => by kernel_rfl) ?_
                        refine T.pure (.int .i64 (IntKind.i64.wrap (x1 + 1))) (by kernel_rfl) (fun _ => by kernel_rfl) ?_
                        refine T.nil ?_
                        cases hY1
                        exact fun a w' hf hh => Exists.intro (IntKind.i64.wrap (x1 + 1)) (And.intro rfl (Exists.intro V3 (And.intro (View.le_trans hV1 hV3) (And.intro (((((Fr.nil hf).pick hf 11 rfl).pick hf 10 rfl).pick hf 9 rfl).pick hf 0 rfl) (hh.sub (.cons _ List.Sublist.slnil))))))
        ·
          rw [hc2, cond_false] at hY1
          refine T.exit ?_
          cases hY1
          cases (hr1 _ rfl)
          exact fun a w' hf hh => And.intro rfl (Exists.intro V1 (And.intro hV1 (And.intro (Fr.nil hf) (hh.sub List.Sublist.slnil))))
    ·
      rintro a w' ⟨rfl, V2, hV2, hf, hh⟩
      try dsimp only at hF
      refine (?_ : T 79 w V2 [] [] _) a w' hf hh
      clear hf hh
      refine T.seq ?_
      refine T.region ?_
      refine T.pure (.int .i64 0) (by kernel_rfl) (fun _ => by kernel_rfl) ?_
      refine T.nil ?_
      cases hF
      refine T.ret rfl ?_
      exact T.ret1 rfl (ResIs.tmp rfl) fun w' hh => ⟨_, rfl, hh.below, (show _ from rfl)⟩

set_option maxRecDepth 100000 in
set_option maxHeartbeats 4000000 in
theorem change_differs_l (p0 : DChange) (r : Bool) (hF : change_differs p0 = some r) (w : World)  :
    Calls Try.prog 77 #[.agg #[.int .i64 p0.key.pfs, .int .i64 p0.key.obj, .int .i64 p0.key.off, .bool p0.had, .bool p0.has, .string p0.was, .string p0.is_]] w (Post (vSc eBool) r w) := by
  unfold change_differs at hF
  refine T.start (l := [.agg #[.int .i64 p0.key.pfs, .int .i64 p0.key.obj, .int .i64 p0.key.off, .bool p0.had, .bool p0.has, .string p0.was, .string p0.is_]]) Try.func77 rfl rfl rfl ?_
  refine T.seq ?_
  refine T.region ?_
  refine T.step (W1.new 44 [.int .i64 p0.key.pfs, .int .i64 p0.key.obj, .int .i64 p0.key.off, .bool p0.had, .bool p0.has, .string p0.was, .string p0.is_] (fun b => .pointer (some ⟨b, 0, none⟩)) (by kernel_rfl) (fun _ => by kernel_rfl) (fun b1 => ?_))
  refine T.pure (.bool false) (by kernel_rfl) (fun _ => by kernel_rfl) ?_
  refine T.nil ?_
  refine T.cut (fun a w' => Fr 15 [(2, .bool ((!(p0.had == p0.has)) || (!(seq p0.was p0.is_))))] a ∧ Hp w (vw w) [] w') ?_ ?_
  ·
    refine T.region ?_
    refine T.pure (.pointer (some ⟨b1, 3, none⟩)) (by kernel_rfl) (fun _ => by kernel_rfl) ?_
    refine T.look (.bool p0.had) (by kernel_rfl) (fun w' hh => exec_load1 rfl rfl (by kernel_rfl) (hh.cellBox (i := 0) (by rfl) 3)) ?_
    refine T.pure (.pointer (some ⟨b1, 4, none⟩)) (by kernel_rfl) (fun _ => by kernel_rfl) ?_
    refine T.look (.bool p0.has) (by kernel_rfl) (fun w' hh => exec_load1 rfl rfl (by kernel_rfl) (hh.cellBox (i := 0) (by rfl) 4)) ?_
    refine T.pure (.bool (!(p0.had == p0.has))) (by kernel_rfl) (fun _ => by kernel_rfl) ?_
    refine T.pure (.bool (!(p0.had == p0.has))) (by kernel_rfl) (fun _ => by kernel_rfl) ?_
    cases hg1 : (!(p0.had == p0.has))
    ·
      skip
      refine T.pure (.pointer (some ⟨b1, 5, none⟩)) (by kernel_rfl) (fun _ => by kernel_rfl) ?_
      refine T.look (.string p0.was) (by kernel_rfl) (fun w' hh => exec_load1 rfl rfl (by kernel_rfl) (hh.cellBox (i := 0) (by rfl) 5)) ?_
      refine T.pure (.pointer (some ⟨b1, 6, none⟩)) (by kernel_rfl) (fun _ => by kernel_rfl) ?_
      refine T.look (.string p0.is_) (by kernel_rfl) (fun w' hh => exec_load1 rfl rfl (by kernel_rfl) (hh.cellBox (i := 0) (by rfl) 6)) ?_
      refine T.pure (.bool (!(seq p0.was p0.is_))) (by kernel_rfl) (fun _ => by kernel_rfl) ?_
      refine T.pure (.bool (!(seq p0.was p0.is_))) (by kernel_rfl) (fun _ => by kernel_rfl) ?_
      refine T.pure (.bool (!(seq p0.was p0.is_))) (by kernel_rfl) (fun _ => by kernel_rfl) ?_
      refine T.nil ?_
      exact fun a w' hf hh => And.intro ((Fr.nil hf).pick hf 2 rfl) (hh.sub (.cons _ List.Sublist.slnil))
    ·
      skip
      refine T.pass (by kernel_rfl) (by kernel_rfl) ?_
      refine T.pass (by kernel_rfl) (by kernel_rfl) ?_
      refine T.pass (by kernel_rfl) (by kernel_rfl) ?_
      refine T.pass (by kernel_rfl) (by kernel_rfl) ?_
      refine T.pass (by kernel_rfl) (by kernel_rfl) ?_
      refine T.pure (.bool true) (by kernel_rfl) (fun _ => by kernel_rfl) ?_
      refine T.pure (.bool true) (by kernel_rfl) (fun _ => by kernel_rfl) ?_
      refine T.nil ?_
      exact fun a w' hf hh => And.intro ((Fr.nil hf).pick hf 2 rfl) (hh.sub (.cons _ List.Sublist.slnil))
  ·
    rintro a w' ⟨hf, hh⟩
    refine (?_ : T 15 w (vw w) [] [(2, .bool ((!(p0.had == p0.has)) || (!(seq p0.was p0.is_))))] _) a w' hf hh
    clear hf hh
    cases hF
    refine T.ret rfl ?_
    exact T.ret1 rfl (ResIs.tmp rfl) fun w' hh => ⟨_, rfl, hh.below, (show _ from rfl)⟩

set_option maxRecDepth 100000 in
set_option maxHeartbeats 4000000 in
theorem change_Between_l (F : Nat) (p0 : (List DElem)) (p1 : Int) (p2 : Int) (r : ((List DChange)) × Int) (hF : change_Between F p0 p1 p2 = some r) (w : World) (A1 : Option Addr) (c1 : Nat) (hs1 : SlOk (vw w) eElem A1 c1 p0) :
    Calls Try.prog 42 #[.slice A1 p0.length c1, .int .i64 p1, .int .i64 p2] w (Post (vT2 (vSc (eList eChange)) (vSc eInt)) r w) := by
  unfold change_Between at hF
  refine T.start (l := [.slice A1 p0.length c1, .int .i64 p1, .int .i64 p2]) Try.func42 rfl rfl rfl ?_
  refine T.seq ?_
  refine T.region ?_
  refine T.pure (.slice none 0 0) (by kernel_rfl) (fun _ => by kernel_rfl) ?_
  refine T.pure (.int .i64 0) (by kernel_rfl) (fun _ => by kernel_rfl) ?_
  refine T.nil ?_
  refine T.seq ?_
  refine T.seq ?_
  refine T.region ?_
  refine T.pure (.slice A1 p0.length c1) (by kernel_rfl) (fun _ => by kernel_rfl) ?_
  obtain ⟨r1, hb1, hF⟩ := Option.bind_eq_some_iff.1 hF
  refine T.step (W1.call (vSc eInt) r1 30 #[.slice A1 p0.length c1] (by kernel_rfl) (fun _ => by kernel_rfl) (fun w' hh => run_Check_l F p0 r1 hb1 w' A1 c1 (SlOk.mono hs1 hh.view)) ?_)
  intro u V1 hV1 hu
  obtain rfl := sureInt _ _ _ hu
  refine T.pure (.int .i64 r1) (by kernel_rfl) (fun _ => by kernel_rfl) ?_
  refine T.nil ?_
  refine T.seq ?_
  refine T.region ?_
  refine T.pure (.int .i64 r1) (by kernel_rfl) (fun _ => by kernel_rfl) ?_
  refine T.pure (.bool (r1 != 0)) (by kernel_rfl) (fun _ => by kernel_rfl) ?_
  refine T.nil ?_
  refine T.cond (r1 != 0) (by kernel_rfl) (by kernel_rfl) (fun hc1 => ?_) (fun hc1 => ?_)
  ·
    rw [hc1, cond_true] at hF
    refine T.seq ?_
    refine T.region ?_
    refine T.pure (.int .i64 r1) (by kernel_rfl) (fun _ => by kernel_rfl) ?_
    refine T.pure (.slice none 0 0) (by kernel_rfl) (fun _ => by kernel_rfl) ?_
    refine T.pure (.int .i64 r1) (by kernel_rfl) (fun _ => by kernel_rfl) ?_
    refine T.nil ?_
    cases hF
    refine T.ret rfl ?_
    exact T.ret2 rfl (ResIs.tmp rfl) (ResIs.tmp rfl) fun w' hh => ⟨_, rfl, hh.below, (vT2.mk ⟨_, _, rfl, (SlOk.nil _ _)⟩ (show _ from rfl))⟩
  ·
    rw [hc1, cond_false] at hF
    refine T.skip_code ?_
    refine T.seq ?_
    refine T.region ?_
    refine T.pure (.slice none 0 0) (by kernel_rfl) (fun _ => by kernel_rfl) ?_
    refine T.nil ?_
    refine T.seq ?_
    refine T.seq ?_
    refine T.region ?_
    refine T.pure (.int .i64 0) (by kernel_rfl) (fun _ => by kernel_rfl) ?_
    refine T.nil ?_
    refine T.rownil 44 eChange ?_
    obtain ⟨z1, hz1, hF⟩ := Option.bind_eq_some_iff.1 hF
    refine T.mid (fun a w' => ∃ (A3 : Option Addr) (c3 : Nat) (V3 : View), View.le V1 V3 ∧ Fr 76 [(9, .slice A3 z1.length c3)] a ∧ Hp w V3 [row 44 eChange A3 c3 z1] w') ?_ ?_
    ·
      refine T.block ?_
      refine T.iter (fun s1 a w' => ∃ (x1 : List DChange) (x2 : Int), s1 = (x1, x2) ∧ ∃ (A2 : Option Addr) (c2 : Nat) (V2 : View), View.le V1 V2 ∧ Fr 76 [(0, .slice A1 p0.length c1), (1, .int .i64 p1), (2, .int .i64 p2), (9, .slice A2 x1.length c2), (10, .int .i64 x2)] a ∧ Hp w V2 [row 44 eChange A2 c2 x1] w') hz1 ?_ ?_
      ·
        exact fun a w' hf hh => Exists.intro [] (Exists.intro 0 (And.intro rfl (Exists.intro none (Exists.intro 0 (Exists.intro V1 (And.intro (View.le_refl _) (And.intro ((((((Fr.nil hf).pick hf 10 rfl).pick hf 9 rfl).pick hf 2 rfl).pick hf 1 rfl).pick hf 0 rfl) (hh.sub (.cons_cons _ List.Sublist.slnil)))))))))
      ·
        rintro s1 y1 hY1 hr1 a w' ⟨x1, x2, rfl, A2, c2, V2, hV2, hf, hh⟩
        refine (?_ : T 76 w V2 [row 44 eChange A2 c2 x1] [(0, .slice A1 p0.length c1), (1, .int .i64 p1), (2, .int .i64 p2), (9, .slice A2 x1.length c2), (10, .int .i64 x2)] _) a w' hf hh
        clear hf hh
        try dsimp only at hY1
        refine T.seq ?_
        refine T.seq ?_
        refine T.region ?_
        refine T.pure (.int .i64 x2) (by kernel_rfl) (fun _ => by kernel_rfl) ?_
        refine T.pure (.slice A1 p0.length c1) (by kernel_rfl) (fun _ => by kernel_rfl) ?_
        refine T.pure (.int .i64 (p0.length : Int)) (by kernel_rfl) (fun _ => by kernel_rfl) ?_
        refine T.pure (.bool (decide (x2 < (p0.length : Int)))) (by kernel_rfl) (fun _ => by kernel_rfl) ?_
        refine T.nil ?_
        refine T.cond (decide (x2 < (p0.length : Int))) (by kernel_rfl) (by kernel_rfl) (fun hc2 => ?_) (fun hc2 => ?_)
        ·
          rw [hc2, cond_true] at hY1
          refine T.skip_code ?_
          refine T.block ?_
          refine T.seq ?_
          refine T.region ?_
          refine T.pure (.slice A1 p0.length c1) (by kernel_rfl) (fun _ => by kernel_rfl) ?_
          refine T.pure (.int .i64 x2) (by kernel_rfl) (fun _ => by kernel_rfl) ?_
          obtain ⟨e1, hb2, hY1⟩ := Option.bind_eq_some_iff.1 hY1
          obtain ⟨hi1, hi2, hi3⟩ := idx_some hb2
          refine T.look (.pointer (some ((sadr A1).add (x2.toNat * 6)))) (by kernel_rfl) (fun w' hh => exec_indexAddr (e := 26) (s := 6) rfl rfl rfl (by kernel_rfl) (by kernel_rfl) hi1 hi2 ((SlOk.mono hs1 (View.le_trans hV1 hV2)).some_ hi3 (by decide))) ?_
          refine T.pure (.pointer (some ((sadr A1).add (x2.toNat * 6)))) (by kernel_rfl) (fun _ => by kernel_rfl) ?_
          refine T.look (.agg #[.int .i64 e1.key.pfs, .int .i64 e1.key.obj, .int .i64 e1.key.off]) (by kernel_rfl) (fun w' hh => exec_loadN (cs := [.int .i64 e1.key.pfs, .int .i64 e1.key.obj, .int .i64 e1.key.off]) rfl rfl (by kernel_rfl) (by kernel_rfl) (fun j u hj => (hh.cell_view (SlOk.cellF (E := eElem) (SlOk.mono hs1 (View.le_trans hV1 hV2)) hi3 j (fun _ _ _ h => h) (take_at (n := 3) rfl hj))))) ?_
          refine T.pure (.agg #[.int .i64 e1.key.pfs, .int .i64 e1.key.obj, .int .i64 e1.key.off, .bool false, .bool false, .string (ByteArray.mk #[]), .string (ByteArray.mk #[])]) (by kernel_rfl) (fun _ => by kernel_rfl) ?_
          refine T.step (W1.new 44 [.int .i64 0, .int .i64 0, .int .i64 0, .bool false, .bool false, .string (ByteArray.mk #[]), .string (ByteArray.mk #[])] (fun b => .pointer (some ⟨b, 0, none⟩)) (by kernel_rfl) (fun _ => by kernel_rfl) (fun b1 => ?_))
          refine T.step (W1.store 0 [.int .i64 e1.key.pfs, .int .i64 e1.key.obj, .int .i64 e1.key.off, .bool false, .bool false, .string (ByteArray.mk #[]), .string (ByteArray.mk #[])] [box b1 44 [.int .i64 e1.key.pfs, .int .i64 e1.key.obj, .int .i64 e1.key.off, .bool false, .bool false, .string (ByteArray.mk #[]), .string (ByteArray.mk #[])], row 44 eChange A2 c2 x1] (by rfl) rfl (by kernel_rfl) (fun w' hw => exec_store (vs := [.int .i64 e1.key.pfs, .int .i64 e1.key.obj, .int .i64 e1.key.off, .bool false, .bool false, .string (ByteArray.mk #[]), .string (ByteArray.mk #[])]) rfl rfl rfl rfl (by kernel_rfl) (one_of rfl) (by simp) rfl hw) ?_)
          refine T.nil ?_
          obtain ⟨q1, hz2, hY1⟩ := Option.bind_eq_some_iff.1 hY1
          refine T.cut (fun a w' => ∃ (z2 : Bool) (z3 : Bool) (z4 : ByteArray) (z5 : ByteArray) (z6 : Int), q1 = (z2, z3, z4, z5, z6) ∧ ∃ (V5 : View), View.le V2 V5 ∧ Fr 76 [(0, .slice A1 p0.length c1), (1, .int .i64 p1), (2, .int .i64 p2), (9, .slice A2 x1.length c2), (10, .int .i64 z6), (11, .pointer (some ⟨b1, 0, none⟩))] a ∧ Hp w V5 [box b1 44 [.int .i64 e1.key.pfs, .int .i64 e1.key.obj, .int .i64 e1.key.off, .bool z2, .bool z3, .string z4, .string z5], row 44 eChange A2 c2 x1] w') ?_ ?_
          ·
            refine T.block ?_
            refine T.iter (fun s2 a w' => ∃ (x3 : Bool) (x4 : Bool) (x5 : ByteArray) (x6 : ByteArray) (x7 : Int), s2 = (x3, x4, x5, x6, x7) ∧ ∃ (V4 : View), View.le V2 V4 ∧ Fr 76 [(0, .slice A1 p0.length c1), (1, .int .i64 p1), (2, .int .i64 p2), (9, .slice A2 x1.length c2), (10, .int .i64 x7), (11, .pointer (some ⟨b1, 0, none⟩))] a ∧ Hp w V4 [box b1 44 [.int .i64 e1.key.pfs, .int .i64 e1.key.obj, .int .i64 e1.key.off, .bool x3, .bool x4, .string x5, .string x6], row 44 eChange A2 c2 x1] w') hz2 ?_ ?_
            ·
              exact fun a w' hf hh => Exists.intro false (Exists.intro false (Exists.intro (ByteArray.mk #[]) (Exists.intro (ByteArray.mk #[]) (Exists.intro x2 (And.intro rfl (Exists.intro V2 (And.intro (View.le_refl _) (And.intro (((((((Fr.nil hf).pick hf 11 rfl).pick hf 10 rfl).pick hf 9 rfl).pick hf 2 rfl).pick hf 1 rfl).pick hf 0 rfl) (hh.sub (.cons_cons _ (.cons_cons _ List.Sublist.slnil)))))))))))
            ·
              rintro s2 y2 hY2 hr2 a w' ⟨x3, x4, x5, x6, x7, rfl, V4, hV4, hf, hh⟩
              refine (?_ : T 76 w V4 [box b1 44 [.int .i64 e1.key.pfs, .int .i64 e1.key.obj, .int .i64 e1.key.off, .bool x3, .bool x4, .string x5, .string x6], row 44 eChange A2 c2 x1] [(0, .slice A1 p0.length c1), (1, .int .i64 p1), (2, .int .i64 p2), (9, .slice A2 x1.length c2), (10, .int .i64 x7), (11, .pointer (some ⟨b1, 0, none⟩))] _) a w' hf hh
              clear hf hh
              try dsimp only at hY2
              refine T.seq ?_
              obtain ⟨z7, hX1, hY2⟩ := Option.bind_eq_some_iff.1 hY2
              refine T.cut (fun a w' => Fr 76 [(0, .slice A1 p0.length c1), (1, .int .i64 p1), (2, .int .i64 p2), (9, .slice A2 x1.length c2), (10, .int .i64 x7), (11, .pointer (some ⟨b1, 0, none⟩)), (40, .bool z7)] a ∧ Hp w V4 [box b1 44 [.int .i64 e1.key.pfs, .int .i64 e1.key.obj, .int .i64 e1.key.off, .bool x3, .bool x4, .string x5, .string x6], row 44 eChange A2 c2 x1] w') ?_ ?_
              ·
                refine T.quiet (by kernel_rfl) (by kernel_rfl) ?_
                refine TQ.pure (.int .i64 x7) (by kernel_rfl) (fun _ => by kernel_rfl) ?_
                refine TQ.pure (.slice A1 p0.length c1) (by kernel_rfl) (fun _ => by kernel_rfl) ?_
                refine TQ.pure (.int .i64 (p0.length : Int)) (by kernel_rfl) (fun _ => by kernel_rfl) ?_
                refine TQ.pure (.bool (decide (x7 < (p0.length : Int)))) (by kernel_rfl) (fun _ => by kernel_rfl) ?_
                refine TQ.pure (.bool (decide (x7 < (p0.length : Int)))) (by kernel_rfl) (fun _ => by kernel_rfl) ?_
                cases hg1 : decide (x7 < (p0.length : Int))
                ·
                  skip
                  rw [hg1, cond_false] at hX1
                  refine TQ.pass (by kernel_rfl) (by kernel_rfl) ?_
                  refine TQ.pass (by kernel_rfl) (by kernel_rfl) ?_
                  refine TQ.pass (by kernel_rfl) (by kernel_rfl) ?_
                  refine TQ.pass (by kernel_rfl) (by kernel_rfl) ?_
                  refine TQ.pass (by kernel_rfl) (by kernel_rfl) ?_
                  refine TQ.pass (by kernel_rfl) (by kernel_rfl) ?_
                  refine TQ.pass (by kernel_rfl) (by kernel_rfl) ?_
                  refine TQ.pass (by kernel_rfl) (by kernel_rfl) ?_
                  refine TQ.pure (.bool false) (by kernel_rfl) (fun _ => by kernel_rfl) ?_
                  refine TQ.nil ?_
                  cases hX1
                  exact fun a w' hf hh => And.intro ((((((((Fr.nil hf).pick hf 40 rfl).pick hf 11 rfl).pick hf 10 rfl).pick hf 9 rfl).pick hf 2 rfl).pick hf 1 rfl).pick hf 0 rfl) (hh.sub (.cons_cons _ (.cons_cons _ List.Sublist.slnil)))
                ·
                  skip
                  rw [hg1, cond_true] at hX1
                  refine TQ.pure (.slice A1 p0.length c1) (by kernel_rfl) (fun _ => by kernel_rfl) ?_
                  refine TQ.pure (.int .i64 x7) (by kernel_rfl) (fun _ => by kernel_rfl) ?_
                  obtain ⟨e2, hb3, hX1⟩ := Option.bind_eq_some_iff.1 hX1
                  obtain ⟨hi4, hi5, hi6⟩ := idx_some hb3
                  refine TQ.look (.pointer (some ((sadr A1).add (x7.toNat * 6)))) (by kernel_rfl) (fun w' hh => exec_indexAddr (e := 26) (s := 6) rfl rfl rfl (by kernel_rfl) (by kernel_rfl) hi4 hi5 ((SlOk.mono hs1 (View.le_trans (View.le_trans hV1 hV2) hV4)).some_ hi6 (by decide))) ?_
                  refine TQ.pure (.pointer (some ((sadr A1).add (x7.toNat * 6)))) (by kernel_rfl) (fun _ => by kernel_rfl) ?_
                  refine TQ.look (.agg #[.int .i64 e2.key.pfs, .int .i64 e2.key.obj, .int .i64 e2.key.off]) (by kernel_rfl) (fun w' hh => exec_loadN (cs := [.int .i64 e2.key.pfs, .int .i64 e2.key.obj, .int .i64 e2.key.off]) rfl rfl (by kernel_rfl) (by kernel_rfl) (fun j u hj => (hh.cell_view (SlOk.cellF (E := eElem) (SlOk.mono hs1 (View.le_trans (View.le_trans hV1 hV2) hV4)) hi6 j (fun _ _ _ h => h) (take_at (n := 3) rfl hj))))) ?_
                  refine TQ.pure (.pointer (some ⟨b1, 0, none⟩)) (by kernel_rfl) (fun _ => by kernel_rfl) ?_
                  refine TQ.look (.agg #[.int .i64 e1.key.pfs, .int .i64 e1.key.obj, .int .i64 e1.key.off]) (by kernel_rfl) (fun w' hh => exec_loadN (cs := [.int .i64 e1.key.pfs, .int .i64 e1.key.obj, .int .i64 e1.key.off]) rfl rfl (by kernel_rfl) (by kernel_rfl) (fun j u hj => (hh.box_at (i := 0) (cs := [.int .i64 e1.key.pfs, .int .i64 e1.key.obj, .int .i64 e1.key.off, .bool x3, .bool x4, .string x5, .string x6]) (by rfl) 0 j).trans (seg_at (n := 3) rfl hj))) ?_
                  refine TQ.look (.bool (e2.key == e1.key)) (by kernel_rfl) (fun w' hh => exec_eql_DKey e2.key e1.key w' rfl rfl rfl) ?_
                  refine TQ.pure (.bool (e2.key == e1.key)) (by kernel_rfl) (fun _ => by kernel_rfl) ?_
                  refine TQ.nil ?_
                  cases hX1
                  exact fun a w' hf hh => And.intro ((((((((Fr.nil hf).pick hf 40 rfl).pick hf 11 rfl).pick hf 10 rfl).pick hf 9 rfl).pick hf 2 rfl).pick hf 1 rfl).pick hf 0 rfl) (hh.sub (.cons_cons _ (.cons_cons _ List.Sublist.slnil)))
              ·
                rintro a w' ⟨hf, hh⟩
                refine (?_ : T 76 w V4 [box b1 44 [.int .i64 e1.key.pfs, .int .i64 e1.key.obj, .int .i64 e1.key.off, .bool x3, .bool x4, .string x5, .string x6], row 44 eChange A2 c2 x1] [(0, .slice A1 p0.length c1), (1, .int .i64 p1), (2, .int .i64 p2), (9, .slice A2 x1.length c2), (10, .int .i64 x7), (11, .pointer (some ⟨b1, 0, none⟩)), (40, .bool z7)] _) a w' hf hh
                clear hf hh
                refine T.cond z7 (by kernel_rfl) (by kernel_rfl) (fun hc3 => ?_) (fun hc3 => ?_)
                ·
                  rw [hc3, cond_true] at hY2
                  refine T.skip_code ?_
                  obtain ⟨q2, hX2, hY2⟩ := Option.bind_eq_some_iff.1 hY2
                  refine T.cut (fun a w' => ∃ (z8 : Bool) (z9 : Bool) (z10 : ByteArray) (z11 : ByteArray), q2 = (z8, z9, z10, z11) ∧ ∃ (V6 : View), View.le V4 V6 ∧ Fr 76 [(0, .slice A1 p0.length c1), (1, .int .i64 p1), (2, .int .i64 p2), (9, .slice A2 x1.length c2), (10, .int .i64 x7), (11, .pointer (some ⟨b1, 0, none⟩))] a ∧ Hp w V6 [box b1 44 [.int .i64 e1.key.pfs, .int .i64 e1.key.obj, .int .i64 e1.key.off, .bool z8, .bool z9, .string z10, .string z11], row 44 eChange A2 c2 x1] w') ?_ ?_
                  ·
                    refine T.block ?_
                    obtain ⟨q3, hX3, hX2⟩ := Option.bind_eq_some_iff.1 hX2
                    refine T.cut (fun a w' => ∃ (z12 : Bool) (z13 : ByteArray), q3 = (z12, z13) ∧ ∃ (V7 : View), View.le V4 V7 ∧ Fr 76 [(0, .slice A1 p0.length c1), (1, .int .i64 p1), (2, .int .i64 p2), (9, .slice A2 x1.length c2), (10, .int .i64 x7), (11, .pointer (some ⟨b1, 0, none⟩))] a ∧ Hp w V7 [box b1 44 [.int .i64 e1.key.pfs, .int .i64 e1.key.obj, .int .i64 e1.key.off, .bool z12, .bool x4, .string z13, .string x6], row 44 eChange A2 c2 x1] w') ?_ ?_
                    ·
                      refine T.seq ?_
                      refine T.region ?_
                      refine T.pure (.slice A1 p0.length c1) (by kernel_rfl) (fun _ => by kernel_rfl) ?_
                      refine T.pure (.int .i64 x7) (by kernel_rfl) (fun _ => by kernel_rfl) ?_
                      obtain ⟨e3, hb4, hX3⟩ := Option.bind_eq_some_iff.1 hX3
                      obtain ⟨hi7, hi8, hi9⟩ := idx_some hb4
                      refine T.look (.pointer (some ((sadr A1).add (x7.toNat * 6)))) (by kernel_rfl) (fun w' hh => exec_indexAddr (e := 26) (s := 6) rfl rfl rfl (by kernel_rfl) (by kernel_rfl) hi7 hi8 ((SlOk.mono hs1 (View.le_trans (View.le_trans hV1 hV2) hV4)).some_ hi9 (by decide))) ?_
                      refine T.look (.agg #[.int .i64 e3.key.pfs, .int .i64 e3.key.obj, .int .i64 e3.key.off, .int .i64 e3.made, .int .i64 e3.gone, .string e3.val]) (by kernel_rfl) (fun w' hh => exec_loadN (cs := [.int .i64 e3.key.pfs, .int .i64 e3.key.obj, .int .i64 e3.key.off, .int .i64 e3.made, .int .i64 e3.gone, .string e3.val]) rfl rfl (by kernel_rfl) (by kernel_rfl) (fun j u hj => (hh.cell_view (SlOk.cellF (E := eElem) (SlOk.mono hs1 (View.le_trans (View.le_trans hV1 hV2) hV4)) hi9 j (fun _ _ _ h => h) hj)))) ?_
                      refine T.pure (.int .i64 p1) (by kernel_rfl) (fun _ => by kernel_rfl) ?_
                      obtain ⟨r3, hb5, hX3⟩ := Option.bind_eq_some_iff.1 hX3
                      refine T.step (W1.call (vSc eBool) r3 71 #[.agg #[.int .i64 e3.key.pfs, .int .i64 e3.key.obj, .int .i64 e3.key.off, .int .i64 e3.made, .int .i64 e3.gone, .string e3.val], .int .i64 p1] (by kernel_rfl) (fun _ => by kernel_rfl) (fun w' hh => elem_Live_l e3 p1 r3 hb5 w' ) ?_)
                      intro u V8 hV8 hu
                      obtain rfl := sureBool _ _ _ hu
                      refine T.nil ?_
                      refine T.cond r3 (by kernel_rfl) (by kernel_rfl) (fun hc4 => ?_) (fun hc4 => ?_)
                      ·
                        rw [hc4, cond_true] at hX3
                        refine T.held [row 44 eChange A2 c2 x1] (by kernel_rfl) ?_
                        refine TA.take 0 (.slice A1 p0.length c1) rfl (by kernel_rfl) (by kernel_rfl) (by kernel_rfl) (fun _ _ _ h => h) (Hp.old (View.le_refl _) (View.le_trans (View.le_trans (View.le_trans hV1 hV2) hV4) hV8) (.cons _ (.cons_cons _ List.Sublist.slnil)) (OldAll.row (fun _ _ _ _ h => h) OldAll.nil)) (by kernel_rfl) (fun _ _ => by kernel_rfl) ?_
                        refine TA.take 1 (.int .i64 x7) rfl (by kernel_rfl) (by kernel_rfl) (by kernel_rfl) (fun _ _ _ h => h) (Hp.old (View.le_refl _) (View.le_trans (View.le_trans (View.le_trans hV1 hV2) hV4) hV8) (.cons _ (.cons_cons _ List.Sublist.slnil)) (OldAll.row (fun _ _ _ _ h => h) OldAll.nil)) (by kernel_rfl) (fun _ _ => by kernel_rfl) ?_
                        obtain ⟨e4, hb6, hX3⟩ := Option.bind_eq_some_iff.1 hX3
                        obtain ⟨hi10, hi11, hi12⟩ := idx_some hb6
                        refine TA.take 2 (.pointer (some ((sadr A1).add (x7.toNat * 6)))) rfl (by kernel_rfl) (by kernel_rfl) (by kernel_rfl) (fun _ _ _ h => h) (Hp.old (View.le_refl _) (View.le_trans (View.le_trans (View.le_trans hV1 hV2) hV4) hV8) (.cons _ (.cons_cons _ List.Sublist.slnil)) (OldAll.row (fun _ _ _ _ h => h) OldAll.nil)) (by kernel_rfl) (fun w' hh => exec_indexAddr (e := 26) (s := 6) rfl rfl rfl (by kernel_rfl) (by kernel_rfl) hi10 hi11 ((SlOk.mono hs1 (View.le_trans (View.le_trans (View.le_trans hV1 hV2) hV4) hV8)).some_ hi12 (by decide))) ?_
                        refine TA.take 3 (.pointer (some (((sadr A1).add (x7.toNat * 6)).add 5))) rfl (by kernel_rfl) (by kernel_rfl) (by kernel_rfl) (fun _ _ _ h => h) (Hp.old (View.le_refl _) (View.le_trans (View.le_trans (View.le_trans hV1 hV2) hV4) hV8) (.cons _ (.cons_cons _ List.Sublist.slnil)) (OldAll.row (fun _ _ _ _ h => h) OldAll.nil)) (by kernel_rfl) (fun _ _ => by kernel_rfl) ?_
                        refine TA.take 4 (.string e4.val) rfl (by kernel_rfl) (by kernel_rfl) (by kernel_rfl) (fun _ _ _ h => h) (Hp.old (View.le_refl _) (View.le_trans (View.le_trans (View.le_trans hV1 hV2) hV4) hV8) (.cons _ (.cons_cons _ List.Sublist.slnil)) (OldAll.row (fun _ _ _ _ h => h) OldAll.nil)) (by kernel_rfl) (fun w' hh => exec_load1 rfl rfl (by kernel_rfl) (hh.cell_view (SlOk.cellF (E := eElem) (SlOk.mono hs1 (View.le_trans (View.le_trans (View.le_trans hV1 hV2) hV4) hV8)) hi12 5 (fun _ _ _ h => h) rfl))) ?_
                        refine TA.take 5 (.pointer (some ⟨b1, 3, none⟩)) rfl (by kernel_rfl) (by kernel_rfl) (by kernel_rfl) (fun _ _ _ h => h) (Hp.old (View.le_refl _) (View.le_trans (View.le_trans (View.le_trans hV1 hV2) hV4) hV8) (.cons _ (.cons_cons _ List.Sublist.slnil)) (OldAll.row (fun _ _ _ _ h => h) OldAll.nil)) (by kernel_rfl) (fun _ _ => by kernel_rfl) ?_
                        refine TA.all [6] (by kernel_rfl) rfl ⟨?_, trivial⟩
                        refine TA.br rfl (W1.store 0 [.int .i64 e1.key.pfs, .int .i64 e1.key.obj, .int .i64 e1.key.off, .bool true, .bool x4, .string x5, .string x6] [box b1 44 [.int .i64 e1.key.pfs, .int .i64 e1.key.obj, .int .i64 e1.key.off, .bool true, .bool x4, .string x5, .string x6], row 44 eChange A2 c2 x1] (by rfl) rfl (by kernel_rfl) (fun w' hw => exec_store (vs := [.bool true]) rfl rfl rfl rfl (by kernel_rfl) (one_of rfl) (by simp) rfl hw) ?_)
                        refine TA.on (Hp.old (View.le_refl _) (View.le_trans (View.le_trans (View.le_trans hV1 hV2) hV4) hV8) (.cons _ (.cons_cons _ List.Sublist.slnil)) (OldAll.row (fun _ _ _ _ h => h) OldAll.nil)) ?_
                        refine TA.take 7 (.pointer (some ⟨b1, 5, none⟩)) rfl (by kernel_rfl) (by kernel_rfl) (by kernel_rfl) (fun _ _ _ h => h) (Hp.old (View.le_refl _) (View.le_trans (View.le_trans (View.le_trans hV1 hV2) hV4) hV8) (.cons _ (.cons_cons _ List.Sublist.slnil)) (OldAll.row (fun _ _ _ _ h => h) OldAll.nil)) (by kernel_rfl) (fun _ _ => by kernel_rfl) ?_
                        refine TA.all [8] (by kernel_rfl) rfl ⟨?_, trivial⟩
                        refine TA.br rfl (W1.store 0 [.int .i64 e1.key.pfs, .int .i64 e1.key.obj, .int .i64 e1.key.off, .bool true, .bool x4, .string e4.val, .string x6] [box b1 44 [.int .i64 e1.key.pfs, .int .i64 e1.key.obj, .int .i64 e1.key.off, .bool true, .bool x4, .string e4.val, .string x6], row 44 eChange A2 c2 x1] (by rfl) rfl (by kernel_rfl) (fun w' hw => exec_store (vs := [.string e4.val]) rfl rfl rfl rfl (by kernel_rfl) (one_of rfl) (by simp) rfl hw) ?_)
                        refine TA.on (Hp.old (View.le_refl _) (View.le_trans (View.le_trans (View.le_trans hV1 hV2) hV4) hV8) (.cons _ (.cons_cons _ List.Sublist.slnil)) (OldAll.row (fun _ _ _ _ h => h) OldAll.nil)) ?_
                        refine TA.done (by kernel_rfl) ?_
                        cases hX3
                        exact fun a w' hf hh => Exists.intro true (Exists.intro e4.val (And.intro rfl (Exists.intro V8 (And.intro hV8 (And.intro (((((((Fr.nil hf).pick hf 11 rfl).pick hf 10 rfl).pick hf 9 rfl).pick hf 2 rfl).pick hf 1 rfl).pick hf 0 rfl) (hh.sub (.cons_cons _ (.cons_cons _ List.Sublist.slnil))))))))
                      ·
                        rw [hc4, cond_false] at hX3
                        refine T.skip_code ?_
                        cases hX3
                        exact fun a w' hf hh => Exists.intro x3 (Exists.intro x5 (And.intro rfl (Exists.intro V8 (And.intro hV8 (And.intro (((((((Fr.nil hf).pick hf 11 rfl).pick hf 10 rfl).pick hf 9 rfl).pick hf 2 rfl).pick hf 1 rfl).pick hf 0 rfl) (hh.sub (.cons_cons _ (.cons_cons _ List.Sublist.slnil))))))))
                    ·
                      rintro a w' ⟨z12, z13, rfl, V7, hV7, hf, hh⟩
                      try dsimp only at hX2
                      refine (?_ : T 76 w V7 [box b1 44 [.int .i64 e1.key.pfs, .int .i64 e1.key.obj, .int .i64 e1.key.off, .bool z12, .bool x4, .string z13, .string x6], row 44 eChange A2 c2 x1] [(0, .slice A1 p0.length c1), (1, .int .i64 p1), (2, .int .i64 p2), (9, .slice A2 x1.length c2), (10, .int .i64 x7), (11, .pointer (some ⟨b1, 0, none⟩))] _) a w' hf hh
                      clear hf hh
                      refine T.seq ?_
                      refine T.region ?_
                      refine T.pure (.slice A1 p0.length c1) (by kernel_rfl) (fun _ => by kernel_rfl) ?_
                      refine T.pure (.int .i64 x7) (by kernel_rfl) (fun _ => by kernel_rfl) ?_
                      obtain ⟨e5, hb7, hX2⟩ := Option.bind_eq_some_iff.1 hX2
                      obtain ⟨hi13, hi14, hi15⟩ := idx_some hb7
                      refine T.look (.pointer (some ((sadr A1).add (x7.toNat * 6)))) (by kernel_rfl) (fun w' hh => exec_indexAddr (e := 26) (s := 6) rfl rfl rfl (by kernel_rfl) (by kernel_rfl) hi13 hi14 ((SlOk.mono hs1 (View.le_trans (View.le_trans (View.le_trans hV1 hV2) hV4) hV7)).some_ hi15 (by decide))) ?_
                      refine T.look (.agg #[.int .i64 e5.key.pfs, .int .i64 e5.key.obj, .int .i64 e5.key.off, .int .i64 e5.made, .int .i64 e5.gone, .string e5.val]) (by kernel_rfl) (fun w' hh => exec_loadN (cs := [.int .i64 e5.key.pfs, .int .i64 e5.key.obj, .int .i64 e5.key.off, .int .i64 e5.made, .int .i64 e5.gone, .string e5.val]) rfl rfl (by kernel_rfl) (by kernel_rfl) (fun j u hj => (hh.cell_view (SlOk.cellF (E := eElem) (SlOk.mono hs1 (View.le_trans (View.le_trans (View.le_trans hV1 hV2) hV4) hV7)) hi15 j (fun _ _ _ h => h) hj)))) ?_
                      refine T.pure (.int .i64 p2) (by kernel_rfl) (fun _ => by kernel_rfl) ?_
                      obtain ⟨r4, hb8, hX2⟩ := Option.bind_eq_some_iff.1 hX2
                      refine T.step (W1.call (vSc eBool) r4 71 #[.agg #[.int .i64 e5.key.pfs, .int .i64 e5.key.obj, .int .i64 e5.key.off, .int .i64 e5.made, .int .i64 e5.gone, .string e5.val], .int .i64 p2] (by kernel_rfl) (fun _ => by kernel_rfl) (fun w' hh => elem_Live_l e5 p2 r4 hb8 w' ) ?_)
                      intro u V9 hV9 hu
                      obtain rfl := sureBool _ _ _ hu
                      refine T.nil ?_
                      refine T.cond r4 (by kernel_rfl) (by kernel_rfl) (fun hc5 => ?_) (fun hc5 => ?_)
                      ·
                        rw [hc5, cond_true] at hX2
                        refine T.held [row 44 eChange A2 c2 x1] (by kernel_rfl) ?_
                        refine TA.take 0 (.slice A1 p0.length c1) rfl (by kernel_rfl) (by kernel_rfl) (by kernel_rfl) (fun _ _ _ h => h) (Hp.old (View.le_refl _) (View.le_trans (View.le_trans (View.le_trans (View.le_trans hV1 hV2) hV4) hV7) hV9) (.cons _ (.cons_cons _ List.Sublist.slnil)) (OldAll.row (fun _ _ _ _ h => h) OldAll.nil)) (by kernel_rfl) (fun _ _ => by kernel_rfl) ?_
                        refine TA.take 1 (.int .i64 x7) rfl (by kernel_rfl) (by kernel_rfl) (by kernel_rfl) (fun _ _ _ h => h) (Hp.old (View.le_refl _) (View.le_trans (View.le_trans (View.le_trans (View.le_trans hV1 hV2) hV4) hV7) hV9) (.cons _ (.cons_cons _ List.Sublist.slnil)) (OldAll.row (fun _ _ _ _ h => h) OldAll.nil)) (by kernel_rfl) (fun _ _ => by kernel_rfl) ?_
                        obtain ⟨e6, hb9, hX2⟩ := Option.bind_eq_some_iff.1 hX2
                        obtain ⟨hi16, hi17, hi18⟩ := idx_some hb9
                        refine TA.take 2 (.pointer (some ((sadr A1).add (x7.toNat * 6)))) rfl (by kernel_rfl) (by kernel_rfl) (by kernel_rfl) (fun _ _ _ h => h) (Hp.old (View.le_refl _) (View.le_trans (View.le_trans (View.le_trans (View.le_trans hV1 hV2) hV4) hV7) hV9) (.cons _ (.cons_cons _ List.Sublist.slnil)) (OldAll.row (fun _ _ _ _ h => h) OldAll.nil)) (by kernel_rfl) (fun w' hh => exec_indexAddr (e := 26) (s := 6) rfl rfl rfl (by kernel_rfl) (by kernel_rfl) hi16 hi17 ((SlOk.mono hs1 (View.le_trans (View.le_trans (View.le_trans (View.le_trans hV1 hV2) hV4) hV7) hV9)).some_ hi18 (by decide))) ?_
                        refine TA.take 3 (.pointer (some (((sadr A1).add (x7.toNat * 6)).add 5))) rfl (by kernel_rfl) (by kernel_rfl) (by kernel_rfl) (fun _ _ _ h => h) (Hp.old (View.le_refl _) (View.le_trans (View.le_trans (View.le_trans (View.le_trans hV1 hV2) hV4) hV7) hV9) (.cons _ (.cons_cons _ List.Sublist.slnil)) (OldAll.row (fun _ _ _ _ h => h) OldAll.nil)) (by kernel_rfl) (fun _ _ => by kernel_rfl) ?_
                        refine TA.take 4 (.string e6.val) rfl (by kernel_rfl) (by kernel_rfl) (by kernel_rfl) (fun _ _ _ h => h) (Hp.old (View.le_refl _) (View.le_trans (View.le_trans (View.le_trans (View.le_trans hV1 hV2) hV4) hV7) hV9) (.cons _ (.cons_cons _ List.Sublist.slnil)) (OldAll.row (fun _ _ _ _ h => h) OldAll.nil)) (by kernel_rfl) (fun w' hh => exec_load1 rfl rfl (by kernel_rfl) (hh.cell_view (SlOk.cellF (E := eElem) (SlOk.mono hs1 (View.le_trans (View.le_trans (View.le_trans (View.le_trans hV1 hV2) hV4) hV7) hV9)) hi18 5 (fun _ _ _ h => h) rfl))) ?_
                        refine TA.take 5 (.pointer (some ⟨b1, 4, none⟩)) rfl (by kernel_rfl) (by kernel_rfl) (by kernel_rfl) (fun _ _ _ h => h) (Hp.old (View.le_refl _) (View.le_trans (View.le_trans (View.le_trans (View.le_trans hV1 hV2) hV4) hV7) hV9) (.cons _ (.cons_cons _ List.Sublist.slnil)) (OldAll.row (fun _ _ _ _ h => h) OldAll.nil)) (by kernel_rfl) (fun _ _ => by kernel_rfl) ?_
                        refine TA.all [6] (by kernel_rfl) rfl ⟨?_, trivial⟩
                        refine TA.br rfl (W1.store 0 [.int .i64 e1.key.pfs, .int .i64 e1.key.obj, .int .i64 e1.key.off, .bool z12, .bool true, .string z13, .string x6] [box b1 44 [.int .i64 e1.key.pfs, .int .i64 e1.key.obj, .int .i64 e1.key.off, .bool z12, .bool true, .string z13, .string x6], row 44 eChange A2 c2 x1] (by rfl) rfl (by kernel_rfl) (fun w' hw => exec_store (vs := [.bool true]) rfl rfl rfl rfl (by kernel_rfl) (one_of rfl) (by simp) rfl hw) ?_)
                        refine TA.on (Hp.old (View.le_refl _) (View.le_trans (View.le_trans (View.le_trans (View.le_trans hV1 hV2) hV4) hV7) hV9) (.cons _ (.cons_cons _ List.Sublist.slnil)) (OldAll.row (fun _ _ _ _ h => h) OldAll.nil)) ?_
                        refine TA.take 7 (.pointer (some ⟨b1, 6, none⟩)) rfl (by kernel_rfl) (by kernel_rfl) (by kernel_rfl) (fun _ _ _ h => h) (Hp.old (View.le_refl _) (View.le_trans (View.le_trans (View.le_trans (View.le_trans hV1 hV2) hV4) hV7) hV9) (.cons _ (.cons_cons _ List.Sublist.slnil)) (OldAll.row (fun _ _ _ _ h => h) OldAll.nil)) (by kernel_rfl) (fun _ _ => by kernel_rfl) ?_
                        refine TA.all [8] (by kernel_rfl) rfl ⟨?_, trivial⟩
                        refine TA.br rfl (W1.store 0 [.int .i64 e1.key.pfs, .int .i64 e1.key.obj, .int .i64 e1.key.off, .bool z12, .bool true, .string z13, .string e6.val] [box b1 44 [.int .i64 e1.key.pfs, .int .i64 e1.key.obj, .int .i64 e1.key.off, .bool z12, .bool true, .string z13, .string e6.val], row 44 eChange A2 c2 x1] (by rfl) rfl (by kernel_rfl) (fun w' hw => exec_store (vs := [.string e6.val]) rfl rfl rfl rfl (by kernel_rfl) (one_of rfl) (by simp) rfl hw) ?_)
                        refine TA.on (Hp.old (View.le_refl _) (View.le_trans (View.le_trans (View.le_trans (View.le_trans hV1 hV2) hV4) hV7) hV9) (.cons _ (.cons_cons _ List.Sublist.slnil)) (OldAll.row (fun _ _ _ _ h => h) OldAll.nil)) ?_
                        refine TA.done (by kernel_rfl) ?_
                        cases hX2
                        exact fun a w' hf hh => Exists.intro z12 (Exists.intro true (Exists.intro z13 (Exists.intro e6.val (And.intro rfl (Exists.intro V9 (And.intro (View.le_trans hV7 hV9) (And.intro (((((((Fr.nil hf).pick hf 11 rfl).pick hf 10 rfl).pick hf 9 rfl).pick hf 2 rfl).pick hf 1 rfl).pick hf 0 rfl) (hh.sub (.cons_cons _ (.cons_cons _ List.Sublist.slnil))))))))))
                      ·
                        rw [hc5, cond_false] at hX2
                        refine T.skip_code ?_
                        cases hX2
                        exact fun a w' hf hh => Exists.intro z12 (Exists.intro x4 (Exists.intro z13 (Exists.intro x6 (And.intro rfl (Exists.intro V9 (And.intro (View.le_trans hV7 hV9) (And.intro (((((((Fr.nil hf).pick hf 11 rfl).pick hf 10 rfl).pick hf 9 rfl).pick hf 2 rfl).pick hf 1 rfl).pick hf 0 rfl) (hh.sub (.cons_cons _ (.cons_cons _ List.Sublist.slnil))))))))))
                  ·
                    rintro a w' ⟨z8, z9, z10, z11, rfl, V6, hV6, hf, hh⟩
                    try dsimp only at hY2
                    refine (?_ : T 76 w V6 [box b1 44 [.int .i64 e1.key.pfs, .int .i64 e1.key.obj, .int .i64 e1.key.off, .bool z8, .bool z9, .string z10, .string z11], row 44 eChange A2 c2 x1] [(0, .slice A1 p0.length c1), (1, .int .i64 p1), (2, .int .i64 p2), (9, .slice A2 x1.length c2), (10, .int .i64 x7), (11, .pointer (some ⟨b1, 0, none⟩))] _) a w' hf hh
                    clear hf hh
                    refine T.region ?_
                    refine T.pure (.int .i64 x7) (by kernel_rfl) (fun _ => by kernel_rfl) ?_
                    refine T.pure (.int .i64 (IntKind.i64.wrap (x7 + 1))) (by kernel_rfl) (fun _ => by kernel_rfl) ?_
                    refine T.pure (.int .i64 (IntKind.i64.wrap (x7 + 1))) (by kernel_rfl) (fun _ => by kernel_rfl) ?_
                    refine T.nil ?_
                    cases hY2
                    exact fun a w' hf hh => Exists.intro (z8, z9, z10, z11, IntKind.i64.wrap (x7 + 1)) (And.intro rfl (Exists.intro z8 (Exists.intro z9 (Exists.intro z10 (Exists.intro z11 (Exists.intro (IntKind.i64.wrap (x7 + 1)) (And.intro rfl (Exists.intro V6 (And.intro (View.le_trans hV4 hV6) (And.intro (((((((Fr.nil hf).pick hf 11 rfl).pick hf 10 rfl).pick hf 9 rfl).pick hf 2 rfl).pick hf 1 rfl).pick hf 0 rfl) (hh.sub (.cons_cons _ (.cons_cons _ List.Sublist.slnil)))))))))))))
                ·
                  rw [hc3, cond_false] at hY2
                  refine T.exit ?_
                  cases hY2
                  cases (hr2 _ rfl)
                  exact fun a w' hf hh => Exists.intro x3 (Exists.intro x4 (Exists.intro x5 (Exists.intro x6 (Exists.intro x7 (And.intro rfl (Exists.intro V4 (And.intro hV4 (And.intro (((((((Fr.nil hf).pick hf 11 rfl).pick hf 10 rfl).pick hf 9 rfl).pick hf 2 rfl).pick hf 1 rfl).pick hf 0 rfl) (hh.sub (.cons_cons _ (.cons_cons _ List.Sublist.slnil)))))))))))
          ·
            rintro a w' ⟨z2, z3, z4, z5, z6, rfl, V5, hV5, hf, hh⟩
            try dsimp only at hY1
            refine (?_ : T 76 w V5 [box b1 44 [.int .i64 e1.key.pfs, .int .i64 e1.key.obj, .int .i64 e1.key.off, .bool z2, .bool z3, .string z4, .string z5], row 44 eChange A2 c2 x1] [(0, .slice A1 p0.length c1), (1, .int .i64 p1), (2, .int .i64 p2), (9, .slice A2 x1.length c2), (10, .int .i64 z6), (11, .pointer (some ⟨b1, 0, none⟩))] _) a w' hf hh
            clear hf hh
            refine T.seq ?_
            refine T.region ?_
            refine T.look (.agg #[.int .i64 e1.key.pfs, .int .i64 e1.key.obj, .int .i64 e1.key.off, .bool z2, .bool z3, .string z4, .string z5]) (by kernel_rfl) (fun w' hh => exec_loadN (cs := [.int .i64 e1.key.pfs, .int .i64 e1.key.obj, .int .i64 e1.key.off, .bool z2, .bool z3, .string z4, .string z5]) rfl rfl (by kernel_rfl) (by kernel_rfl) (fun j u hj => (hh.box_at (i := 0) (cs := [.int .i64 e1.key.pfs, .int .i64 e1.key.obj, .int .i64 e1.key.off, .bool z2, .bool z3, .string z4, .string z5]) (by rfl) 0 j).trans (seg_at (n := 7) rfl hj))) ?_
            obtain ⟨r5, hb10, hY1⟩ := Option.bind_eq_some_iff.1 hY1
            refine T.step (W1.call (vSc eBool) r5 77 #[.agg #[.int .i64 e1.key.pfs, .int .i64 e1.key.obj, .int .i64 e1.key.off, .bool z2, .bool z3, .string z4, .string z5]] (by kernel_rfl) (fun _ => by kernel_rfl) (fun w' hh => change_differs_l (DChange.mk e1.key z2 z3 z4 z5) r5 hb10 w' ) ?_)
            intro u V10 hV10 hu
            obtain rfl := sureBool _ _ _ hu
            refine T.nil ?_
            refine T.cond r5 (by kernel_rfl) (by kernel_rfl) (fun hc6 => ?_) (fun hc6 => ?_)
            ·
              rw [hc6, cond_true] at hY1
              refine T.region ?_
              refine T.pure (.slice A2 x1.length c2) (by kernel_rfl) (fun _ => by kernel_rfl) ?_
              refine T.look (.agg #[.int .i64 e1.key.pfs, .int .i64 e1.key.obj, .int .i64 e1.key.off, .bool z2, .bool z3, .string z4, .string z5]) (by kernel_rfl) (fun w' hh => exec_loadN (cs := [.int .i64 e1.key.pfs, .int .i64 e1.key.obj, .int .i64 e1.key.off, .bool z2, .bool z3, .string z4, .string z5]) rfl rfl (by kernel_rfl) (by kernel_rfl) (fun j u hj => (hh.box_at (i := 0) (cs := [.int .i64 e1.key.pfs, .int .i64 e1.key.obj, .int .i64 e1.key.off, .bool z2, .bool z3, .string z4, .string z5]) (by rfl) 0 j).trans (seg_at (n := 7) rfl hj))) ?_
              refine T.step (W1.new 44 [.int .i64 e1.key.pfs, .int .i64 e1.key.obj, .int .i64 e1.key.off, .bool z2, .bool z3, .string z4, .string z5] (fun b => .slice (some ⟨b, 0, none⟩) 1 1) (by kernel_rfl) (fun _ => by kernel_rfl) (fun b2 => ?_))
              obtain ⟨y3, hb11, hY1⟩ := Option.bind_eq_some_iff.1 hY1
              obtain ⟨hb11_r, hb11_m, rfl⟩ := grow_some hb11
              obtain ⟨ti, hti, hz1, hz2, hz3⟩ := info_parts (P := Try.prog) (e := 44) (z := .agg #[.int .i64 0, .int .i64 0, .int .i64 0, .bool false, .bool false, .string (ByteArray.mk #[]), .string (ByteArray.mk #[])]) (size := 7) (bytes := 64) (by kernel_rfl)
              refine T.step (W1.append (E := eChange) (l := x1) (m := [(DChange.mk e1.key z2 z3 z4 z5)]) 2 _ _ 64 ti _ (by rfl) (by kernel_rfl) rfl (by kernel_rfl) hti hz1 hz2 hz3 rfl (by decide) rfl rfl (fun w' hh => (SlOk.srcF (slok_lit (E := eChange) (f := DChange.cells) [(DChange.mk e1.key z2 z3 z4 z5)] (fun _ _ => rfl) (Nat.le_of_ble_eq_true (by rfl)) (fun j => hh.cellBox (i := 0) (by rfl) j)) (fun _ _ _ _ h => h))) hb11_r hb11_m (fun A4 c4 => ?_))
              refine T.pure (.slice A4 ((x1 ++ [(DChange.mk e1.key z2 z3 z4 z5)]).length) c4) (by kernel_rfl) (fun _ => by kernel_rfl) ?_
              refine T.nil ?_
              cases hY1
              exact fun a w' hf hh => Exists.intro ((x1 ++ [(DChange.mk e1.key z2 z3 z4 z5)]), z6) (And.intro rfl (Exists.intro (x1 ++ [(DChange.mk e1.key z2 z3 z4 z5)]) (Exists.intro z6 (And.intro rfl (Exists.intro A4 (Exists.intro c4 (Exists.intro V10 (And.intro (View.le_trans (View.le_trans hV2 hV5) hV10) (And.intro ((((((Fr.nil hf).pick hf 10 rfl).pick hf 9 rfl).pick hf 2 rfl).pick hf 1 rfl).pick hf 0 rfl) (hh.sub (.cons _ (.cons _ (.cons_cons _ List.Sublist.slnil)))))))))))))
            ·
              rw [hc6, cond_false] at hY1
              refine T.skip_code ?_
              cases hY1
              exact fun a w' hf hh => Exists.intro (x1, z6) (And.intro rfl (Exists.intro x1 (Exists.intro z6 (And.intro rfl (Exists.intro A2 (Exists.intro c2 (Exists.intro V10 (And.intro (View.le_trans (View.le_trans hV2 hV5) hV10) (And.intro ((((((Fr.nil hf).pick hf 10 rfl).pick hf 9 rfl).pick hf 2 rfl).pick hf 1 rfl).pick hf 0 rfl) (hh.sub (.cons _ (.cons_cons _ List.Sublist.slnil))))))))))))
        ·
          rw [hc2, cond_false] at hY1
          refine T.exit ?_
          cases hY1
          cases (hr1 _ rfl)
          exact fun a w' hf hh => Exists.intro A2 (Exists.intro c2 (Exists.intro V2 (And.intro hV2 (And.intro ((Fr.nil hf).pick hf 9 rfl) (hh.sub (.cons_cons _ List.Sublist.slnil))))))
    ·
      rintro a w' ⟨A3, c3, V3, hV3, hf, hh⟩
      refine (?_ : T 76 w V3 [row 44 eChange A3 c3 z1] [(9, .slice A3 z1.length c3)] _) a w' hf hh
      clear hf hh
      refine T.seq ?_
      refine T.region ?_
      refine T.pure (.slice A3 z1.length c3) (by kernel_rfl) (fun _ => by kernel_rfl) ?_
      refine T.pure (.slice A3 z1.length c3) (by kernel_rfl) (fun _ => by kernel_rfl) ?_
      refine T.pure (.int .i64 0) (by kernel_rfl) (fun _ => by kernel_rfl) ?_
      refine T.nil ?_
      cases hF
      refine T.ret rfl ?_
      exact T.ret2 rfl (ResIs.tmp rfl) (ResIs.tmp rfl) fun w' hh => ⟨_, rfl, hh.below, (vT2.mk ⟨_, _, rfl, (hh.row_fresh (i := 0) (by rfl) (fun _ h => h))⟩ (show _ from rfl))⟩

set_option maxRecDepth 100000 in
set_option maxHeartbeats 4000000 in
theorem change_Back_l (F : Nat) (p0 : (List DChange)) (r : ((List DChange)) × Int) (hF : change_Back F p0 = some r) (w : World) (A1 : Option Addr) (c1 : Nat) (hs1 : SlOk (vw w) eChange A1 c1 p0) :
    Calls Try.prog 36 #[.slice A1 p0.length c1] w (Post (vT2 (vSc (eList eChange)) (vSc eInt)) r w) := by
  unfold change_Back at hF
  refine T.start (l := [.slice A1 p0.length c1]) Try.func36 rfl rfl rfl ?_
  refine T.seq ?_
  refine T.region ?_
  refine T.pure (.slice none 0 0) (by kernel_rfl) (fun _ => by kernel_rfl) ?_
  refine T.pure (.int .i64 0) (by kernel_rfl) (fun _ => by kernel_rfl) ?_
  refine T.nil ?_
  refine T.seq ?_
  refine T.seq ?_
  refine T.region ?_
  refine T.pure (.slice A1 p0.length c1) (by kernel_rfl) (fun _ => by kernel_rfl) ?_
  obtain ⟨r1, hb1, hF⟩ := Option.bind_eq_some_iff.1 hF
  refine T.step (W1.call (vSc eInt) r1 76 #[.slice A1 p0.length c1] (by kernel_rfl) (fun _ => by kernel_rfl) (fun w' hh => change_Check_l F p0 r1 hb1 w' A1 c1 (SlOk.mono hs1 hh.view)) ?_)
  intro u V1 hV1 hu
  obtain rfl := sureInt _ _ _ hu
  refine T.pure (.int .i64 r1) (by kernel_rfl) (fun _ => by kernel_rfl) ?_
  refine T.nil ?_
  refine T.seq ?_
  refine T.region ?_
  refine T.pure (.int .i64 r1) (by kernel_rfl) (fun _ => by kernel_rfl) ?_
  refine T.pure (.bool (r1 != 0)) (by kernel_rfl) (fun _ => by kernel_rfl) ?_
  refine T.nil ?_
  refine T.cond (r1 != 0) (by kernel_rfl) (by kernel_rfl) (fun hc1 => ?_) (fun hc1 => ?_)
  ·
    rw [hc1, cond_true] at hF
    refine T.seq ?_
    refine T.region ?_
    refine T.pure (.int .i64 r1) (by kernel_rfl) (fun _ => by kernel_rfl) ?_
    refine T.pure (.slice none 0 0) (by kernel_rfl) (fun _ => by kernel_rfl) ?_
    refine T.pure (.int .i64 r1) (by kernel_rfl) (fun _ => by kernel_rfl) ?_
    refine T.nil ?_
    cases hF
    refine T.ret rfl ?_
    exact T.ret2 rfl (ResIs.tmp rfl) (ResIs.tmp rfl) fun w' hh => ⟨_, rfl, hh.below, (vT2.mk ⟨_, _, rfl, (SlOk.nil _ _)⟩ (show _ from rfl))⟩
  ·
    rw [hc1, cond_false] at hF
    refine T.skip_code ?_
    refine T.seq ?_
    refine T.region ?_
    refine T.pure (.slice none 0 0) (by kernel_rfl) (fun _ => by kernel_rfl) ?_
    refine T.nil ?_
    refine T.seq ?_
    refine T.seq ?_
    refine T.region ?_
    refine T.pure (.slice A1 p0.length c1) (by kernel_rfl) (fun _ => by kernel_rfl) ?_
    refine T.pure (.int .i64 (p0.length : Int)) (by kernel_rfl) (fun _ => by kernel_rfl) ?_
    refine T.pure (.int .i64 0) (by kernel_rfl) (fun _ => by kernel_rfl) ?_
    refine T.nil ?_
    refine T.rownil 44 eChange ?_
    obtain ⟨z1, hz1, hF⟩ := Option.bind_eq_some_iff.1 hF
    refine T.mid (fun a w' => ∃ (A3 : Option Addr) (c3 : Nat), Fr 35 [(5, .slice A3 z1.length c3)] a ∧ Hp w V1 [row 44 eChange A3 c3 z1] w') ?_ ?_
    ·
      refine T.block ?_
      refine T.iter (fun s1 a w' => ∃ (x1 : List DChange) (x2 : Int), s1 = (x1, x2) ∧ ∃ (A2 : Option Addr) (c2 : Nat), Fr 35 [(5, .slice A2 x1.length c2), (13, .slice A1 p0.length c1), (14, .int .i64 (p0.length : Int)), (15, .int .i64 x2)] a ∧ Hp w V1 [row 44 eChange A2 c2 x1] w') hz1 ?_ ?_
      ·
        exact fun a w' hf hh => Exists.intro [] (Exists.intro 0 (And.intro rfl (Exists.intro none (Exists.intro 0 (And.intro (((((Fr.nil hf).pick hf 15 rfl).pick hf 14 rfl).pick hf 13 rfl).pick hf 5 rfl) (hh.sub (.cons_cons _ List.Sublist.slnil)))))))
      ·
        rintro s1 y1 hY1 hr1 a w' ⟨x1, x2, rfl, A2, c2, hf, hh⟩
        refine (?_ : T 35 w V1 [row 44 eChange A2 c2 x1] [(5, .slice A2 x1.length c2), (13, .slice A1 p0.length c1), (14, .int .i64 (p0.length : Int)), (15, .int .i64 x2)] _) a w' hf hh
        clear hf hh
        try dsimp only at hY1
        refine T.seq ?_
        refine T.region ?_
        refine T.pure (.bool (decide (x2 < (p0.length : Int)))) (by kernel_rfl) (fun _ => by kernel_rfl) ?_
        refine T.nil ?_
        refine T.seq ?_
        refine T.cond (decide (x2 < (p0.length : Int))) (by kernel_rfl) (by kernel_rfl) (fun hc2 => ?_) (fun hc2 => ?_)
        ·
          rw [hc2, cond_true] at hY1
          refine T.skip_code ?_
          refine T.seq ?_
          refine T.block ?_
          refine T.seq ?_
          refine T.region ?_
          obtain ⟨e1, hb2, hY1⟩ := Option.bind_eq_some_iff.1 hY1
          obtain ⟨hi1, hi2, hi3⟩ := idx_some hb2
          refine T.look (.pointer (some ((sadr A1).add (x2.toNat * 7)))) (by kernel_rfl) (fun w' hh => exec_indexAddr (e := 44) (s := 7) rfl rfl rfl (by kernel_rfl) (by kernel_rfl) hi1 hi2 ((SlOk.mono hs1 hV1).some_ hi3 (by decide))) ?_
          refine T.look (.agg #[.int .i64 e1.key.pfs, .int .i64 e1.key.obj, .int .i64 e1.key.off, .bool e1.had, .bool e1.has, .string e1.was, .string e1.is_]) (by kernel_rfl) (fun w' hh => exec_loadN (cs := [.int .i64 e1.key.pfs, .int .i64 e1.key.obj, .int .i64 e1.key.off, .bool e1.had, .bool e1.has, .string e1.was, .string e1.is_]) rfl rfl (by kernel_rfl) (by kernel_rfl) (fun j u hj => (hh.cell_view (SlOk.cellF (E := eChange) (SlOk.mono hs1 hV1) hi3 j (fun _ _ _ h => h) hj)))) ?_
          refine T.step (W1.new 44 [.int .i64 0, .int .i64 0, .int .i64 0, .bool false, .bool false, .string (ByteArray.mk #[]), .string (ByteArray.mk #[])] (fun b => .pointer (some ⟨b, 0, none⟩)) (by kernel_rfl) (fun _ => by kernel_rfl) (fun b1 => ?_))
          refine T.step (W1.store 0 [.int .i64 e1.key.pfs, .int .i64 e1.key.obj, .int .i64 e1.key.off, .bool e1.had, .bool e1.has, .string e1.was, .string e1.is_] [box b1 44 [.int .i64 e1.key.pfs, .int .i64 e1.key.obj, .int .i64 e1.key.off, .bool e1.had, .bool e1.has, .string e1.was, .string e1.is_], row 44 eChange A2 c2 x1] (by rfl) rfl (by kernel_rfl) (fun w' hw => exec_store (vs := [.int .i64 e1.key.pfs, .int .i64 e1.key.obj, .int .i64 e1.key.off, .bool e1.had, .bool e1.has, .string e1.was, .string e1.is_]) rfl rfl rfl rfl (by kernel_rfl) (one_of rfl) (by simp) rfl hw) ?_)
          refine T.nil ?_
          refine T.region ?_
          refine T.pure (.slice A2 x1.length c2) (by kernel_rfl) (fun _ => by kernel_rfl) ?_
          refine T.pure (.pointer (some ⟨b1, 0, none⟩)) (by kernel_rfl) (fun _ => by kernel_rfl) ?_
          refine T.look (.agg #[.int .i64 e1.key.pfs, .int .i64 e1.key.obj, .int .i64 e1.key.off]) (by kernel_rfl) (fun w' hh => exec_loadN (cs := [.int .i64 e1.key.pfs, .int .i64 e1.key.obj, .int .i64 e1.key.off]) rfl rfl (by kernel_rfl) (by kernel_rfl) (fun j u hj => (hh.box_at (i := 0) (cs := [.int .i64 e1.key.pfs, .int .i64 e1.key.obj, .int .i64 e1.key.off, .bool e1.had, .bool e1.has, .string e1.was, .string e1.is_]) (by rfl) 0 j).trans (seg_at (n := 3) rfl hj))) ?_
          refine T.pure (.pointer (some ⟨b1, 4, none⟩)) (by kernel_rfl) (fun _ => by kernel_rfl) ?_
          refine T.look (.bool e1.has) (by kernel_rfl) (fun w' hh => exec_load1 rfl rfl (by kernel_rfl) (hh.cellBox (i := 0) (by rfl) 4)) ?_
          refine T.pure (.pointer (some ⟨b1, 3, none⟩)) (by kernel_rfl) (fun _ => by kernel_rfl) ?_
          refine T.look (.bool e1.had) (by kernel_rfl) (fun w' hh => exec_load1 rfl rfl (by kernel_rfl) (hh.cellBox (i := 0) (by rfl) 3)) ?_
          refine T.pure (.pointer (some ⟨b1, 6, none⟩)) (by kernel_rfl) (fun _ => by kernel_rfl) ?_
          refine T.look (.string e1.is_) (by kernel_rfl) (fun w' hh => exec_load1 rfl rfl (by kernel_rfl) (hh.cellBox (i := 0) (by rfl) 6)) ?_
          refine T.pure (.pointer (some ⟨b1, 5, none⟩)) (by kernel_rfl) (fun _ => by kernel_rfl) ?_
          refine T.look (.string e1.was) (by kernel_rfl) (fun w' hh => exec_load1 rfl rfl (by kernel_rfl) (hh.cellBox (i := 0) (by rfl) 5)) ?_
          refine T.pure (.agg #[.int .i64 e1.key.pfs, .int .i64 e1.key.obj, .int .i64 e1.key.off, .bool e1.has, .bool e1.had, .string e1.is_, .string e1.was]) (by kernel_rfl) (fun _ => by kernel_rfl) ?_
          refine T.step (W1.new 44 [.int .i64 e1.key.pfs, .int .i64 e1.key.obj, .int .i64 e1.key.off, .bool e1.has, .bool e1.had, .string e1.is_, .string e1.was] (fun b => .slice (some ⟨b, 0, none⟩) 1 1) (by kernel_rfl) (fun _ => by kernel_rfl) (fun b2 => ?_))
          obtain ⟨y2, hb3, hY1⟩ := Option.bind_eq_some_iff.1 hY1
          obtain ⟨hb3_r, hb3_m, rfl⟩ := grow_some hb3
          obtain ⟨ti, hti, hz1, hz2, hz3⟩ := info_parts (P := Try.prog) (e := 44) (z := .agg #[.int .i64 0, .int .i64 0, .int .i64 0, .bool false, .bool false, .string (ByteArray.mk #[]), .string (ByteArray.mk #[])]) (size := 7) (bytes := 64) (by kernel_rfl)
          refine T.step (W1.append (E := eChange) (l := x1) (m := [(DChange.mk e1.key e1.has e1.had e1.is_ e1.was)]) 2 _ _ 64 ti _ (by rfl) (by kernel_rfl) rfl (by kernel_rfl) hti hz1 hz2 hz3 rfl (by decide) rfl rfl (fun w' hh => (SlOk.srcF (slok_lit (E := eChange) (f := DChange.cells) [(DChange.mk e1.key e1.has e1.had e1.is_ e1.was)] (fun _ _ => rfl) (Nat.le_of_ble_eq_true (by rfl)) (fun j => hh.cellBox (i := 0) (by rfl) j)) (fun _ _ _ _ h => h))) hb3_r hb3_m (fun A4 c4 => ?_))
          refine T.pure (.slice A4 ((x1 ++ [(DChange.mk e1.key e1.has e1.had e1.is_ e1.was)]).length) c4) (by kernel_rfl) (fun _ => by kernel_rfl) ?_
          refine T.nil ?_
          refine T.region ?_
          refine T.pure (.int .i64 (IntKind.i64.wrap (x2 + 1))) (by kernel_rfl) (fun _ => by kernel_rfl) ?_
          refine T.pure (.int .i64 (IntKind.i64.wrap (x2 + 1))) (by kernel_rfl) (fun _ => by kernel_rfl) ?_
          refine T.nil ?_
          cases hY1
          exact fun a w' hf hh => Exists.intro ((x1 ++ [(DChange.mk e1.key e1.has e1.had e1.is_ e1.was)]), IntKind.i64.wrap (x2 + 1)) (And.intro rfl (Exists.intro (x1 ++ [(DChange.mk e1.key e1.has e1.had e1.is_ e1.was)]) (Exists.intro (IntKind.i64.wrap (x2 + 1)) (And.intro rfl (Exists.intro A4 (Exists.intro c4 (And.intro (((((Fr.nil hf).pick hf 15 rfl).pick hf 14 rfl).pick hf 13 rfl).pick hf 5 rfl) (hh.sub (.cons _ (.cons _ (.cons_cons _ List.Sublist.slnil)))))))))))
        ·
          rw [hc2, cond_false] at hY1
          refine T.exit ?_
          cases hY1
          cases (hr1 _ rfl)
          exact fun a w' hf hh => Exists.intro A2 (Exists.intro c2 (And.intro ((Fr.nil hf).pick hf 5 rfl) (hh.sub (.cons_cons _ List.Sublist.slnil))))
    ·
      rintro a w' ⟨A3, c3, hf, hh⟩
      refine (?_ : T 35 w V1 [row 44 eChange A3 c3 z1] [(5, .slice A3 z1.length c3)] _) a w' hf hh
      clear hf hh
      refine T.seq ?_
      refine T.region ?_
      refine T.pure (.slice A3 z1.length c3) (by kernel_rfl) (fun _ => by kernel_rfl) ?_
      refine T.pure (.slice A3 z1.length c3) (by kernel_rfl) (fun _ => by kernel_rfl) ?_
      refine T.pure (.int .i64 0) (by kernel_rfl) (fun _ => by kernel_rfl) ?_
      refine T.nil ?_
      cases hF
      refine T.ret rfl ?_
      exact T.ret2 rfl (ResIs.tmp rfl) (ResIs.tmp rfl) fun w' hh => ⟨_, rfl, hh.below, (vT2.mk ⟨_, _, rfl, (hh.row_fresh (i := 0) (by rfl) (fun _ h => h))⟩ (show _ from rfl))⟩

set_option maxRecDepth 100000 in
set_option maxHeartbeats 4000000 in
theorem change_Then_l (F : Nat) (p0 : (List DChange)) (p1 : (List DChange)) (r : ((List DChange)) × Int) (hF : change_Then F p0 p1 = some r) (w : World) (A1 : Option Addr) (c1 : Nat) (hs1 : SlOk (vw w) eChange A1 c1 p0) (A2 : Option Addr) (c2 : Nat) (hs2 : SlOk (vw w) eChange A2 c2 p1) :
    Calls Try.prog 38 #[.slice A1 p0.length c1, .slice A2 p1.length c2] w (Post (vT2 (vSc (eList eChange)) (vSc eInt)) r w) := by
  unfold change_Then at hF
  refine T.start (l := [.slice A1 p0.length c1, .slice A2 p1.length c2]) Try.func38 rfl rfl rfl ?_
  refine T.seq ?_
  refine T.region ?_
  refine T.pure (.slice none 0 0) (by kernel_rfl) (fun _ => by kernel_rfl) ?_
  refine T.pure (.int .i64 0) (by kernel_rfl) (fun _ => by kernel_rfl) ?_
  refine T.nil ?_
  refine T.seq ?_
  refine T.seq ?_
  refine T.region ?_
  refine T.pure (.slice A1 p0.length c1) (by kernel_rfl) (fun _ => by kernel_rfl) ?_
  obtain ⟨r1, hb1, hF⟩ := Option.bind_eq_some_iff.1 hF
  refine T.step (W1.call (vSc eInt) r1 76 #[.slice A1 p0.length c1] (by kernel_rfl) (fun _ => by kernel_rfl) (fun w' hh => change_Check_l F p0 r1 hb1 w' A1 c1 (SlOk.mono hs1 hh.view)) ?_)
  intro u V1 hV1 hu
  obtain rfl := sureInt _ _ _ hu
  refine T.pure (.int .i64 r1) (by kernel_rfl) (fun _ => by kernel_rfl) ?_
  refine T.nil ?_
  refine T.seq ?_
  refine T.region ?_
  refine T.pure (.int .i64 r1) (by kernel_rfl) (fun _ => by kernel_rfl) ?_
  refine T.pure (.bool (r1 != 0)) (by kernel_rfl) (fun _ => by kernel_rfl) ?_
  refine T.nil ?_
  refine T.cond (r1 != 0) (by kernel_rfl) (by kernel_rfl) (fun hc1 => ?_) (fun hc1 => ?_)
  ·
    rw [hc1, cond_true] at hF
    refine T.seq ?_
    refine T.region ?_
    refine T.pure (.int .i64 r1) (by kernel_rfl) (fun _ => by kernel_rfl) ?_
    refine T.pure (.slice none 0 0) (by kernel_rfl) (fun _ => by kernel_rfl) ?_
    refine T.pure (.int .i64 r1) (by kernel_rfl) (fun _ => by kernel_rfl) ?_
    refine T.nil ?_
    cases hF
    refine T.ret rfl ?_
    exact T.ret2 rfl (ResIs.tmp rfl) (ResIs.tmp rfl) fun w' hh => ⟨_, rfl, hh.below, (vT2.mk ⟨_, _, rfl, (SlOk.nil _ _)⟩ (show _ from rfl))⟩
  ·
    rw [hc1, cond_false] at hF
    refine T.skip_code ?_
    refine T.seq ?_
    refine T.seq ?_
    refine T.region ?_
    refine T.pure (.slice A2 p1.length c2) (by kernel_rfl) (fun _ => by kernel_rfl) ?_
    obtain ⟨r2, hb2, hF⟩ := Option.bind_eq_some_iff.1 hF
    refine T.step (W1.call (vSc eInt) r2 76 #[.slice A2 p1.length c2] (by kernel_rfl) (fun _ => by kernel_rfl) (fun w' hh => change_Check_l F p1 r2 hb2 w' A2 c2 (SlOk.mono (SlOk.mono hs2 hV1) hh.view)) ?_)
    intro u V2 hV2 hu
    obtain rfl := sureInt _ _ _ hu
    refine T.pure (.int .i64 r2) (by kernel_rfl) (fun _ => by kernel_rfl) ?_
    refine T.nil ?_
    refine T.seq ?_
    refine T.region ?_
    refine T.pure (.int .i64 r2) (by kernel_rfl) (fun _ => by kernel_rfl) ?_
    refine T.pure (.bool (r2 != 0)) (by kernel_rfl) (fun _ => by kernel_rfl) ?_
    refine T.nil ?_
    refine T.cond (r2 != 0) (by kernel_rfl) (by kernel_rfl) (fun hc2 => ?_) (fun hc2 => ?_)
    ·
      rw [hc2, cond_true] at hF
      refine T.seq ?_
      refine T.region ?_
      refine T.pure (.int .i64 r2) (by kernel_rfl) (fun _ => by kernel_rfl) ?_
      refine T.pure (.slice none 0 0) (by kernel_rfl) (fun _ => by kernel_rfl) ?_
      refine T.pure (.int .i64 r2) (by kernel_rfl) (fun _ => by kernel_rfl) ?_
      refine T.nil ?_
      cases hF
      refine T.ret rfl ?_
      exact T.ret2 rfl (ResIs.tmp rfl) (ResIs.tmp rfl) fun w' hh => ⟨_, rfl, hh.below, (vT2.mk ⟨_, _, rfl, (SlOk.nil _ _)⟩ (show _ from rfl))⟩
    ·
      rw [hc2, cond_false] at hF
      refine T.skip_code ?_
      refine T.seq ?_
      refine T.region ?_
      refine T.pure (.slice none 0 0) (by kernel_rfl) (fun _ => by kernel_rfl) ?_
      refine T.nil ?_
      refine T.rownil 44 eChange ?_
      obtain ⟨q1, hz1, hF⟩ := Option.bind_eq_some_iff.1 hF
      refine T.cut (fun a w' => ∃ (z1 : List DChange), q1 = Sum.inl z1 ∧ ∃ (A6 : Option Addr) (c6 : Nat) (V4 : View), View.le V2 V4 ∧ Fr 121 [(8, .slice A6 z1.length c6)] a ∧ Hp w V4 [row 44 eChange A6 c6 z1] w') ?_ ?_
      ·
        refine T.block ?_
        refine T.iter (fun s1 a w' => ∃ (x1 : List DChange) (x2 : List DChange) (x3 : List DChange), s1 = (x1, x2, x3) ∧ ∃ (A3 : Option Addr) (c3 : Nat) (A4 : Option Addr) (c4 : Nat) (A5 : Option Addr) (c5 : Nat) (V3 : View), View.le V2 V3 ∧ SlOk V3 eChange A4 c4 x2 ∧ SlOk V3 eChange A5 c5 x3 ∧ Fr 121 [(0, .slice A4 x2.length c4), (1, .slice A5 x3.length c5), (8, .slice A3 x1.length c3)] a ∧ Hp w V3 [row 44 eChange A3 c3 x1] w') hz1 ?_ ?_
        ·
          exact fun a w' hf hh => Exists.intro [] (Exists.intro p0 (Exists.intro p1 (And.intro rfl (Exists.intro none (Exists.intro 0 (Exists.intro A1 (Exists.intro c1 (Exists.intro A2 (Exists.intro c2 (Exists.intro V2 (And.intro (View.le_refl _) (And.intro (SlOk.mono hs1 (View.le_trans hV1 hV2)) (And.intro (SlOk.mono hs2 (View.le_trans hV1 hV2)) (And.intro ((((Fr.nil hf).pick hf 8 rfl).pick hf 1 rfl).pick hf 0 rfl) (hh.sub (.cons_cons _ List.Sublist.slnil))))))))))))))))
        ·
          rintro s1 y1 hY1 hr1 a w' ⟨x1, x2, x3, rfl, A3, c3, A4, c4, A5, c5, V3, hV3, hs3, hs4, hf, hh⟩
          refine (?_ : T 121 w V3 [row 44 eChange A3 c3 x1] [(0, .slice A4 x2.length c4), (1, .slice A5 x3.length c5), (8, .slice A3 x1.length c3)] _) a w' hf hh
          clear hf hh
          try dsimp only at hY1
          refine T.seq ?_
          refine T.seq ?_
          refine T.region ?_
          refine T.pure (.slice A4 x2.length c4) (by kernel_rfl) (fun _ => by kernel_rfl) ?_
          refine T.pure (.int .i64 (x2.length : Int)) (by kernel_rfl) (fun _ => by kernel_rfl) ?_
          refine T.pure (.slice A5 x3.length c5) (by kernel_rfl) (fun _ => by kernel_rfl) ?_
          refine T.pure (.int .i64 (x3.length : Int)) (by kernel_rfl) (fun _ => by kernel_rfl) ?_
          refine T.pure (.int .i64 (IntKind.i64.wrap ((x2.length : Int) + (x3.length : Int)))) (by kernel_rfl) (fun _ => by kernel_rfl) ?_
          refine T.pure (.bool (decide ((0 : Int) < (IntKind.i64.wrap ((x2.length : Int) + (x3.length : Int)))))) (by kernel_rfl) (fun _ => by kernel_rfl) ?_
          refine T.nil ?_
          refine T.cond (decide ((0 : Int) < (IntKind.i64.wrap ((x2.length : Int) + (x3.length : Int))))) (by kernel_rfl) (by kernel_rfl) (fun hc3 => ?_) (fun hc3 => ?_)
          ·
            rw [hc3, cond_true] at hY1
            refine T.skip_code ?_
            refine T.block ?_
            refine T.seq ?_
            refine T.region ?_
            refine T.pure (.int .i64 0) (by kernel_rfl) (fun _ => by kernel_rfl) ?_
            refine T.nil ?_
            obtain ⟨z2, hX1, hY1⟩ := Option.bind_eq_some_iff.1 hY1
            refine T.cut (fun a w' => Fr 121 [(0, .slice A4 x2.length c4), (1, .slice A5 x3.length c5), (8, .slice A3 x1.length c3), (9, .int .i64 z2)] a ∧ Hp w V3 [row 44 eChange A3 c3 x1] w') ?_ ?_
            ·
              refine T.block ?_
              refine T.seq ?_
              refine T.region ?_
              refine T.pure (.slice A4 x2.length c4) (by kernel_rfl) (fun _ => by kernel_rfl) ?_
              refine T.pure (.int .i64 (x2.length : Int)) (by kernel_rfl) (fun _ => by kernel_rfl) ?_
              refine T.pure (.bool ((x2.length : Int) == 0)) (by kernel_rfl) (fun _ => by kernel_rfl) ?_
              refine T.pure (.bool ((x2.length : Int) == 0)) (by kernel_rfl) (fun _ => by kernel_rfl) ?_
              refine T.nil ?_
              refine T.cond ((x2.length : Int) == 0) (by kernel_rfl) (by kernel_rfl) (fun hc4 => ?_) (fun hc4 => ?_)
              ·
                rw [hc4, cond_true] at hX1
                refine T.region ?_
                refine T.pure (.int .i64 1) (by kernel_rfl) (fun _ => by kernel_rfl) ?_
                refine T.nil ?_
                cases hX1
                exact fun a w' hf hh => And.intro (((((Fr.nil hf).pick hf 9 rfl).pick hf 8 rfl).pick hf 1 rfl).pick hf 0 rfl) (hh.sub (.cons_cons _ List.Sublist.slnil))
              ·
                rw [hc4, cond_false] at hX1
                refine T.seq ?_
                refine T.region ?_
                refine T.pure (.slice A5 x3.length c5) (by kernel_rfl) (fun _ => by kernel_rfl) ?_
                refine T.pure (.int .i64 (x3.length : Int)) (by kernel_rfl) (fun _ => by kernel_rfl) ?_
                refine T.pure (.bool ((x3.length : Int) == 0)) (by kernel_rfl) (fun _ => by kernel_rfl) ?_
                refine T.pure (.bool ((x3.length : Int) == 0)) (by kernel_rfl) (fun _ => by kernel_rfl) ?_
                refine T.nil ?_
                refine T.cond ((x3.length : Int) == 0) (by kernel_rfl) (by kernel_rfl) (fun hc5 => ?_) (fun hc5 => ?_)
                ·
                  rw [hc5, cond_true] at hX1
                  refine T.region ?_
                  refine T.pure (.int .i64 (-1)) (by kernel_rfl) (fun _ => by kernel_rfl) ?_
                  refine T.nil ?_
                  cases hX1
                  exact fun a w' hf hh => And.intro (((((Fr.nil hf).pick hf 9 rfl).pick hf 8 rfl).pick hf 1 rfl).pick hf 0 rfl) (hh.sub (.cons_cons _ List.Sublist.slnil))
                ·
                  rw [hc5, cond_false] at hX1
                  refine T.quiet (by kernel_rfl) (by kernel_rfl) ?_
                  refine TQ.pure (.slice A4 x2.length c4) (by kernel_rfl) (fun _ => by kernel_rfl) ?_
                  obtain ⟨e1, hb3, hX1⟩ := Option.bind_eq_some_iff.1 hX1
                  obtain ⟨hi1, hi2, hi3⟩ := idx_some hb3
                  refine TQ.look (.pointer (some ((sadr A4).add (((0 : Int).toNat) * 7)))) (by kernel_rfl) (fun w' hh => exec_indexAddr (e := 44) (s := 7) rfl rfl rfl (by kernel_rfl) (by kernel_rfl) hi1 hi2 (hs3.some_ hi3 (by decide))) ?_
                  refine TQ.pure (.pointer (some ((sadr A4).add (((0 : Int).toNat) * 7)))) (by kernel_rfl) (fun _ => by kernel_rfl) ?_
                  refine TQ.look (.agg #[.int .i64 e1.key.pfs, .int .i64 e1.key.obj, .int .i64 e1.key.off]) (by kernel_rfl) (fun w' hh => exec_loadN (cs := [.int .i64 e1.key.pfs, .int .i64 e1.key.obj, .int .i64 e1.key.off]) rfl rfl (by kernel_rfl) (by kernel_rfl) (fun j u hj => (hh.cell_view (SlOk.cellF (E := eChange) hs3 hi3 j (fun _ _ _ h => h) (take_at (n := 3) rfl hj))))) ?_
                  refine TQ.pure (.slice A5 x3.length c5) (by kernel_rfl) (fun _ => by kernel_rfl) ?_
                  obtain ⟨e2, hb4, hX1⟩ := Option.bind_eq_some_iff.1 hX1
                  obtain ⟨hi4, hi5, hi6⟩ := idx_some hb4
                  refine TQ.look (.pointer (some ((sadr A5).add (((0 : Int).toNat) * 7)))) (by kernel_rfl) (fun w' hh => exec_indexAddr (e := 44) (s := 7) rfl rfl rfl (by kernel_rfl) (by kernel_rfl) hi4 hi5 (hs4.some_ hi6 (by decide))) ?_
                  refine TQ.pure (.pointer (some ((sadr A5).add (((0 : Int).toNat) * 7)))) (by kernel_rfl) (fun _ => by kernel_rfl) ?_
                  refine TQ.look (.agg #[.int .i64 e2.key.pfs, .int .i64 e2.key.obj, .int .i64 e2.key.off]) (by kernel_rfl) (fun w' hh => exec_loadN (cs := [.int .i64 e2.key.pfs, .int .i64 e2.key.obj, .int .i64 e2.key.off]) rfl rfl (by kernel_rfl) (by kernel_rfl) (fun j u hj => (hh.cell_view (SlOk.cellF (E := eChange) hs4 hi6 j (fun _ _ _ h => h) (take_at (n := 3) rfl hj))))) ?_
                  obtain ⟨r4, hb5, hX1⟩ := Option.bind_eq_some_iff.1 hX1
                  refine TQ.call (vSc eInt) r4 45 #[.agg #[.int .i64 e1.key.pfs, .int .i64 e1.key.obj, .int .i64 e1.key.off], .agg #[.int .i64 e2.key.pfs, .int .i64 e2.key.obj, .int .i64 e2.key.off]] (.int .i64 r4) (fun V u hu => sureInt V u _ hu) (by kernel_rfl) (fun _ => by kernel_rfl) (fun w' hh => key_Cmp_l e1.key e2.key r4 hb5 w' ) ?_
                  refine TQ.pure (.int .i64 r4) (by kernel_rfl) (fun _ => by kernel_rfl) ?_
                  refine TQ.nil ?_
                  cases hX1
                  exact fun a w' hf hh => And.intro (((((Fr.nil hf).pick hf 9 rfl).pick hf 8 rfl).pick hf 1 rfl).pick hf 0 rfl) (hh.sub (.cons_cons _ List.Sublist.slnil))
            ·
              rintro a w' ⟨hf, hh⟩
              refine (?_ : T 121 w V3 [row 44 eChange A3 c3 x1] [(0, .slice A4 x2.length c4), (1, .slice A5 x3.length c5), (8, .slice A3 x1.length c3), (9, .int .i64 z2)] _) a w' hf hh
              clear hf hh
              refine T.block ?_
              refine T.seq ?_
              refine T.region ?_
              refine T.pure (.int .i64 z2) (by kernel_rfl) (fun _ => by kernel_rfl) ?_
              refine T.pure (.bool (decide (z2 < 0))) (by kernel_rfl) (fun _ => by kernel_rfl) ?_
              refine T.pure (.bool (decide (z2 < 0))) (by kernel_rfl) (fun _ => by kernel_rfl) ?_
              refine T.nil ?_
              refine T.cond (decide (z2 < 0)) (by kernel_rfl) (by kernel_rfl) (fun hc6 => ?_) (fun hc6 => ?_)
              ·
                rw [hc6, cond_true] at hY1
                refine T.seq ?_
                refine T.region ?_
                refine T.pure (.slice A3 x1.length c3) (by kernel_rfl) (fun _ => by kernel_rfl) ?_
                refine T.pure (.slice A4 x2.length c4) (by kernel_rfl) (fun _ => by kernel_rfl) ?_
                obtain ⟨e3, hb6, hY1⟩ := Option.bind_eq_some_iff.1 hY1
                obtain ⟨hi7, hi8, hi9⟩ := idx_some hb6
                refine T.look (.pointer (some ((sadr A4).add (((0 : Int).toNat) * 7)))) (by kernel_rfl) (fun w' hh => exec_indexAddr (e := 44) (s := 7) rfl rfl rfl (by kernel_rfl) (by kernel_rfl) hi7 hi8 (hs3.some_ hi9 (by decide))) ?_
                refine T.look (.agg #[.int .i64 e3.key.pfs, .int .i64 e3.key.obj, .int .i64 e3.key.off, .bool e3.had, .bool e3.has, .string e3.was, .string e3.is_]) (by kernel_rfl) (fun w' hh => exec_loadN (cs := [.int .i64 e3.key.pfs, .int .i64 e3.key.obj, .int .i64 e3.key.off, .bool e3.had, .bool e3.has, .string e3.was, .string e3.is_]) rfl rfl (by kernel_rfl) (by kernel_rfl) (fun j u hj => (hh.cell_view (SlOk.cellF (E := eChange) hs3 hi9 j (fun _ _ _ h => h) hj)))) ?_
                refine T.step (W1.new 44 [.int .i64 e3.key.pfs, .int .i64 e3.key.obj, .int .i64 e3.key.off, .bool e3.had, .bool e3.has, .string e3.was, .string e3.is_] (fun b => .slice (some ⟨b, 0, none⟩) 1 1) (by kernel_rfl) (fun _ => by kernel_rfl) (fun b1 => ?_))
                obtain ⟨y2, hb7, hY1⟩ := Option.bind_eq_some_iff.1 hY1
                obtain ⟨hb7_r, hb7_m, rfl⟩ := grow_some hb7
                obtain ⟨ti, hti, hz1, hz2, hz3⟩ := info_parts (P := Try.prog) (e := 44) (z := .agg #[.int .i64 0, .int .i64 0, .int .i64 0, .bool false, .bool false, .string (ByteArray.mk #[]), .string (ByteArray.mk #[])]) (size := 7) (bytes := 64) (by kernel_rfl)
                refine T.step (W1.append (E := eChange) (l := x1) (m := [e3]) 1 _ _ 64 ti _ (by rfl) (by kernel_rfl) rfl (by kernel_rfl) hti hz1 hz2 hz3 rfl (by decide) rfl rfl (fun w' hh => (SlOk.srcF (slok_lit (E := eChange) (f := DChange.cells) [e3] (fun _ _ => rfl) (Nat.le_of_ble_eq_true (by rfl)) (fun j => hh.cellBox (i := 0) (by rfl) j)) (fun _ _ _ _ h => h))) hb7_r hb7_m (fun A7 c7 => ?_))
                refine T.pure (.slice A7 ((x1 ++ [e3]).length) c7) (by kernel_rfl) (fun _ => by kernel_rfl) ?_
                refine T.nil ?_
                refine T.region ?_
                refine T.pure (.slice A4 x2.length c4) (by kernel_rfl) (fun _ => by kernel_rfl) ?_
                obtain ⟨s2, hb8, hY1⟩ := Option.bind_eq_some_iff.1 hY1
                refine T.look (.slice (cutA A4 c4 (1 : Int).toNat 7) s2.length (c4 - (1 : Int).toNat)) (by kernel_rfl) (fun w' hh => exec_slice_list (e := 44) (s := 7) (lx := (some _)) (hx := none) (k := .i64) (k' := .i64) rfl rfl (by kernel_rfl) (by kernel_rfl) (hs3).1 rfl rfl hb8) ?_
                refine T.pure (.slice (cutA A4 c4 (1 : Int).toNat 7) s2.length (c4 - (1 : Int).toNat)) (by kernel_rfl) (fun _ => by kernel_rfl) ?_
                refine T.nil ?_
                cases hY1
                exact fun a w' hf hh => Exists.intro ((x1 ++ [e3]), s2, x3) (And.intro rfl (Exists.intro (x1 ++ [e3]) (Exists.intro s2 (Exists.intro x3 (And.intro rfl (Exists.intro A7 (Exists.intro c7 (Exists.intro (cutA A4 c4 (1 : Int).toNat 7) (Exists.intro (c4 - (1 : Int).toNat) (Exists.intro A5 (Exists.intro c5 (Exists.intro V3 (And.intro hV3 (And.intro (SlOk.cut hs3 hb8) (And.intro hs4 (And.intro ((((Fr.nil hf).pick hf 8 rfl).pick hf 1 rfl).pick hf 0 rfl) (hh.sub (.cons _ (.cons_cons _ List.Sublist.slnil)))))))))))))))))))
              ·
                rw [hc6, cond_false] at hY1
                refine T.seq ?_
                refine T.region ?_
                refine T.pure (.int .i64 z2) (by kernel_rfl) (fun _ => by kernel_rfl) ?_
                refine T.pure (.bool (decide ((0 : Int) < z2))) (by kernel_rfl) (fun _ => by kernel_rfl) ?_
                refine T.pure (.bool (decide ((0 : Int) < z2))) (by kernel_rfl) (fun _ => by kernel_rfl) ?_
                refine T.nil ?_
                refine T.cond (decide ((0 : Int) < z2)) (by kernel_rfl) (by kernel_rfl) (fun hc7 => ?_) (fun hc7 => ?_)
                ·
                  rw [hc7, cond_true] at hY1
                  refine T.seq ?_
                  refine T.region ?_
                  refine T.pure (.slice A3 x1.length c3) (by kernel_rfl) (fun _ => by kernel_rfl) ?_
                  refine T.pure (.slice A5 x3.length c5) (by kernel_rfl) (fun _ => by kernel_rfl) ?_
                  obtain ⟨e4, hb9, hY1⟩ := Option.bind_eq_some_iff.1 hY1
                  obtain ⟨hi10, hi11, hi12⟩ := idx_some hb9
                  refine T.look (.pointer (some ((sadr A5).add (((0 : Int).toNat) * 7)))) (by kernel_rfl) (fun w' hh => exec_indexAddr (e := 44) (s := 7) rfl rfl rfl (by kernel_rfl) (by kernel_rfl) hi10 hi11 (hs4.some_ hi12 (by decide))) ?_
                  refine T.look (.agg #[.int .i64 e4.key.pfs, .int .i64 e4.key.obj, .int .i64 e4.key.off, .bool e4.had, .bool e4.has, .string e4.was, .string e4.is_]) (by kernel_rfl) (fun w' hh => exec_loadN (cs := [.int .i64 e4.key.pfs, .int .i64 e4.key.obj, .int .i64 e4.key.off, .bool e4.had, .bool e4.has, .string e4.was, .string e4.is_]) rfl rfl (by kernel_rfl) (by kernel_rfl) (fun j u hj => (hh.cell_view (SlOk.cellF (E := eChange) hs4 hi12 j (fun _ _ _ h => h) hj)))) ?_
                  refine T.step (W1.new 44 [.int .i64 e4.key.pfs, .int .i64 e4.key.obj, .int .i64 e4.key.off, .bool e4.had, .bool e4.has, .string e4.was, .string e4.is_] (fun b => .slice (some ⟨b, 0, none⟩) 1 1) (by kernel_rfl) (fun _ => by kernel_rfl) (fun b2 => ?_))
                  obtain ⟨y3, hb10, hY1⟩ := Option.bind_eq_some_iff.1 hY1
                  obtain ⟨hb10_r, hb10_m, rfl⟩ := grow_some hb10
                  obtain ⟨ti, hti, hz1, hz2, hz3⟩ := info_parts (P := Try.prog) (e := 44) (z := .agg #[.int .i64 0, .int .i64 0, .int .i64 0, .bool false, .bool false, .string (ByteArray.mk #[]), .string (ByteArray.mk #[])]) (size := 7) (bytes := 64) (by kernel_rfl)
                  refine T.step (W1.append (E := eChange) (l := x1) (m := [e4]) 1 _ _ 64 ti _ (by rfl) (by kernel_rfl) rfl (by kernel_rfl) hti hz1 hz2 hz3 rfl (by decide) rfl rfl (fun w' hh => (SlOk.srcF (slok_lit (E := eChange) (f := DChange.cells) [e4] (fun _ _ => rfl) (Nat.le_of_ble_eq_true (by rfl)) (fun j => hh.cellBox (i := 0) (by rfl) j)) (fun _ _ _ _ h => h))) hb10_r hb10_m (fun A8 c8 => ?_))
                  refine T.pure (.slice A8 ((x1 ++ [e4]).length) c8) (by kernel_rfl) (fun _ => by kernel_rfl) ?_
                  refine T.nil ?_
                  refine T.region ?_
                  refine T.pure (.slice A5 x3.length c5) (by kernel_rfl) (fun _ => by kernel_rfl) ?_
                  obtain ⟨s3, hb11, hY1⟩ := Option.bind_eq_some_iff.1 hY1
                  refine T.look (.slice (cutA A5 c5 (1 : Int).toNat 7) s3.length (c5 - (1 : Int).toNat)) (by kernel_rfl) (fun w' hh => exec_slice_list (e := 44) (s := 7) (lx := (some _)) (hx := none) (k := .i64) (k' := .i64) rfl rfl (by kernel_rfl) (by kernel_rfl) (hs4).1 rfl rfl hb11) ?_
                  refine T.pure (.slice (cutA A5 c5 (1 : Int).toNat 7) s3.length (c5 - (1 : Int).toNat)) (by kernel_rfl) (fun _ => by kernel_rfl) ?_
                  refine T.nil ?_
                  cases hY1
                  exact fun a w' hf hh => Exists.intro ((x1 ++ [e4]), x2, s3) (And.intro rfl (Exists.intro (x1 ++ [e4]) (Exists.intro x2 (Exists.intro s3 (And.intro rfl (Exists.intro A8 (Exists.intro c8 (Exists.intro A4 (Exists.intro c4 (Exists.intro (cutA A5 c5 (1 : Int).toNat 7) (Exists.intro (c5 - (1 : Int).toNat) (Exists.intro V3 (And.intro hV3 (And.intro hs3 (And.intro (SlOk.cut hs4 hb11) (And.intro ((((Fr.nil hf).pick hf 8 rfl).pick hf 1 rfl).pick hf 0 rfl) (hh.sub (.cons _ (.cons_cons _ List.Sublist.slnil)))))))))))))))))))
                ·
                  rw [hc7, cond_false] at hY1
                  refine T.seq ?_
                  obtain ⟨z3, hX2, hY1⟩ := Option.bind_eq_some_iff.1 hY1
                  refine T.cut (fun a w' => Fr 121 [(0, .slice A4 x2.length c4), (1, .slice A5 x3.length c5), (8, .slice A3 x1.length c3), (63, .bool z3)] a ∧ Hp w V3 [row 44 eChange A3 c3 x1] w') ?_ ?_
                  ·
                    refine T.quiet (by kernel_rfl) (by kernel_rfl) ?_
                    refine TQ.pure (.slice A4 x2.length c4) (by kernel_rfl) (fun _ => by kernel_rfl) ?_
                    obtain ⟨e5, hb12, hX2⟩ := Option.bind_eq_some_iff.1 hX2
                    obtain ⟨hi13, hi14, hi15⟩ := idx_some hb12
                    refine TQ.look (.pointer (some ((sadr A4).add (((0 : Int).toNat) * 7)))) (by kernel_rfl) (fun w' hh => exec_indexAddr (e := 44) (s := 7) rfl rfl rfl (by kernel_rfl) (by kernel_rfl) hi13 hi14 (hs3.some_ hi15 (by decide))) ?_
                    refine TQ.pure (.pointer (some (((sadr A4).add (((0 : Int).toNat) * 7)).add 4))) (by kernel_rfl) (fun _ => by kernel_rfl) ?_
                    refine TQ.look (.bool e5.has) (by kernel_rfl) (fun w' hh => exec_load1 rfl rfl (by kernel_rfl) (hh.cell_view (SlOk.cellF (E := eChange) hs3 hi15 4 (fun _ _ _ h => h) rfl))) ?_
                    refine TQ.pure (.slice A5 x3.length c5) (by kernel_rfl) (fun _ => by kernel_rfl) ?_
                    obtain ⟨e6, hb13, hX2⟩ := Option.bind_eq_some_iff.1 hX2
                    obtain ⟨hi16, hi17, hi18⟩ := idx_some hb13
                    refine TQ.look (.pointer (some ((sadr A5).add (((0 : Int).toNat) * 7)))) (by kernel_rfl) (fun w' hh => exec_indexAddr (e := 44) (s := 7) rfl rfl rfl (by kernel_rfl) (by kernel_rfl) hi16 hi17 (hs4.some_ hi18 (by decide))) ?_
                    refine TQ.pure (.pointer (some (((sadr A5).add (((0 : Int).toNat) * 7)).add 3))) (by kernel_rfl) (fun _ => by kernel_rfl) ?_
                    refine TQ.look (.bool e6.had) (by kernel_rfl) (fun w' hh => exec_load1 rfl rfl (by kernel_rfl) (hh.cell_view (SlOk.cellF (E := eChange) hs4 hi18 3 (fun _ _ _ h => h) rfl))) ?_
                    refine TQ.pure (.bool (!(e5.has == e6.had))) (by kernel_rfl) (fun _ => by kernel_rfl) ?_
                    refine TQ.pure (.bool (!(e5.has == e6.had))) (by kernel_rfl) (fun _ => by kernel_rfl) ?_
                    cases hg1 : (!(e5.has == e6.had))
                    ·
                      skip
                      rw [hg1, cond_false] at hX2
                      refine TQ.pure (.slice A4 x2.length c4) (by kernel_rfl) (fun _ => by kernel_rfl) ?_
                      obtain ⟨e7, hb14, hX2⟩ := Option.bind_eq_some_iff.1 hX2
                      obtain ⟨hi19, hi20, hi21⟩ := idx_some hb14
                      refine TQ.look (.pointer (some ((sadr A4).add (((0 : Int).toNat) * 7)))) (by kernel_rfl) (fun w' hh => exec_indexAddr (e := 44) (s := 7) rfl rfl rfl (by kernel_rfl) (by kernel_rfl) hi19 hi20 (hs3.some_ hi21 (by decide))) ?_
                      refine TQ.pure (.pointer (some (((sadr A4).add (((0 : Int).toNat) * 7)).add 6))) (by kernel_rfl) (fun _ => by kernel_rfl) ?_
                      refine TQ.look (.string e7.is_) (by kernel_rfl) (fun w' hh => exec_load1 rfl rfl (by kernel_rfl) (hh.cell_view (SlOk.cellF (E := eChange) hs3 hi21 6 (fun _ _ _ h => h) rfl))) ?_
                      refine TQ.pure (.slice A5 x3.length c5) (by kernel_rfl) (fun _ => by kernel_rfl) ?_
                      obtain ⟨e8, hb15, hX2⟩ := Option.bind_eq_some_iff.1 hX2
                      obtain ⟨hi22, hi23, hi24⟩ := idx_some hb15
                      refine TQ.look (.pointer (some ((sadr A5).add (((0 : Int).toNat) * 7)))) (by kernel_rfl) (fun w' hh => exec_indexAddr (e := 44) (s := 7) rfl rfl rfl (by kernel_rfl) (by kernel_rfl) hi22 hi23 (hs4.some_ hi24 (by decide))) ?_
                      refine TQ.pure (.pointer (some (((sadr A5).add (((0 : Int).toNat) * 7)).add 5))) (by kernel_rfl) (fun _ => by kernel_rfl) ?_
                      refine TQ.look (.string e8.was) (by kernel_rfl) (fun w' hh => exec_load1 rfl rfl (by kernel_rfl) (hh.cell_view (SlOk.cellF (E := eChange) hs4 hi24 5 (fun _ _ _ h => h) rfl))) ?_
                      refine TQ.pure (.bool (!(seq e7.is_ e8.was))) (by kernel_rfl) (fun _ => by kernel_rfl) ?_
                      refine TQ.pure (.bool (!(seq e7.is_ e8.was))) (by kernel_rfl) (fun _ => by kernel_rfl) ?_
                      refine TQ.nil ?_
                      cases hX2
                      exact fun a w' hf hh => And.intro (((((Fr.nil hf).pick hf 63 rfl).pick hf 8 rfl).pick hf 1 rfl).pick hf 0 rfl) (hh.sub (.cons_cons _ List.Sublist.slnil))
                    ·
                      skip
                      rw [hg1, cond_true] at hX2
                      refine TQ.pass (by kernel_rfl) (by kernel_rfl) ?_
                      refine TQ.pass (by kernel_rfl) (by kernel_rfl) ?_
                      refine TQ.pass (by kernel_rfl) (by kernel_rfl) ?_
                      refine TQ.pass (by kernel_rfl) (by kernel_rfl) ?_
                      refine TQ.pass (by kernel_rfl) (by kernel_rfl) ?_
                      refine TQ.pass (by kernel_rfl) (by kernel_rfl) ?_
                      refine TQ.pass (by kernel_rfl) (by kernel_rfl) ?_
                      refine TQ.pass (by kernel_rfl) (by kernel_rfl) ?_
                      refine TQ.pass (by kernel_rfl) (by kernel_rfl) ?_
                      refine TQ.pure (.bool true) (by kernel_rfl) (fun _ => by kernel_rfl) ?_
                      refine TQ.nil ?_
                      cases hX2
                      exact fun a w' hf hh => And.intro (((((Fr.nil hf).pick hf 63 rfl).pick hf 8 rfl).pick hf 1 rfl).pick hf 0 rfl) (hh.sub (.cons_cons _ List.Sublist.slnil))
                  ·
                    rintro a w' ⟨hf, hh⟩
                    refine (?_ : T 121 w V3 [row 44 eChange A3 c3 x1] [(0, .slice A4 x2.length c4), (1, .slice A5 x3.length c5), (8, .slice A3 x1.length c3), (63, .bool z3)] _) a w' hf hh
                    clear hf hh
                    refine T.cond z3 (by kernel_rfl) (by kernel_rfl) (fun hc8 => ?_) (fun hc8 => ?_)
                    ·
                      rw [hc8, cond_true] at hY1
                      refine T.seq ?_
                      refine T.region ?_
                      refine T.pure (.slice none 0 0) (by kernel_rfl) (fun _ => by kernel_rfl) ?_
                      refine T.pure (.int .i64 1) (by kernel_rfl) (fun _ => by kernel_rfl) ?_
                      refine T.nil ?_
                      cases hY1
                      cases (hr1 _ rfl)
                      try dsimp only at hF
                      cases hF
                      refine T.ret rfl ?_
                      exact T.ret2 rfl (ResIs.tmp rfl) (ResIs.tmp rfl) fun w' hh => ⟨_, rfl, hh.below, (vT2.mk ⟨_, _, rfl, (SlOk.nil _ _)⟩ (show _ from rfl))⟩
                    ·
                      rw [hc8, cond_false] at hY1
                      refine T.skip_code ?_
                      refine T.seq ?_
                      refine T.held [row 44 eChange A3 c3 x1] (by kernel_rfl) ?_
                      refine TA.take 0 (.slice A4 x2.length c4) rfl (by kernel_rfl) (by kernel_rfl) (by kernel_rfl) (fun _ _ _ h => h) (Hp.old (View.le_refl _) (View.le_trans (View.le_trans hV1 hV2) hV3) (.cons_cons _ List.Sublist.slnil) (OldAll.row (fun _ _ _ _ h => h) OldAll.nil)) (by kernel_rfl) (fun _ _ => by kernel_rfl) ?_
                      obtain ⟨e9, hb16, hY1⟩ := Option.bind_eq_some_iff.1 hY1
                      obtain ⟨hi25, hi26, hi27⟩ := idx_some hb16
                      refine TA.take 1 (.pointer (some ((sadr A4).add (((0 : Int).toNat) * 7)))) rfl (by kernel_rfl) (by kernel_rfl) (by kernel_rfl) (fun _ _ _ h => h) (Hp.old (View.le_refl _) (View.le_trans (View.le_trans hV1 hV2) hV3) (.cons_cons _ List.Sublist.slnil) (OldAll.row (fun _ _ _ _ h => h) OldAll.nil)) (by kernel_rfl) (fun w' hh => exec_indexAddr (e := 44) (s := 7) rfl rfl rfl (by kernel_rfl) (by kernel_rfl) hi25 hi26 (hs3.some_ hi27 (by decide))) ?_
                      refine TA.take 2 (.pointer (some ((sadr A4).add (((0 : Int).toNat) * 7)))) rfl (by kernel_rfl) (by kernel_rfl) (by kernel_rfl) (fun _ _ _ h => h) (Hp.old (View.le_refl _) (View.le_trans (View.le_trans hV1 hV2) hV3) (.cons_cons _ List.Sublist.slnil) (OldAll.row (fun _ _ _ _ h => h) OldAll.nil)) (by kernel_rfl) (fun _ _ => by kernel_rfl) ?_
                      refine TA.take 3 (.agg #[.int .i64 e9.key.pfs, .int .i64 e9.key.obj, .int .i64 e9.key.off]) rfl (by kernel_rfl) (by kernel_rfl) (by kernel_rfl) (fun _ _ _ h => h) (Hp.old (View.le_refl _) (View.le_trans (View.le_trans hV1 hV2) hV3) (.cons_cons _ List.Sublist.slnil) (OldAll.row (fun _ _ _ _ h => h) OldAll.nil)) (by kernel_rfl) (fun w' hh => exec_loadN (cs := [.int .i64 e9.key.pfs, .int .i64 e9.key.obj, .int .i64 e9.key.off]) rfl rfl (by kernel_rfl) (by kernel_rfl) (fun j u hj => (hh.cell_view (SlOk.cellF (E := eChange) hs3 hi27 j (fun _ _ _ h => h) (take_at (n := 3) rfl hj))))) ?_
                      refine TA.take 4 (.slice A4 x2.length c4) rfl (by kernel_rfl) (by kernel_rfl) (by kernel_rfl) (fun _ _ _ h => h) (Hp.old (View.le_refl _) (View.le_trans (View.le_trans hV1 hV2) hV3) (.cons_cons _ List.Sublist.slnil) (OldAll.row (fun _ _ _ _ h => h) OldAll.nil)) (by kernel_rfl) (fun _ _ => by kernel_rfl) ?_
                      obtain ⟨e10, hb17, hY1⟩ := Option.bind_eq_some_iff.1 hY1
                      obtain ⟨hi28, hi29, hi30⟩ := idx_some hb17
                      refine TA.take 5 (.pointer (some ((sadr A4).add (((0 : Int).toNat) * 7)))) rfl (by kernel_rfl) (by kernel_rfl) (by kernel_rfl) (fun _ _ _ h => h) (Hp.old (View.le_refl _) (View.le_trans (View.le_trans hV1 hV2) hV3) (.cons_cons _ List.Sublist.slnil) (OldAll.row (fun _ _ _ _ h => h) OldAll.nil)) (by kernel_rfl) (fun w' hh => exec_indexAddr (e := 44) (s := 7) rfl rfl rfl (by kernel_rfl) (by kernel_rfl) hi28 hi29 (hs3.some_ hi30 (by decide))) ?_
                      refine TA.take 6 (.pointer (some (((sadr A4).add (((0 : Int).toNat) * 7)).add 3))) rfl (by kernel_rfl) (by kernel_rfl) (by kernel_rfl) (fun _ _ _ h => h) (Hp.old (View.le_refl _) (View.le_trans (View.le_trans hV1 hV2) hV3) (.cons_cons _ List.Sublist.slnil) (OldAll.row (fun _ _ _ _ h => h) OldAll.nil)) (by kernel_rfl) (fun _ _ => by kernel_rfl) ?_
                      refine TA.take 7 (.bool e10.had) rfl (by kernel_rfl) (by kernel_rfl) (by kernel_rfl) (fun _ _ _ h => h) (Hp.old (View.le_refl _) (View.le_trans (View.le_trans hV1 hV2) hV3) (.cons_cons _ List.Sublist.slnil) (OldAll.row (fun _ _ _ _ h => h) OldAll.nil)) (by kernel_rfl) (fun w' hh => exec_load1 rfl rfl (by kernel_rfl) (hh.cell_view (SlOk.cellF (E := eChange) hs3 hi30 3 (fun _ _ _ h => h) rfl))) ?_
                      refine TA.take 8 (.slice A4 x2.length c4) rfl (by kernel_rfl) (by kernel_rfl) (by kernel_rfl) (fun _ _ _ h => h) (Hp.old (View.le_refl _) (View.le_trans (View.le_trans hV1 hV2) hV3) (.cons_cons _ List.Sublist.slnil) (OldAll.row (fun _ _ _ _ h => h) OldAll.nil)) (by kernel_rfl) (fun _ _ => by kernel_rfl) ?_
                      obtain ⟨e11, hb18, hY1⟩ := Option.bind_eq_some_iff.1 hY1
                      obtain ⟨hi31, hi32, hi33⟩ := idx_some hb18
                      refine TA.take 9 (.pointer (some ((sadr A4).add (((0 : Int).toNat) * 7)))) rfl (by kernel_rfl) (by kernel_rfl) (by kernel_rfl) (fun _ _ _ h => h) (Hp.old (View.le_refl _) (View.le_trans (View.le_trans hV1 hV2) hV3) (.cons_cons _ List.Sublist.slnil) (OldAll.row (fun _ _ _ _ h => h) OldAll.nil)) (by kernel_rfl) (fun w' hh => exec_indexAddr (e := 44) (s := 7) rfl rfl rfl (by kernel_rfl) (by kernel_rfl) hi31 hi32 (hs3.some_ hi33 (by decide))) ?_
                      refine TA.take 10 (.pointer (some (((sadr A4).add (((0 : Int).toNat) * 7)).add 5))) rfl (by kernel_rfl) (by kernel_rfl) (by kernel_rfl) (fun _ _ _ h => h) (Hp.old (View.le_refl _) (View.le_trans (View.le_trans hV1 hV2) hV3) (.cons_cons _ List.Sublist.slnil) (OldAll.row (fun _ _ _ _ h => h) OldAll.nil)) (by kernel_rfl) (fun _ _ => by kernel_rfl) ?_
                      refine TA.take 11 (.string e11.was) rfl (by kernel_rfl) (by kernel_rfl) (by kernel_rfl) (fun _ _ _ h => h) (Hp.old (View.le_refl _) (View.le_trans (View.le_trans hV1 hV2) hV3) (.cons_cons _ List.Sublist.slnil) (OldAll.row (fun _ _ _ _ h => h) OldAll.nil)) (by kernel_rfl) (fun w' hh => exec_load1 rfl rfl (by kernel_rfl) (hh.cell_view (SlOk.cellF (E := eChange) hs3 hi33 5 (fun _ _ _ h => h) rfl))) ?_
                      refine TA.take 12 (.slice A5 x3.length c5) rfl (by kernel_rfl) (by kernel_rfl) (by kernel_rfl) (fun _ _ _ h => h) (Hp.old (View.le_refl _) (View.le_trans (View.le_trans hV1 hV2) hV3) (.cons_cons _ List.Sublist.slnil) (OldAll.row (fun _ _ _ _ h => h) OldAll.nil)) (by kernel_rfl) (fun _ _ => by kernel_rfl) ?_
                      obtain ⟨e12, hb19, hY1⟩ := Option.bind_eq_some_iff.1 hY1
                      obtain ⟨hi34, hi35, hi36⟩ := idx_some hb19
                      refine TA.take 13 (.pointer (some ((sadr A5).add (((0 : Int).toNat) * 7)))) rfl (by kernel_rfl) (by kernel_rfl) (by kernel_rfl) (fun _ _ _ h => h) (Hp.old (View.le_refl _) (View.le_trans (View.le_trans hV1 hV2) hV3) (.cons_cons _ List.Sublist.slnil) (OldAll.row (fun _ _ _ _ h => h) OldAll.nil)) (by kernel_rfl) (fun w' hh => exec_indexAddr (e := 44) (s := 7) rfl rfl rfl (by kernel_rfl) (by kernel_rfl) hi34 hi35 (hs4.some_ hi36 (by decide))) ?_
                      refine TA.take 14 (.pointer (some (((sadr A5).add (((0 : Int).toNat) * 7)).add 4))) rfl (by kernel_rfl) (by kernel_rfl) (by kernel_rfl) (fun _ _ _ h => h) (Hp.old (View.le_refl _) (View.le_trans (View.le_trans hV1 hV2) hV3) (.cons_cons _ List.Sublist.slnil) (OldAll.row (fun _ _ _ _ h => h) OldAll.nil)) (by kernel_rfl) (fun _ _ => by kernel_rfl) ?_
                      refine TA.take 15 (.bool e12.has) rfl (by kernel_rfl) (by kernel_rfl) (by kernel_rfl) (fun _ _ _ h => h) (Hp.old (View.le_refl _) (View.le_trans (View.le_trans hV1 hV2) hV3) (.cons_cons _ List.Sublist.slnil) (OldAll.row (fun _ _ _ _ h => h) OldAll.nil)) (by kernel_rfl) (fun w' hh => exec_load1 rfl rfl (by kernel_rfl) (hh.cell_view (SlOk.cellF (E := eChange) hs4 hi36 4 (fun _ _ _ h => h) rfl))) ?_
                      refine TA.take 16 (.slice A5 x3.length c5) rfl (by kernel_rfl) (by kernel_rfl) (by kernel_rfl) (fun _ _ _ h => h) (Hp.old (View.le_refl _) (View.le_trans (View.le_trans hV1 hV2) hV3) (.cons_cons _ List.Sublist.slnil) (OldAll.row (fun _ _ _ _ h => h) OldAll.nil)) (by kernel_rfl) (fun _ _ => by kernel_rfl) ?_
                      obtain ⟨e13, hb20, hY1⟩ := Option.bind_eq_some_iff.1 hY1
                      obtain ⟨hi37, hi38, hi39⟩ := idx_some hb20
                      refine TA.take 17 (.pointer (some ((sadr A5).add (((0 : Int).toNat) * 7)))) rfl (by kernel_rfl) (by kernel_rfl) (by kernel_rfl) (fun _ _ _ h => h) (Hp.old (View.le_refl _) (View.le_trans (View.le_trans hV1 hV2) hV3) (.cons_cons _ List.Sublist.slnil) (OldAll.row (fun _ _ _ _ h => h) OldAll.nil)) (by kernel_rfl) (fun w' hh => exec_indexAddr (e := 44) (s := 7) rfl rfl rfl (by kernel_rfl) (by kernel_rfl) hi37 hi38 (hs4.some_ hi39 (by decide))) ?_
                      refine TA.take 18 (.pointer (some (((sadr A5).add (((0 : Int).toNat) * 7)).add 6))) rfl (by kernel_rfl) (by kernel_rfl) (by kernel_rfl) (fun _ _ _ h => h) (Hp.old (View.le_refl _) (View.le_trans (View.le_trans hV1 hV2) hV3) (.cons_cons _ List.Sublist.slnil) (OldAll.row (fun _ _ _ _ h => h) OldAll.nil)) (by kernel_rfl) (fun _ _ => by kernel_rfl) ?_
                      refine TA.take 19 (.string e13.is_) rfl (by kernel_rfl) (by kernel_rfl) (by kernel_rfl) (fun _ _ _ h => h) (Hp.old (View.le_refl _) (View.le_trans (View.le_trans hV1 hV2) hV3) (.cons_cons _ List.Sublist.slnil) (OldAll.row (fun _ _ _ _ h => h) OldAll.nil)) (by kernel_rfl) (fun w' hh => exec_load1 rfl rfl (by kernel_rfl) (hh.cell_view (SlOk.cellF (E := eChange) hs4 hi39 6 (fun _ _ _ h => h) rfl))) ?_
                      refine TA.take 20 (.agg #[.int .i64 e9.key.pfs, .int .i64 e9.key.obj, .int .i64 e9.key.off, .bool e10.had, .bool e12.has, .string e11.was, .string e13.is_]) rfl (by kernel_rfl) (by kernel_rfl) (by kernel_rfl) (fun _ _ _ h => h) (Hp.old (View.le_refl _) (View.le_trans (View.le_trans hV1 hV2) hV3) (.cons_cons _ List.Sublist.slnil) (OldAll.row (fun _ _ _ _ h => h) OldAll.nil)) (by kernel_rfl) (fun _ _ => by kernel_rfl) ?_
                      refine TA.all [21] (by kernel_rfl) rfl ⟨?_, trivial⟩
                      refine TA.br rfl (W1.new 44 [.int .i64 0, .int .i64 0, .int .i64 0, .bool false, .bool false, .string (ByteArray.mk #[]), .string (ByteArray.mk #[])] (fun b => .pointer (some ⟨b, 0, none⟩)) (by kernel_rfl) (fun _ => by kernel_rfl) (fun b3 => ?_))
                      refine TA.on (Hp.old (View.le_refl _) (View.le_trans (View.le_trans hV1 hV2) hV3) (.cons _ (.cons_cons _ List.Sublist.slnil)) (OldAll.row (fun _ _ _ _ h => h) OldAll.nil)) ?_
                      refine TA.all [22] (by kernel_rfl) rfl ⟨?_, trivial⟩
                      refine TA.br rfl (W1.store 0 [.int .i64 e9.key.pfs, .int .i64 e9.key.obj, .int .i64 e9.key.off, .bool e10.had, .bool e12.has, .string e11.was, .string e13.is_] [box b3 44 [.int .i64 e9.key.pfs, .int .i64 e9.key.obj, .int .i64 e9.key.off, .bool e10.had, .bool e12.has, .string e11.was, .string e13.is_], row 44 eChange A3 c3 x1] (by rfl) rfl (by kernel_rfl) (fun w' hw => exec_store (vs := [.int .i64 e9.key.pfs, .int .i64 e9.key.obj, .int .i64 e9.key.off, .bool e10.had, .bool e12.has, .string e11.was, .string e13.is_]) rfl rfl rfl rfl (by kernel_rfl) (one_of rfl) (by simp) rfl hw) ?_)
                      refine TA.on (Hp.old (View.le_refl _) (View.le_trans (View.le_trans hV1 hV2) hV3) (.cons _ (.cons_cons _ List.Sublist.slnil)) (OldAll.row (fun _ _ _ _ h => h) OldAll.nil)) ?_
                      refine TA.done (by kernel_rfl) ?_
                      obtain ⟨z4, hX3, hY1⟩ := Option.bind_eq_some_iff.1 hY1
                      refine T.cut (fun a w' => ∃ (A9 : Option Addr) (c9 : Nat) (V5 : View), View.le V3 V5 ∧ Fr 121 [(0, .slice A4 x2.length c4), (1, .slice A5 x3.length c5), (8, .slice A9 z4.length c9)] a ∧ Hp w V5 [row 44 eChange A9 c9 z4] w') ?_ ?_
                      ·
                        refine T.seq ?_
                        refine T.region ?_
                        refine T.look (.agg #[.int .i64 e9.key.pfs, .int .i64 e9.key.obj, .int .i64 e9.key.off, .bool e10.had, .bool e12.has, .string e11.was, .string e13.is_]) (by kernel_rfl) (fun w' hh => exec_loadN (cs := [.int .i64 e9.key.pfs, .int .i64 e9.key.obj, .int .i64 e9.key.off, .bool e10.had, .bool e12.has, .string e11.was, .string e13.is_]) rfl rfl (by kernel_rfl) (by kernel_rfl) (fun j u hj => (hh.box_at (i := 0) (cs := [.int .i64 e9.key.pfs, .int .i64 e9.key.obj, .int .i64 e9.key.off, .bool e10.had, .bool e12.has, .string e11.was, .string e13.is_]) (by rfl) 0 j).trans (seg_at (n := 7) rfl hj))) ?_
                        obtain ⟨r5, hb21, hX3⟩ := Option.bind_eq_some_iff.1 hX3
                        refine T.step (W1.call (vSc eBool) r5 77 #[.agg #[.int .i64 e9.key.pfs, .int .i64 e9.key.obj, .int .i64 e9.key.off, .bool e10.had, .bool e12.has, .string e11.was, .string e13.is_]] (by kernel_rfl) (fun _ => by kernel_rfl) (fun w' hh => change_differs_l (DChange.mk e9.key e10.had e12.has e11.was e13.is_) r5 hb21 w' ) ?_)
                        intro u V6 hV6 hu
                        obtain rfl := sureBool _ _ _ hu
                        refine T.nil ?_
                        refine T.cond r5 (by kernel_rfl) (by kernel_rfl) (fun hc9 => ?_) (fun hc9 => ?_)
                        ·
                          rw [hc9, cond_true] at hX3
                          refine T.region ?_
                          refine T.pure (.slice A3 x1.length c3) (by kernel_rfl) (fun _ => by kernel_rfl) ?_
                          refine T.look (.agg #[.int .i64 e9.key.pfs, .int .i64 e9.key.obj, .int .i64 e9.key.off, .bool e10.had, .bool e12.has, .string e11.was, .string e13.is_]) (by kernel_rfl) (fun w' hh => exec_loadN (cs := [.int .i64 e9.key.pfs, .int .i64 e9.key.obj, .int .i64 e9.key.off, .bool e10.had, .bool e12.has, .string e11.was, .string e13.is_]) rfl rfl (by kernel_rfl) (by kernel_rfl) (fun j u hj => (hh.box_at (i := 0) (cs := [.int .i64 e9.key.pfs, .int .i64 e9.key.obj, .int .i64 e9.key.off, .bool e10.had, .bool e12.has, .string e11.was, .string e13.is_]) (by rfl) 0 j).trans (seg_at (n := 7) rfl hj))) ?_
                          refine T.step (W1.new 44 [.int .i64 e9.key.pfs, .int .i64 e9.key.obj, .int .i64 e9.key.off, .bool e10.had, .bool e12.has, .string e11.was, .string e13.is_] (fun b => .slice (some ⟨b, 0, none⟩) 1 1) (by kernel_rfl) (fun _ => by kernel_rfl) (fun b4 => ?_))
                          obtain ⟨y4, hb22, hX3⟩ := Option.bind_eq_some_iff.1 hX3
                          obtain ⟨hb22_r, hb22_m, rfl⟩ := grow_some hb22
                          obtain ⟨ti, hti, hz1, hz2, hz3⟩ := info_parts (P := Try.prog) (e := 44) (z := .agg #[.int .i64 0, .int .i64 0, .int .i64 0, .bool false, .bool false, .string (ByteArray.mk #[]), .string (ByteArray.mk #[])]) (size := 7) (bytes := 64) (by kernel_rfl)
                          refine T.step (W1.append (E := eChange) (l := x1) (m := [(DChange.mk e9.key e10.had e12.has e11.was e13.is_)]) 2 _ _ 64 ti _ (by rfl) (by kernel_rfl) rfl (by kernel_rfl) hti hz1 hz2 hz3 rfl (by decide) rfl rfl (fun w' hh => (SlOk.srcF (slok_lit (E := eChange) (f := DChange.cells) [(DChange.mk e9.key e10.had e12.has e11.was e13.is_)] (fun _ _ => rfl) (Nat.le_of_ble_eq_true (by rfl)) (fun j => hh.cellBox (i := 0) (by rfl) j)) (fun _ _ _ _ h => h))) hb22_r hb22_m (fun A10 c10 => ?_))
                          refine T.pure (.slice A10 ((x1 ++ [(DChange.mk e9.key e10.had e12.has e11.was e13.is_)]).length) c10) (by kernel_rfl) (fun _ => by kernel_rfl) ?_
                          refine T.nil ?_
                          cases hX3
                          exact fun a w' hf hh => Exists.intro A10 (Exists.intro c10 (Exists.intro V6 (And.intro hV6 (And.intro ((((Fr.nil hf).pick hf 8 rfl).pick hf 1 rfl).pick hf 0 rfl) (hh.sub (.cons _ (.cons _ (.cons_cons _ List.Sublist.slnil))))))))
                        ·
                          rw [hc9, cond_false] at hX3
                          refine T.skip_code ?_
                          cases hX3
                          exact fun a w' hf hh => Exists.intro A3 (Exists.intro c3 (Exists.intro V6 (And.intro hV6 (And.intro ((((Fr.nil hf).pick hf 8 rfl).pick hf 1 rfl).pick hf 0 rfl) (hh.sub (.cons _ (.cons_cons _ List.Sublist.slnil)))))))
                      ·
                        rintro a w' ⟨A9, c9, V5, hV5, hf, hh⟩
                        refine (?_ : T 121 w V5 [row 44 eChange A9 c9 z4] [(0, .slice A4 x2.length c4), (1, .slice A5 x3.length c5), (8, .slice A9 z4.length c9)] _) a w' hf hh
                        clear hf hh
                        refine T.quiet (by kernel_rfl) (by kernel_rfl) ?_
                        refine TQ.pure (.slice A4 x2.length c4) (by kernel_rfl) (fun _ => by kernel_rfl) ?_
                        obtain ⟨s4, hb23, hY1⟩ := Option.bind_eq_some_iff.1 hY1
                        refine TQ.look (.slice (cutA A4 c4 (1 : Int).toNat 7) s4.length (c4 - (1 : Int).toNat)) (by kernel_rfl) (fun w' hh => exec_slice_list (e := 44) (s := 7) (lx := (some _)) (hx := none) (k := .i64) (k' := .i64) rfl rfl (by kernel_rfl) (by kernel_rfl) ((SlOk.mono hs3 hV5)).1 rfl rfl hb23) ?_
                        refine TQ.pure (.slice A5 x3.length c5) (by kernel_rfl) (fun _ => by kernel_rfl) ?_
                        obtain ⟨s5, hb24, hY1⟩ := Option.bind_eq_some_iff.1 hY1
                        refine TQ.look (.slice (cutA A5 c5 (1 : Int).toNat 7) s5.length (c5 - (1 : Int).toNat)) (by kernel_rfl) (fun w' hh => exec_slice_list (e := 44) (s := 7) (lx := (some _)) (hx := none) (k := .i64) (k' := .i64) rfl rfl (by kernel_rfl) (by kernel_rfl) ((SlOk.mono hs4 hV5)).1 rfl rfl hb24) ?_
                        refine TQ.pure (.slice (cutA A4 c4 (1 : Int).toNat 7) s4.length (c4 - (1 : Int).toNat)) (by kernel_rfl) (fun _ => by kernel_rfl) ?_
                        refine TQ.pure (.slice (cutA A5 c5 (1 : Int).toNat 7) s5.length (c5 - (1 : Int).toNat)) (by kernel_rfl) (fun _ => by kernel_rfl) ?_
                        refine TQ.nil ?_
                        cases hY1
                        exact fun a w' hf hh => Exists.intro (z4, s4, s5) (And.intro rfl (Exists.intro z4 (Exists.intro s4 (Exists.intro s5 (And.intro rfl (Exists.intro A9 (Exists.intro c9 (Exists.intro (cutA A4 c4 (1 : Int).toNat 7) (Exists.intro (c4 - (1 : Int).toNat) (Exists.intro (cutA A5 c5 (1 : Int).toNat 7) (Exists.intro (c5 - (1 : Int).toNat) (Exists.intro V5 (And.intro (View.le_trans hV3 hV5) (And.intro (SlOk.cut (SlOk.mono hs3 hV5) hb23) (And.intro (SlOk.cut (SlOk.mono hs4 hV5) hb24) (And.intro ((((Fr.nil hf).pick hf 8 rfl).pick hf 1 rfl).pick hf 0 rfl) (hh.sub (.cons_cons _ List.Sublist.slnil))))))))))))))))))
          ·
            rw [hc3, cond_false] at hY1
            refine T.exit ?_
            cases hY1
            cases (hr1 _ rfl)
            exact fun a w' hf hh => Exists.intro x1 (And.intro rfl (Exists.intro A3 (Exists.intro c3 (Exists.intro V3 (And.intro hV3 (And.intro ((Fr.nil hf).pick hf 8 rfl) (hh.sub (.cons_cons _ List.Sublist.slnil))))))))
      ·
        rintro a w' ⟨z1, rfl, A6, c6, V4, hV4, hf, hh⟩
        try dsimp only at hF
        refine (?_ : T 121 w V4 [row 44 eChange A6 c6 z1] [(8, .slice A6 z1.length c6)] _) a w' hf hh
        clear hf hh
        refine T.seq ?_
        refine T.seq ?_
        refine T.region ?_
        refine T.pure (.slice A6 z1.length c6) (by kernel_rfl) (fun _ => by kernel_rfl) ?_
        refine T.pure (.int .i64 (z1.length : Int)) (by kernel_rfl) (fun _ => by kernel_rfl) ?_
        refine T.pure (.bool (decide ((400 : Int) < (z1.length : Int)))) (by kernel_rfl) (fun _ => by kernel_rfl) ?_
        refine T.nil ?_
        refine T.cond (decide ((400 : Int) < (z1.length : Int))) (by kernel_rfl) (by kernel_rfl) (fun hc10 => ?_) (fun hc10 => ?_)
        ·
          rw [hc10, cond_true] at hF
          refine T.seq ?_
          refine T.region ?_
          refine T.pure (.slice none 0 0) (by kernel_rfl) (fun _ => by kernel_rfl) ?_
          refine T.pure (.int .i64 2) (by kernel_rfl) (fun _ => by kernel_rfl) ?_
          refine T.nil ?_
          cases hF
          refine T.ret rfl ?_
          exact T.ret2 rfl (ResIs.tmp rfl) (ResIs.tmp rfl) fun w' hh => ⟨_, rfl, hh.below, (vT2.mk ⟨_, _, rfl, (SlOk.nil _ _)⟩ (show _ from rfl))⟩
        ·
          rw [hc10, cond_false] at hF
          refine T.skip_code ?_
          refine T.seq ?_
          refine T.region ?_
          refine T.pure (.slice A6 z1.length c6) (by kernel_rfl) (fun _ => by kernel_rfl) ?_
          refine T.pure (.slice A6 z1.length c6) (by kernel_rfl) (fun _ => by kernel_rfl) ?_
          refine T.pure (.int .i64 0) (by kernel_rfl) (fun _ => by kernel_rfl) ?_
          refine T.nil ?_
          cases hF
          refine T.ret rfl ?_
          exact T.ret2 rfl (ResIs.tmp rfl) (ResIs.tmp rfl) fun w' hh => ⟨_, rfl, hh.below, (vT2.mk ⟨_, _, rfl, (hh.row_fresh (i := 0) (by rfl) (fun _ h => h))⟩ (show _ from rfl))⟩

set_option maxRecDepth 100000 in
set_option maxHeartbeats 4000000 in
theorem change_Do_l (F : Nat) (p0 : (List DElem)) (p1 : (List DChange)) (p2 : Int) (r : ((List DElem)) × Int) (hF : change_Do F p0 p1 p2 = some r) (w : World) (A1 : Option Addr) (c1 : Nat) (hs1 : SlOk (vw w) eElem A1 c1 p0) (A2 : Option Addr) (c2 : Nat) (hs2 : SlOk (vw w) eChange A2 c2 p1) :
    Calls Try.prog 66 #[.slice A1 p0.length c1, .slice A2 p1.length c2, .int .i64 p2] w (Post (vT2 (vSc (eList eElem)) (vSc eInt)) r w) := by
  unfold change_Do at hF
  refine T.start (l := [.slice A1 p0.length c1, .slice A2 p1.length c2, .int .i64 p2]) Try.func66 rfl rfl rfl ?_
  refine T.seq ?_
  refine T.region ?_
  refine T.pure (.slice none 0 0) (by kernel_rfl) (fun _ => by kernel_rfl) ?_
  refine T.pure (.int .i64 0) (by kernel_rfl) (fun _ => by kernel_rfl) ?_
  refine T.nil ?_
  refine T.seq ?_
  refine T.seq ?_
  refine T.region ?_
  refine T.pure (.slice A1 p0.length c1) (by kernel_rfl) (fun _ => by kernel_rfl) ?_
  obtain ⟨r1, hb1, hF⟩ := Option.bind_eq_some_iff.1 hF
  refine T.step (W1.call (vSc eInt) r1 30 #[.slice A1 p0.length c1] (by kernel_rfl) (fun _ => by kernel_rfl) (fun w' hh => run_Check_l F p0 r1 hb1 w' A1 c1 (SlOk.mono hs1 hh.view)) ?_)
  intro u V1 hV1 hu
  obtain rfl := sureInt _ _ _ hu
  refine T.pure (.int .i64 r1) (by kernel_rfl) (fun _ => by kernel_rfl) ?_
  refine T.nil ?_
  refine T.seq ?_
  refine T.region ?_
  refine T.pure (.int .i64 r1) (by kernel_rfl) (fun _ => by kernel_rfl) ?_
  refine T.pure (.bool (r1 != 0)) (by kernel_rfl) (fun _ => by kernel_rfl) ?_
  refine T.nil ?_
  refine T.cond (r1 != 0) (by kernel_rfl) (by kernel_rfl) (fun hc1 => ?_) (fun hc1 => ?_)
  ·
    rw [hc1, cond_true] at hF
    refine T.seq ?_
    refine T.region ?_
    refine T.pure (.int .i64 r1) (by kernel_rfl) (fun _ => by kernel_rfl) ?_
    refine T.pure (.slice none 0 0) (by kernel_rfl) (fun _ => by kernel_rfl) ?_
    refine T.pure (.int .i64 r1) (by kernel_rfl) (fun _ => by kernel_rfl) ?_
    refine T.nil ?_
    cases hF
    refine T.ret rfl ?_
    exact T.ret2 rfl (ResIs.tmp rfl) (ResIs.tmp rfl) fun w' hh => ⟨_, rfl, hh.below, (vT2.mk ⟨_, _, rfl, (SlOk.nil _ _)⟩ (show _ from rfl))⟩
  ·
    rw [hc1, cond_false] at hF
    refine T.skip_code ?_
    refine T.seq ?_
    refine T.seq ?_
    refine T.region ?_
    refine T.pure (.slice A2 p1.length c2) (by kernel_rfl) (fun _ => by kernel_rfl) ?_
    obtain ⟨r2, hb2, hF⟩ := Option.bind_eq_some_iff.1 hF
    refine T.step (W1.call (vSc eInt) r2 76 #[.slice A2 p1.length c2] (by kernel_rfl) (fun _ => by kernel_rfl) (fun w' hh => change_Check_l F p1 r2 hb2 w' A2 c2 (SlOk.mono (SlOk.mono hs2 hV1) hh.view)) ?_)
    intro u V2 hV2 hu
    obtain rfl := sureInt _ _ _ hu
    refine T.pure (.int .i64 r2) (by kernel_rfl) (fun _ => by kernel_rfl) ?_
    refine T.nil ?_
    refine T.seq ?_
    refine T.region ?_
    refine T.pure (.int .i64 r2) (by kernel_rfl) (fun _ => by kernel_rfl) ?_
    refine T.pure (.bool (r2 != 0)) (by kernel_rfl) (fun _ => by kernel_rfl) ?_
    refine T.nil ?_
    refine T.cond (r2 != 0) (by kernel_rfl) (by kernel_rfl) (fun hc2 => ?_) (fun hc2 => ?_)
    ·
      rw [hc2, cond_true] at hF
      refine T.seq ?_
      refine T.region ?_
      refine T.pure (.int .i64 r2) (by kernel_rfl) (fun _ => by kernel_rfl) ?_
      refine T.pure (.slice none 0 0) (by kernel_rfl) (fun _ => by kernel_rfl) ?_
      refine T.pure (.int .i64 r2) (by kernel_rfl) (fun _ => by kernel_rfl) ?_
      refine T.nil ?_
      cases hF
      refine T.ret rfl ?_
      exact T.ret2 rfl (ResIs.tmp rfl) (ResIs.tmp rfl) fun w' hh => ⟨_, rfl, hh.below, (vT2.mk ⟨_, _, rfl, (SlOk.nil _ _)⟩ (show _ from rfl))⟩
    ·
      rw [hc2, cond_false] at hF
      refine T.skip_code ?_
      refine T.seq ?_
      refine T.seq ?_
      refine T.region ?_
      refine T.pure (.slice A1 p0.length c1) (by kernel_rfl) (fun _ => by kernel_rfl) ?_
      obtain ⟨r3, hb3, hF⟩ := Option.bind_eq_some_iff.1 hF
      refine T.step (W1.call (vT2 (vSc eInt) (vSc eInt)) r3 27 #[.slice A1 p0.length c1] (by kernel_rfl) (fun _ => by kernel_rfl) (fun w' hh => run_Last_l F p0 r3 hb3 w' A1 c1 (SlOk.mono (SlOk.mono hs1 (View.le_trans hV1 hV2)) hh.view)) ?_)
      intro u V3 hV3 hu
      obtain rfl := (Sure.t2 sureInt sureInt) _ _ _ hu
      refine T.pure (.tuple #[.int .i64 r3.1, .int .i64 r3.2]) (by kernel_rfl) (fun _ => by kernel_rfl) ?_
      refine T.pure (.int .i64 r3.1) (by kernel_rfl) (fun _ => by kernel_rfl) ?_
      refine T.pure (.int .i64 r3.2) (by kernel_rfl) (fun _ => by kernel_rfl) ?_
      refine T.pure (.int .i64 r3.1) (by kernel_rfl) (fun _ => by kernel_rfl) ?_
      refine T.pure (.int .i64 r3.2) (by kernel_rfl) (fun _ => by kernel_rfl) ?_
      refine T.nil ?_
      refine T.cut (fun a w' => Fr 105 [(0, .slice A1 p0.length c1), (1, .slice A2 p1.length c2), (2, .int .i64 p2), (45, .bool ((decide (p2 < 1)) || ((decide ((2147483647 : Int) < p2)) || (decide (p2 < r3.1)))))] a ∧ Hp w V3 [] w') ?_ ?_
      ·
        refine T.region ?_
        refine T.pure (.int .i64 p2) (by kernel_rfl) (fun _ => by kernel_rfl) ?_
        refine T.pure (.bool (decide (p2 < 1))) (by kernel_rfl) (fun _ => by kernel_rfl) ?_
        refine T.pure (.bool (decide (p2 < 1))) (by kernel_rfl) (fun _ => by kernel_rfl) ?_
        cases hg1 : decide (p2 < 1)
        ·
          skip
          refine T.pure (.int .i64 p2) (by kernel_rfl) (fun _ => by kernel_rfl) ?_
          refine T.pure (.bool (decide ((2147483647 : Int) < p2))) (by kernel_rfl) (fun _ => by kernel_rfl) ?_
          refine T.pure (.bool (decide ((2147483647 : Int) < p2))) (by kernel_rfl) (fun _ => by kernel_rfl) ?_
          refine T.pure (.bool (decide ((2147483647 : Int) < p2))) (by kernel_rfl) (fun _ => by kernel_rfl) ?_
          cases hg2 : decide ((2147483647 : Int) < p2)
          ·
            skip
            refine T.pure (.int .i64 p2) (by kernel_rfl) (fun _ => by kernel_rfl) ?_
            refine T.pure (.int .i64 r3.1) (by kernel_rfl) (fun _ => by kernel_rfl) ?_
            refine T.pure (.bool (decide (p2 < r3.1))) (by kernel_rfl) (fun _ => by kernel_rfl) ?_
            refine T.pure (.bool (decide (p2 < r3.1))) (by kernel_rfl) (fun _ => by kernel_rfl) ?_
            refine T.nil ?_
            exact fun a w' hf hh => And.intro (((((Fr.nil hf).pick hf 45 rfl).pick hf 2 rfl).pick hf 1 rfl).pick hf 0 rfl) (hh.sub List.Sublist.slnil)
          ·
            skip
            refine T.pass (by kernel_rfl) (by kernel_rfl) ?_
            refine T.pass (by kernel_rfl) (by kernel_rfl) ?_
            refine T.pass (by kernel_rfl) (by kernel_rfl) ?_
            refine T.pure (.bool true) (by kernel_rfl) (fun _ => by kernel_rfl) ?_
            refine T.nil ?_
            exact fun a w' hf hh => And.intro (((((Fr.nil hf).pick hf 45 rfl).pick hf 2 rfl).pick hf 1 rfl).pick hf 0 rfl) (hh.sub List.Sublist.slnil)
        ·
          skip
          refine T.pass (by kernel_rfl) (by kernel_rfl) ?_
          refine T.pass (by kernel_rfl) (by kernel_rfl) ?_
          refine T.pure (.bool true) (by kernel_rfl) (fun _ => by kernel_rfl) ?_
          refine T.pure (.bool true) (by kernel_rfl) (fun _ => by kernel_rfl) ?_
          refine T.pass (by kernel_rfl) (by kernel_rfl) ?_
          refine T.pass (by kernel_rfl) (by kernel_rfl) ?_
          refine T.pass (by kernel_rfl) (by kernel_rfl) ?_
          refine T.pure (.bool true) (by kernel_rfl) (fun _ => by kernel_rfl) ?_
          refine T.nil ?_
          exact fun a w' hf hh => And.intro (((((Fr.nil hf).pick hf 45 rfl).pick hf 2 rfl).pick hf 1 rfl).pick hf 0 rfl) (hh.sub List.Sublist.slnil)
      ·
        rintro a w' ⟨hf, hh⟩
        refine (?_ : T 105 w V3 [] [(0, .slice A1 p0.length c1), (1, .slice A2 p1.length c2), (2, .int .i64 p2), (45, .bool ((decide (p2 < 1)) || ((decide ((2147483647 : Int) < p2)) || (decide (p2 < r3.1)))))] _) a w' hf hh
        clear hf hh
        refine T.cond ((decide (p2 < 1)) || ((decide ((2147483647 : Int) < p2)) || (decide (p2 < r3.1)))) (by kernel_rfl) (by kernel_rfl) (fun hc3 => ?_) (fun hc3 => ?_)
        ·
          rw [hc3, cond_true] at hF
          refine T.seq ?_
          refine T.region ?_
          refine T.pure (.slice none 0 0) (by kernel_rfl) (fun _ => by kernel_rfl) ?_
          refine T.pure (.int .i64 9) (by kernel_rfl) (fun _ => by kernel_rfl) ?_
          refine T.nil ?_
          cases hF
          refine T.ret rfl ?_
          exact T.ret2 rfl (ResIs.tmp rfl) (ResIs.tmp rfl) fun w' hh => ⟨_, rfl, hh.below, (vT2.mk ⟨_, _, rfl, (SlOk.nil _ _)⟩ (show _ from rfl))⟩
        ·
          rw [hc3, cond_false] at hF
          refine T.skip_code ?_
          refine T.seq ?_
          refine T.seq ?_
          refine T.region ?_
          refine T.pure (.slice A2 p1.length c2) (by kernel_rfl) (fun _ => by kernel_rfl) ?_
          refine T.pure (.int .i64 (p1.length : Int)) (by kernel_rfl) (fun _ => by kernel_rfl) ?_
          refine T.pure (.int .i64 0) (by kernel_rfl) (fun _ => by kernel_rfl) ?_
          refine T.nil ?_
          obtain ⟨q1, hz1, hF⟩ := Option.bind_eq_some_iff.1 hF
          refine T.mid (fun a w' => q1 = Sum.inl () ∧ ∃ (V5 : View), View.le V3 V5 ∧ Fr 105 [(0, .slice A1 p0.length c1), (1, .slice A2 p1.length c2), (2, .int .i64 p2)] a ∧ Hp w V5 [] w') ?_ ?_
          ·
            refine T.block ?_
            refine T.iter (fun x1 a w' => ∃ (V4 : View), View.le V3 V4 ∧ Fr 105 [(0, .slice A1 p0.length c1), (1, .slice A2 p1.length c2), (2, .int .i64 p2), (46, .slice A2 p1.length c2), (47, .int .i64 (p1.length : Int)), (48, .int .i64 x1)] a ∧ Hp w V4 [] w') hz1 ?_ ?_
            ·
              exact fun a w' hf hh => Exists.intro V3 (And.intro (View.le_refl _) (And.intro (((((((Fr.nil hf).pick hf 48 rfl).pick hf 47 rfl).pick hf 46 rfl).pick hf 2 rfl).pick hf 1 rfl).pick hf 0 rfl) (hh.sub List.Sublist.slnil)))
            ·
              rintro x1 y1 hY1 hr1 a w' ⟨V4, hV4, hf, hh⟩
              refine (?_ : T 105 w V4 [] [(0, .slice A1 p0.length c1), (1, .slice A2 p1.length c2), (2, .int .i64 p2), (46, .slice A2 p1.length c2), (47, .int .i64 (p1.length : Int)), (48, .int .i64 x1)] _) a w' hf hh
              clear hf hh
              try dsimp only at hY1
              refine T.seq ?_
              refine T.region ?_
              refine T.pure (.bool (decide (x1 < (p1.length : Int)))) (by kernel_rfl) (fun _ => by kernel_rfl) ?_
              refine T.nil ?_
              refine T.seq ?_
              refine T.cond (decide (x1 < (p1.length : Int))) (by kernel_rfl) (by kernel_rfl) (fun hc4 => ?_) (fun hc4 => ?_)
              ·
                rw [hc4, cond_true] at hY1
                refine T.skip_code ?_
                refine T.seq ?_
                refine T.block ?_
                refine T.seq ?_
                refine T.region ?_
                obtain ⟨e1, hb4, hY1⟩ := Option.bind_eq_some_iff.1 hY1
                obtain ⟨hi1, hi2, hi3⟩ := idx_some hb4
                refine T.look (.pointer (some ((sadr A2).add (x1.toNat * 7)))) (by kernel_rfl) (fun w' hh => exec_indexAddr (e := 44) (s := 7) rfl rfl rfl (by kernel_rfl) (by kernel_rfl) hi1 hi2 ((SlOk.mono hs2 (View.le_trans (View.le_trans (View.le_trans hV1 hV2) hV3) hV4)).some_ hi3 (by decide))) ?_
                refine T.look (.agg #[.int .i64 e1.key.pfs, .int .i64 e1.key.obj, .int .i64 e1.key.off, .bool e1.had, .bool e1.has, .string e1.was, .string e1.is_]) (by kernel_rfl) (fun w' hh => exec_loadN (cs := [.int .i64 e1.key.pfs, .int .i64 e1.key.obj, .int .i64 e1.key.off, .bool e1.had, .bool e1.has, .string e1.was, .string e1.is_]) rfl rfl (by kernel_rfl) (by kernel_rfl) (fun j u hj => (hh.cell_view (SlOk.cellF (E := eChange) (SlOk.mono hs2 (View.le_trans (View.le_trans (View.le_trans hV1 hV2) hV3) hV4)) hi3 j (fun _ _ _ h => h) hj)))) ?_
                refine T.step (W1.new 44 [.int .i64 0, .int .i64 0, .int .i64 0, .bool false, .bool false, .string (ByteArray.mk #[]), .string (ByteArray.mk #[])] (fun b => .pointer (some ⟨b, 0, none⟩)) (by kernel_rfl) (fun _ => by kernel_rfl) (fun b1 => ?_))
                refine T.step (W1.store 0 [.int .i64 e1.key.pfs, .int .i64 e1.key.obj, .int .i64 e1.key.off, .bool e1.had, .bool e1.has, .string e1.was, .string e1.is_] [box b1 44 [.int .i64 e1.key.pfs, .int .i64 e1.key.obj, .int .i64 e1.key.off, .bool e1.had, .bool e1.has, .string e1.was, .string e1.is_]] (by rfl) rfl (by kernel_rfl) (fun w' hw => exec_store (vs := [.int .i64 e1.key.pfs, .int .i64 e1.key.obj, .int .i64 e1.key.off, .bool e1.had, .bool e1.has, .string e1.was, .string e1.is_]) rfl rfl rfl rfl (by kernel_rfl) (one_of rfl) (by simp) rfl hw) ?_)
                refine T.nil ?_
                refine T.seq ?_
                refine T.region ?_
                refine T.pure (.slice A1 p0.length c1) (by kernel_rfl) (fun _ => by kernel_rfl) ?_
                refine T.pure (.pointer (some ⟨b1, 0, none⟩)) (by kernel_rfl) (fun _ => by kernel_rfl) ?_
                refine T.look (.agg #[.int .i64 e1.key.pfs, .int .i64 e1.key.obj, .int .i64 e1.key.off]) (by kernel_rfl) (fun w' hh => exec_loadN (cs := [.int .i64 e1.key.pfs, .int .i64 e1.key.obj, .int .i64 e1.key.off]) rfl rfl (by kernel_rfl) (by kernel_rfl) (fun j u hj => (hh.box_at (i := 0) (cs := [.int .i64 e1.key.pfs, .int .i64 e1.key.obj, .int .i64 e1.key.off, .bool e1.had, .bool e1.has, .string e1.was, .string e1.is_]) (by rfl) 0 j).trans (seg_at (n := 3) rfl hj))) ?_
                obtain ⟨r4, hb5, hY1⟩ := Option.bind_eq_some_iff.1 hY1
                refine T.step (W1.call (vT2 (vAg eElem) (vSc eInt)) r4 44 #[.slice A1 p0.length c1, .agg #[.int .i64 e1.key.pfs, .int .i64 e1.key.obj, .int .i64 e1.key.off], .int .i64 2147483647] (by kernel_rfl) (fun _ => by kernel_rfl) (fun w' hh => run_At_l F p0 e1.key 2147483647 r4 hb5 w' A1 c1 (SlOk.mono (SlOk.mono hs1 (View.le_trans (View.le_trans (View.le_trans hV1 hV2) hV3) hV4)) hh.view)) ?_)
                intro u V6 hV6 hu
                obtain rfl := (Sure.t2 sureElem sureInt) _ _ _ hu
                refine T.pure (.tuple #[.agg #[.int .i64 r4.1.key.pfs, .int .i64 r4.1.key.obj, .int .i64 r4.1.key.off, .int .i64 r4.1.made, .int .i64 r4.1.gone, .string r4.1.val], .int .i64 r4.2]) (by kernel_rfl) (fun _ => by kernel_rfl) ?_
                refine T.pure (.agg #[.int .i64 r4.1.key.pfs, .int .i64 r4.1.key.obj, .int .i64 r4.1.key.off, .int .i64 r4.1.made, .int .i64 r4.1.gone, .string r4.1.val]) (by kernel_rfl) (fun _ => by kernel_rfl) ?_
                refine T.pure (.int .i64 r4.2) (by kernel_rfl) (fun _ => by kernel_rfl) ?_
                refine T.step (W1.new 26 [.int .i64 0, .int .i64 0, .int .i64 0, .int .i64 0, .int .i64 0, .string (ByteArray.mk #[])] (fun b => .pointer (some ⟨b, 0, none⟩)) (by kernel_rfl) (fun _ => by kernel_rfl) (fun b2 => ?_))
                refine T.step (W1.store 0 [.int .i64 r4.1.key.pfs, .int .i64 r4.1.key.obj, .int .i64 r4.1.key.off, .int .i64 r4.1.made, .int .i64 r4.1.gone, .string r4.1.val] [box b2 26 [.int .i64 r4.1.key.pfs, .int .i64 r4.1.key.obj, .int .i64 r4.1.key.off, .int .i64 r4.1.made, .int .i64 r4.1.gone, .string r4.1.val], box b1 44 [.int .i64 e1.key.pfs, .int .i64 e1.key.obj, .int .i64 e1.key.off, .bool e1.had, .bool e1.has, .string e1.was, .string e1.is_]] (by rfl) rfl (by kernel_rfl) (fun w' hw => exec_store (vs := [.int .i64 r4.1.key.pfs, .int .i64 r4.1.key.obj, .int .i64 r4.1.key.off, .int .i64 r4.1.made, .int .i64 r4.1.gone, .string r4.1.val]) rfl rfl rfl rfl (by kernel_rfl) (one_of rfl) (by simp) rfl hw) ?_)
                refine T.pure (.int .i64 r4.2) (by kernel_rfl) (fun _ => by kernel_rfl) ?_
                refine T.nil ?_
                refine T.cut (fun a w' => Fr 105 [(0, .slice A1 p0.length c1), (1, .slice A2 p1.length c2), (2, .int .i64 p2), (46, .slice A2 p1.length c2), (47, .int .i64 (p1.length : Int)), (48, .int .i64 x1), (70, .bool ((!((r4.2 == 0) == e1.had)) || (!(seq r4.1.val e1.was))))] a ∧ Hp w V6 [box b2 26 [.int .i64 r4.1.key.pfs, .int .i64 r4.1.key.obj, .int .i64 r4.1.key.off, .int .i64 r4.1.made, .int .i64 r4.1.gone, .string r4.1.val], box b1 44 [.int .i64 e1.key.pfs, .int .i64 e1.key.obj, .int .i64 e1.key.off, .bool e1.had, .bool e1.has, .string e1.was, .string e1.is_]] w') ?_ ?_
                ·
                  refine T.region ?_
                  refine T.pure (.int .i64 r4.2) (by kernel_rfl) (fun _ => by kernel_rfl) ?_
                  refine T.pure (.bool (r4.2 == 0)) (by kernel_rfl) (fun _ => by kernel_rfl) ?_
                  refine T.pure (.pointer (some ⟨b1, 3, none⟩)) (by kernel_rfl) (fun _ => by kernel_rfl) ?_
                  refine T.look (.bool e1.had) (by kernel_rfl) (fun w' hh => exec_load1 rfl rfl (by kernel_rfl) (hh.cellBox (i := 1) (by rfl) 3)) ?_
                  refine T.pure (.bool (!((r4.2 == 0) == e1.had))) (by kernel_rfl) (fun _ => by kernel_rfl) ?_
                  refine T.pure (.bool (!((r4.2 == 0) == e1.had))) (by kernel_rfl) (fun _ => by kernel_rfl) ?_
                  cases hg3 : (!((r4.2 == 0) == e1.had))
                  ·
                    skip
                    refine T.pure (.pointer (some ⟨b2, 5, none⟩)) (by kernel_rfl) (fun _ => by kernel_rfl) ?_
                    refine T.look (.string r4.1.val) (by kernel_rfl) (fun w' hh => exec_load1 rfl rfl (by kernel_rfl) (hh.cellBox (i := 0) (by rfl) 5)) ?_
                    refine T.pure (.pointer (some ⟨b1, 5, none⟩)) (by kernel_rfl) (fun _ => by kernel_rfl) ?_
                    refine T.look (.string e1.was) (by kernel_rfl) (fun w' hh => exec_load1 rfl rfl (by kernel_rfl) (hh.cellBox (i := 1) (by rfl) 5)) ?_
                    refine T.pure (.bool (!(seq r4.1.val e1.was))) (by kernel_rfl) (fun _ => by kernel_rfl) ?_
                    refine T.pure (.bool (!(seq r4.1.val e1.was))) (by kernel_rfl) (fun _ => by kernel_rfl) ?_
                    refine T.nil ?_
                    exact fun a w' hf hh => And.intro ((((((((Fr.nil hf).pick hf 70 rfl).pick hf 48 rfl).pick hf 47 rfl).pick hf 46 rfl).pick hf 2 rfl).pick hf 1 rfl).pick hf 0 rfl) (hh.sub (.cons_cons _ (.cons_cons _ List.Sublist.slnil)))
                  ·
                    skip
                    refine T.pass (by kernel_rfl) (by kernel_rfl) ?_
                    refine T.pass (by kernel_rfl) (by kernel_rfl) ?_
                    refine T.pass (by kernel_rfl) (by kernel_rfl) ?_
                    refine T.pass (by kernel_rfl) (by kernel_rfl) ?_
                    refine T.pass (by kernel_rfl) (by kernel_rfl) ?_
                    refine T.pure (.bool true) (by kernel_rfl) (fun _ => by kernel_rfl) ?_
                    refine T.nil ?_
                    exact fun a w' hf hh => And.intro ((((((((Fr.nil hf).pick hf 70 rfl).pick hf 48 rfl).pick hf 47 rfl).pick hf 46 rfl).pick hf 2 rfl).pick hf 1 rfl).pick hf 0 rfl) (hh.sub (.cons_cons _ (.cons_cons _ List.Sublist.slnil)))
                ·
                  rintro a w' ⟨hf, hh⟩
                  refine (?_ : T 105 w V6 [box b2 26 [.int .i64 r4.1.key.pfs, .int .i64 r4.1.key.obj, .int .i64 r4.1.key.off, .int .i64 r4.1.made, .int .i64 r4.1.gone, .string r4.1.val], box b1 44 [.int .i64 e1.key.pfs, .int .i64 e1.key.obj, .int .i64 e1.key.off, .bool e1.had, .bool e1.has, .string e1.was, .string e1.is_]] [(0, .slice A1 p0.length c1), (1, .slice A2 p1.length c2), (2, .int .i64 p2), (46, .slice A2 p1.length c2), (47, .int .i64 (p1.length : Int)), (48, .int .i64 x1), (70, .bool ((!((r4.2 == 0) == e1.had)) || (!(seq r4.1.val e1.was))))] _) a w' hf hh
                  clear hf hh
                  refine T.cond ((!((r4.2 == 0) == e1.had)) || (!(seq r4.1.val e1.was))) (by kernel_rfl) (by kernel_rfl) (fun hc5 => ?_) (fun hc5 => ?_)
                  ·
                    rw [hc5, cond_true] at hY1
                    refine T.seq ?_
                    refine T.region ?_
                    refine T.pure (.slice none 0 0) (by kernel_rfl) (fun _ => by kernel_rfl) ?_
                    refine T.pure (.int .i64 1) (by kernel_rfl) (fun _ => by kernel_rfl) ?_
                    refine T.nil ?_
                    cases hY1
                    cases (hr1 _ rfl)
                    try dsimp only at hF
                    cases hF
                    refine T.ret rfl ?_
                    exact T.ret2 rfl (ResIs.tmp rfl) (ResIs.tmp rfl) fun w' hh => ⟨_, rfl, hh.below, (vT2.mk ⟨_, _, rfl, (SlOk.nil _ _)⟩ (show _ from rfl))⟩
                  ·
                    rw [hc5, cond_false] at hY1
                    refine T.skip_code ?_
                    refine T.region ?_
                    refine T.pure (.int .i64 (IntKind.i64.wrap (x1 + 1))) (by kernel_rfl) (fun _ => by kernel_rfl) ?_
                    refine T.pure (.int .i64 (IntKind.i64.wrap (x1 + 1))) (by kernel_rfl) (fun _ => by kernel_rfl) ?_
                    refine T.nil ?_
                    cases hY1
                    exact fun a w' hf hh => Exists.intro (IntKind.i64.wrap (x1 + 1)) (And.intro rfl (Exists.intro V6 (And.intro (View.le_trans hV4 hV6) (And.intro (((((((Fr.nil hf).pick hf 48 rfl).pick hf 47 rfl).pick hf 46 rfl).pick hf 2 rfl).pick hf 1 rfl).pick hf 0 rfl) (hh.sub (.cons _ (.cons _ List.Sublist.slnil)))))))
              ·
                rw [hc4, cond_false] at hY1
                refine T.exit ?_
                cases hY1
                cases (hr1 _ rfl)
                exact fun a w' hf hh => And.intro rfl (Exists.intro V4 (And.intro hV4 (And.intro ((((Fr.nil hf).pick hf 2 rfl).pick hf 1 rfl).pick hf 0 rfl) (hh.sub List.Sublist.slnil))))
          ·
            rintro a w' ⟨rfl, V5, hV5, hf, hh⟩
            try dsimp only at hF
            refine (?_ : T 105 w V5 [] [(0, .slice A1 p0.length c1), (1, .slice A2 p1.length c2), (2, .int .i64 p2)] _) a w' hf hh
            clear hf hh
            refine T.seq ?_
            refine T.region ?_
            refine T.pure (.slice A1 p0.length c1) (by kernel_rfl) (fun _ => by kernel_rfl) ?_
            refine T.rownil 26 eElem ?_
            obtain ⟨y2, hb6, hF⟩ := Option.bind_eq_some_iff.1 hF
            obtain ⟨hb6_r, hb6_m, rfl⟩ := grow_some hb6
            obtain ⟨ti, hti, hz1, hz2, hz3⟩ := info_parts (P := Try.prog) (e := 26) (z := .agg #[.int .i64 0, .int .i64 0, .int .i64 0, .int .i64 0, .int .i64 0, .string (ByteArray.mk #[])]) (size := 6) (bytes := 56) (by kernel_rfl)
            refine T.step (W1.append (E := eElem) (l := ([] : List DElem)) (m := p0) 0 _ _ 56 ti _ (by rfl) (by kernel_rfl) rfl (by kernel_rfl) hti hz1 hz2 hz3 rfl (by decide) rfl rfl (fun w' hh => (SlOk.srcF (SlOk.mono (SlOk.mono hs1 (View.le_trans (View.le_trans (View.le_trans hV1 hV2) hV3) hV5)) hh.view) (fun _ _ _ _ h => h))) hb6_r hb6_m (fun A3 c3 => ?_))
            refine T.pure (.slice A3 ((([] : List DElem) ++ p0).length) c3) (by kernel_rfl) (fun _ => by kernel_rfl) ?_
            refine T.nil ?_
            refine T.seq ?_
            refine T.seq ?_
            refine T.region ?_
            refine T.pure (.slice A2 p1.length c2) (by kernel_rfl) (fun _ => by kernel_rfl) ?_
            refine T.pure (.int .i64 (p1.length : Int)) (by kernel_rfl) (fun _ => by kernel_rfl) ?_
            refine T.pure (.int .i64 0) (by kernel_rfl) (fun _ => by kernel_rfl) ?_
            refine T.nil ?_
            refine T.freezeF (E := eElem) (H' := []) 0 (by rfl) rfl (fun _ _ _ _ h => h) (fun V7 hV7 hs3 => ?_)
            obtain ⟨q2, hz2, hF⟩ := Option.bind_eq_some_iff.1 hF
            refine T.mid (fun a w' => ∃ (z1 : List DElem), q2 = Sum.inl z1 ∧ ∃ (A5 : Option Addr) (c5 : Nat) (V9 : View), View.le V7 V9 ∧ SlOk (made w V9) eElem A5 c5 z1 ∧ Fr 105 [(16, .slice A5 z1.length c5)] a ∧ Hp w V9 [] w') ?_ ?_
            ·
              refine T.block ?_
              refine T.iter (fun s1 a w' => ∃ (x2 : List DElem) (x3 : Int), s1 = (x2, x3) ∧ ∃ (A4 : Option Addr) (c4 : Nat) (V8 : View), View.le V7 V8 ∧ SlOk (made w V8) eElem A4 c4 x2 ∧ Fr 105 [(2, .int .i64 p2), (16, .slice A4 x2.length c4), (74, .slice A2 p1.length c2), (75, .int .i64 (p1.length : Int)), (76, .int .i64 x3)] a ∧ Hp w V8 [] w') hz2 ?_ ?_
              ·
                exact fun a w' hf hh => Exists.intro (([] : List DElem) ++ p0) (Exists.intro 0 (And.intro rfl (Exists.intro A3 (Exists.intro c3 (Exists.intro V7 (And.intro (View.le_refl _) (And.intro (SlOk.mono hs3 (made_mono (View.le_refl _))) (And.intro ((((((Fr.nil hf).pick hf 76 rfl).pick hf 75 rfl).pick hf 74 rfl).pick hf 16 rfl).pick hf 2 rfl) (hh.sub List.Sublist.slnil)))))))))
              ·
                rintro s1 y3 hY2 hr2 a w' ⟨x2, x3, rfl, A4, c4, V8, hV8, hs4, hf, hh⟩
                refine (?_ : T 105 w V8 [] [(2, .int .i64 p2), (16, .slice A4 x2.length c4), (74, .slice A2 p1.length c2), (75, .int .i64 (p1.length : Int)), (76, .int .i64 x3)] _) a w' hf hh
                clear hf hh
                try dsimp only at hY2
                refine T.seq ?_
                refine T.region ?_
                refine T.pure (.bool (decide (x3 < (p1.length : Int)))) (by kernel_rfl) (fun _ => by kernel_rfl) ?_
                refine T.nil ?_
                refine T.seq ?_
                refine T.cond (decide (x3 < (p1.length : Int))) (by kernel_rfl) (by kernel_rfl) (fun hc6 => ?_) (fun hc6 => ?_)
                ·
                  rw [hc6, cond_true] at hY2
                  refine T.skip_code ?_
                  refine T.seq ?_
                  refine T.block ?_
                  refine T.seq ?_
                  refine T.region ?_
                  obtain ⟨e2, hb7, hY2⟩ := Option.bind_eq_some_iff.1 hY2
                  obtain ⟨hi4, hi5, hi6⟩ := idx_some hb7
                  refine T.look (.pointer (some ((sadr A2).add (x3.toNat * 7)))) (by kernel_rfl) (fun w' hh => exec_indexAddr (e := 44) (s := 7) rfl rfl rfl (by kernel_rfl) (by kernel_rfl) hi4 hi5 ((SlOk.mono hs2 (View.le_trans (View.le_trans (View.le_trans (View.le_trans (View.le_trans hV1 hV2) hV3) hV5) hV7) hV8)).some_ hi6 (by decide))) ?_
                  refine T.look (.agg #[.int .i64 e2.key.pfs, .int .i64 e2.key.obj, .int .i64 e2.key.off, .bool e2.had, .bool e2.has, .string e2.was, .string e2.is_]) (by kernel_rfl) (fun w' hh => exec_loadN (cs := [.int .i64 e2.key.pfs, .int .i64 e2.key.obj, .int .i64 e2.key.off, .bool e2.had, .bool e2.has, .string e2.was, .string e2.is_]) rfl rfl (by kernel_rfl) (by kernel_rfl) (fun j u hj => (hh.cell_view (SlOk.cellF (E := eChange) (SlOk.mono hs2 (View.le_trans (View.le_trans (View.le_trans (View.le_trans (View.le_trans hV1 hV2) hV3) hV5) hV7) hV8)) hi6 j (fun _ _ _ h => h) hj)))) ?_
                  refine T.step (W1.new 44 [.int .i64 0, .int .i64 0, .int .i64 0, .bool false, .bool false, .string (ByteArray.mk #[]), .string (ByteArray.mk #[])] (fun b => .pointer (some ⟨b, 0, none⟩)) (by kernel_rfl) (fun _ => by kernel_rfl) (fun b3 => ?_))
                  refine T.step (W1.store 0 [.int .i64 e2.key.pfs, .int .i64 e2.key.obj, .int .i64 e2.key.off, .bool e2.had, .bool e2.has, .string e2.was, .string e2.is_] [box b3 44 [.int .i64 e2.key.pfs, .int .i64 e2.key.obj, .int .i64 e2.key.off, .bool e2.had, .bool e2.has, .string e2.was, .string e2.is_]] (by rfl) rfl (by kernel_rfl) (fun w' hw => exec_store (vs := [.int .i64 e2.key.pfs, .int .i64 e2.key.obj, .int .i64 e2.key.off, .bool e2.had, .bool e2.has, .string e2.was, .string e2.is_]) rfl rfl rfl rfl (by kernel_rfl) (one_of rfl) (by simp) rfl hw) ?_)
                  refine T.nil ?_
                  refine T.seq ?_
                  refine T.region ?_
                  refine T.pure (.int .i64 0) (by kernel_rfl) (fun _ => by kernel_rfl) ?_
                  refine T.nil ?_
                  obtain ⟨q3, hX1, hY2⟩ := Option.bind_eq_some_iff.1 hY2
                  refine T.cut (fun a w' => ∃ (z2 : List DElem) (z3 : Int), q3 = (z2, z3) ∧ ∃ (A6 : Option Addr) (c6 : Nat) (V10 : View), View.le V8 V10 ∧ SlOk (made w V10) eElem A6 c6 z2 ∧ Fr 105 [(2, .int .i64 p2), (16, .slice A6 z2.length c6), (19, .int .i64 z3), (74, .slice A2 p1.length c2), (75, .int .i64 (p1.length : Int)), (76, .int .i64 x3)] a ∧ Hp w V10 [] w') ?_ ?_
                  ·
                    refine T.seq ?_
                    refine T.region ?_
                    refine T.pure (.pointer (some ⟨b3, 4, none⟩)) (by kernel_rfl) (fun _ => by kernel_rfl) ?_
                    refine T.look (.bool e2.has) (by kernel_rfl) (fun w' hh => exec_load1 rfl rfl (by kernel_rfl) (hh.cellBox (i := 0) (by rfl) 4)) ?_
                    refine T.nil ?_
                    refine T.cond e2.has (by kernel_rfl) (by kernel_rfl) (fun hc7 => ?_) (fun hc7 => ?_)
                    ·
                      rw [hc7, cond_true] at hX1
                      refine T.region ?_
                      refine T.pure (.slice A4 x2.length c4) (by kernel_rfl) (fun _ => by kernel_rfl) ?_
                      refine T.pure (.pointer (some ⟨b3, 0, none⟩)) (by kernel_rfl) (fun _ => by kernel_rfl) ?_
                      refine T.look (.agg #[.int .i64 e2.key.pfs, .int .i64 e2.key.obj, .int .i64 e2.key.off]) (by kernel_rfl) (fun w' hh => exec_loadN (cs := [.int .i64 e2.key.pfs, .int .i64 e2.key.obj, .int .i64 e2.key.off]) rfl rfl (by kernel_rfl) (by kernel_rfl) (fun j u hj => (hh.box_at (i := 0) (cs := [.int .i64 e2.key.pfs, .int .i64 e2.key.obj, .int .i64 e2.key.off, .bool e2.had, .bool e2.has, .string e2.was, .string e2.is_]) (by rfl) 0 j).trans (seg_at (n := 3) rfl hj))) ?_
                      refine T.pure (.pointer (some ⟨b3, 6, none⟩)) (by kernel_rfl) (fun _ => by kernel_rfl) ?_
                      refine T.look (.string e2.is_) (by kernel_rfl) (fun w' hh => exec_load1 rfl rfl (by kernel_rfl) (hh.cellBox (i := 0) (by rfl) 6)) ?_
                      refine T.pure (.int .i64 p2) (by kernel_rfl) (fun _ => by kernel_rfl) ?_
                      obtain ⟨r6, hb8, hX1⟩ := Option.bind_eq_some_iff.1 hX1
                      refine T.step (W1.call (vT2 (vSc (eList eElem)) (vSc eInt)) r6 48 #[.slice A4 x2.length c4, .agg #[.int .i64 e2.key.pfs, .int .i64 e2.key.obj, .int .i64 e2.key.off], .string e2.is_, .int .i64 p2] (by kernel_rfl) (fun _ => by kernel_rfl) (fun w' hh => run_Put_l F x2 e2.key e2.is_ p2 r6 hb8 w' A4 c4 (SlOk.mono (SlOk.mono hs4 (View.le_trans (made_le _ _) (View.le_refl _))) hh.view)) ?_)
                      intro u V11 hV11 hu
                      obtain ⟨u1, u2, rfl, hu1, hu2⟩ := vT2_elim hu
                      obtain ⟨A7, c7, rfl, hs7⟩ := vlist_elim hu1
                      obtain rfl := sureInt _ _ _ hu2
                      refine T.pure (.tuple #[.slice A7 r6.1.length c7, .int .i64 r6.2]) (by kernel_rfl) (fun _ => by kernel_rfl) ?_
                      refine T.pure (.slice A7 r6.1.length c7) (by kernel_rfl) (fun _ => by kernel_rfl) ?_
                      refine T.pure (.int .i64 r6.2) (by kernel_rfl) (fun _ => by kernel_rfl) ?_
                      refine T.pure (.slice A7 r6.1.length c7) (by kernel_rfl) (fun _ => by kernel_rfl) ?_
                      refine T.pure (.int .i64 r6.2) (by kernel_rfl) (fun _ => by kernel_rfl) ?_
                      refine T.nil ?_
                      cases hX1
                      exact fun a w' hf hh => Exists.intro r6.1 (Exists.intro r6.2 (And.intro rfl (Exists.intro A7 (Exists.intro c7 (Exists.intro V11 (And.intro hV11 (And.intro (SlOk.mono hs7 (made_mono (View.le_refl _))) (And.intro (((((((Fr.nil hf).pick hf 76 rfl).pick hf 75 rfl).pick hf 74 rfl).pick hf 19 rfl).pick hf 16 rfl).pick hf 2 rfl) (hh.sub (.cons _ List.Sublist.slnil))))))))))
                    ·
                      rw [hc7, cond_false] at hX1
                      refine T.region ?_
                      refine T.pure (.slice A4 x2.length c4) (by kernel_rfl) (fun _ => by kernel_rfl) ?_
                      refine T.pure (.pointer (some ⟨b3, 0, none⟩)) (by kernel_rfl) (fun _ => by kernel_rfl) ?_
                      refine T.look (.agg #[.int .i64 e2.key.pfs, .int .i64 e2.key.obj, .int .i64 e2.key.off]) (by kernel_rfl) (fun w' hh => exec_loadN (cs := [.int .i64 e2.key.pfs, .int .i64 e2.key.obj, .int .i64 e2.key.off]) rfl rfl (by kernel_rfl) (by kernel_rfl) (fun j u hj => (hh.box_at (i := 0) (cs := [.int .i64 e2.key.pfs, .int .i64 e2.key.obj, .int .i64 e2.key.off, .bool e2.had, .bool e2.has, .string e2.was, .string e2.is_]) (by rfl) 0 j).trans (seg_at (n := 3) rfl hj))) ?_
                      refine T.pure (.int .i64 p2) (by kernel_rfl) (fun _ => by kernel_rfl) ?_
                      obtain ⟨r7, hb9, hX1⟩ := Option.bind_eq_some_iff.1 hX1
                      refine T.step (W1.call (vT2 (vSc (eList eElem)) (vSc eInt)) r7 50 #[.slice A4 x2.length c4, .agg #[.int .i64 e2.key.pfs, .int .i64 e2.key.obj, .int .i64 e2.key.off], .int .i64 p2] (by kernel_rfl) (fun _ => by kernel_rfl) (fun w' hh => run_Cut_l F x2 e2.key p2 r7 hb9 w' A4 c4 (SlOk.mono (SlOk.mono hs4 (View.le_trans (made_le _ _) (View.le_refl _))) hh.view)) ?_)
                      intro u V12 hV12 hu
                      obtain ⟨u3, u4, rfl, hu3, hu4⟩ := vT2_elim hu
                      obtain ⟨A8, c8, rfl, hs8⟩ := vlist_elim hu3
                      obtain rfl := sureInt _ _ _ hu4
                      refine T.pure (.tuple #[.slice A8 r7.1.length c8, .int .i64 r7.2]) (by kernel_rfl) (fun _ => by kernel_rfl) ?_
                      refine T.pure (.slice A8 r7.1.length c8) (by kernel_rfl) (fun _ => by kernel_rfl) ?_
                      refine T.pure (.int .i64 r7.2) (by kernel_rfl) (fun _ => by kernel_rfl) ?_
                      refine T.pure (.slice A8 r7.1.length c8) (by kernel_rfl) (fun _ => by kernel_rfl) ?_
                      refine T.pure (.int .i64 r7.2) (by kernel_rfl) (fun _ => by kernel_rfl) ?_
                      refine T.nil ?_
                      cases hX1
                      exact fun a w' hf hh => Exists.intro r7.1 (Exists.intro r7.2 (And.intro rfl (Exists.intro A8 (Exists.intro c8 (Exists.intro V12 (And.intro hV12 (And.intro (SlOk.mono hs8 (made_mono (View.le_refl _))) (And.intro (((((((Fr.nil hf).pick hf 76 rfl).pick hf 75 rfl).pick hf 74 rfl).pick hf 19 rfl).pick hf 16 rfl).pick hf 2 rfl) (hh.sub (.cons _ List.Sublist.slnil))))))))))
                  ·
                    rintro a w' ⟨z2, z3, rfl, A6, c6, V10, hV10, hs6, hf, hh⟩
                    try dsimp only at hY2
                    refine (?_ : T 105 w V10 [] [(2, .int .i64 p2), (16, .slice A6 z2.length c6), (19, .int .i64 z3), (74, .slice A2 p1.length c2), (75, .int .i64 (p1.length : Int)), (76, .int .i64 x3)] _) a w' hf hh
                    clear hf hh
                    refine T.seq ?_
                    refine T.region ?_
                    refine T.pure (.int .i64 z3) (by kernel_rfl) (fun _ => by kernel_rfl) ?_
                    refine T.pure (.bool (z3 != 0)) (by kernel_rfl) (fun _ => by kernel_rfl) ?_
                    refine T.nil ?_
                    refine T.cond (z3 != 0) (by kernel_rfl) (by kernel_rfl) (fun hc8 => ?_) (fun hc8 => ?_)
                    ·
                      rw [hc8, cond_true] at hY2
                      refine T.seq ?_
                      refine T.region ?_
                      refine T.pure (.int .i64 z3) (by kernel_rfl) (fun _ => by kernel_rfl) ?_
                      refine T.pure (.slice none 0 0) (by kernel_rfl) (fun _ => by kernel_rfl) ?_
                      refine T.pure (.int .i64 z3) (by kernel_rfl) (fun _ => by kernel_rfl) ?_
                      refine T.nil ?_
                      cases hY2
                      cases (hr2 _ rfl)
                      try dsimp only at hF
                      cases hF
                      refine T.ret rfl ?_
                      exact T.ret2 rfl (ResIs.tmp rfl) (ResIs.tmp rfl) fun w' hh => ⟨_, rfl, hh.below, (vT2.mk ⟨_, _, rfl, (SlOk.nil _ _)⟩ (show _ from rfl))⟩
                    ·
                      rw [hc8, cond_false] at hY2
                      refine T.skip_code ?_
                      refine T.region ?_
                      refine T.pure (.int .i64 (IntKind.i64.wrap (x3 + 1))) (by kernel_rfl) (fun _ => by kernel_rfl) ?_
                      refine T.pure (.int .i64 (IntKind.i64.wrap (x3 + 1))) (by kernel_rfl) (fun _ => by kernel_rfl) ?_
                      refine T.nil ?_
                      cases hY2
                      exact fun a w' hf hh => Exists.intro (z2, IntKind.i64.wrap (x3 + 1)) (And.intro rfl (Exists.intro z2 (Exists.intro (IntKind.i64.wrap (x3 + 1)) (And.intro rfl (Exists.intro A6 (Exists.intro c6 (Exists.intro V10 (And.intro (View.le_trans hV8 hV10) (And.intro (SlOk.mono hs6 (made_mono (View.le_refl _))) (And.intro ((((((Fr.nil hf).pick hf 76 rfl).pick hf 75 rfl).pick hf 74 rfl).pick hf 16 rfl).pick hf 2 rfl) (hh.sub List.Sublist.slnil)))))))))))
                ·
                  rw [hc6, cond_false] at hY2
                  refine T.exit ?_
                  cases hY2
                  cases (hr2 _ rfl)
                  exact fun a w' hf hh => Exists.intro x2 (And.intro rfl (Exists.intro A4 (Exists.intro c4 (Exists.intro V8 (And.intro hV8 (And.intro (SlOk.mono hs4 (made_mono (View.le_refl _))) (And.intro ((Fr.nil hf).pick hf 16 rfl) (hh.sub List.Sublist.slnil))))))))
            ·
              rintro a w' ⟨z1, rfl, A5, c5, V9, hV9, hs5, hf, hh⟩
              try dsimp only at hF
              refine (?_ : T 105 w V9 [] [(16, .slice A5 z1.length c5)] _) a w' hf hh
              clear hf hh
              refine T.seq ?_
              refine T.region ?_
              refine T.pure (.slice A5 z1.length c5) (by kernel_rfl) (fun _ => by kernel_rfl) ?_
              refine T.pure (.slice A5 z1.length c5) (by kernel_rfl) (fun _ => by kernel_rfl) ?_
              refine T.pure (.int .i64 0) (by kernel_rfl) (fun _ => by kernel_rfl) ?_
              refine T.nil ?_
              cases hF
              refine T.ret rfl ?_
              exact T.ret2 rfl (ResIs.tmp rfl) (ResIs.tmp rfl) fun w' hh => ⟨_, rfl, hh.below, (vT2.mk ⟨_, _, rfl, (SlOk.mono hs5 (View.le_trans (made_mono (View.le_refl _)) (made_fresh hh)))⟩ (show _ from rfl))⟩

end Go.Proofs.Ytiaoncjkfgebdaa
