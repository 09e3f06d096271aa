/- The Go functions of group Step compute the pure functions of that group: written by walkgen.py. Condition of each: the pure function yields a result. -/
import Derived.Test.YtomgholekojenaaUndoL
import Derived.Test.YtomgholekojenaaStepF
import Derived.Test.YtomgholekojenaaEqL
namespace Go.Proofs.Ytomgholekojenaa
set_option linter.unusedVariables false

set_option maxRecDepth 100000 in
set_option maxHeartbeats 4000000 in
theorem undo_fit_l (F : Nat) (p0 : ByteArray) (p1 : (List DWrite)) (r : Int) (hF : undo_fit F p0 p1 = some r) (w : World) (A1 : Option Addr) (c1 : Nat) (hs1 : SlOk (vw w) eWrite A1 c1 p1) :
    Calls Try.prog 50 #[.string p0, .slice A1 p1.length c1] w (Post (vSc eInt) r w) := by
  unfold undo_fit at hF
  refine T.start (l := [.string p0, .slice A1 p1.length c1]) Try.func50 rfl rfl rfl ?_
  refine T.seq ?_
  refine T.region ?_
  refine T.pure (.int .i64 0) (by kernel_rfl) (fun _ => by kernel_rfl) ?_
  refine T.nil ?_
  refine T.seq ?_
  refine T.cut (fun a w' => Fr 42 [(1, .slice A1 p1.length c1), (15, .bool ((decide ((2900 : Int) < (p0.size : Int))) || (decide ((100 : Int) < (p1.length : Int)))))] a ∧ Hp w (vw w) [] w') ?_ ?_
  ·
    refine T.region ?_
    refine T.pure (.string p0) (by kernel_rfl) (fun _ => by kernel_rfl) ?_
    refine T.pure (.int .i64 (p0.size : Int)) (by kernel_rfl) (fun _ => by kernel_rfl) ?_
    refine T.pure (.bool (decide ((2900 : Int) < (p0.size : Int)))) (by kernel_rfl) (fun _ => by kernel_rfl) ?_
    refine T.pure (.bool (decide ((2900 : Int) < (p0.size : Int)))) (by kernel_rfl) (fun _ => by kernel_rfl) ?_
    cases hg1 : decide ((2900 : Int) < (p0.size : Int))
    ·
      skip
      refine T.pure (.slice A1 p1.length c1) (by kernel_rfl) (fun _ => by kernel_rfl) ?_
      refine T.pure (.int .i64 (p1.length : Int)) (by kernel_rfl) (fun _ => by kernel_rfl) ?_
      refine T.pure (.bool (decide ((100 : Int) < (p1.length : Int)))) (by kernel_rfl) (fun _ => by kernel_rfl) ?_
      refine T.pure (.bool (decide ((100 : Int) < (p1.length : Int)))) (by kernel_rfl) (fun _ => by kernel_rfl) ?_
      refine T.nil ?_
      exact fun a w' hf hh => And.intro (((Fr.nil hf).pick hf 15 rfl).pick hf 1 rfl) (hh.sub List.Sublist.slnil)
    ·
      skip
      refine T.pass (by kernel_rfl) (by kernel_rfl) ?_
      refine T.pass (by kernel_rfl) (by kernel_rfl) ?_
      refine T.pass (by kernel_rfl) (by kernel_rfl) ?_
      refine T.pure (.bool true) (by kernel_rfl) (fun _ => by kernel_rfl) ?_
      refine T.nil ?_
      exact fun a w' hf hh => And.intro (((Fr.nil hf).pick hf 15 rfl).pick hf 1 rfl) (hh.sub List.Sublist.slnil)
  ·
    rintro a w' ⟨hf, hh⟩
    refine (?_ : T 42 w (vw w) [] [(1, .slice A1 p1.length c1), (15, .bool ((decide ((2900 : Int) < (p0.size : Int))) || (decide ((100 : Int) < (p1.length : Int)))))] _) a w' hf hh
    clear hf hh
    refine T.cond ((decide ((2900 : Int) < (p0.size : Int))) || (decide ((100 : Int) < (p1.length : Int)))) (by kernel_rfl) (by kernel_rfl) (fun hc1 => ?_) (fun hc1 => ?_)
    ·
      rw [hc1, cond_true] at hF
      refine T.seq ?_
      refine T.region ?_
      refine T.pure (.int .i64 2) (by kernel_rfl) (fun _ => by kernel_rfl) ?_
      refine T.nil ?_
      cases hF
      refine T.ret rfl ?_
      exact T.ret1 rfl (ResIs.tmp rfl) fun w' hh => ⟨_, rfl, hh.below, (show _ from rfl)⟩
    ·
      rw [hc1, cond_false] at hF
      refine T.skip_code ?_
      refine T.seq ?_
      refine T.region ?_
      refine T.step (W1.new 133 (List.replicate 201 (.bool false)) (fun b => .pointer (some ⟨b, 0, none⟩)) (by kernel_rfl) (fun _ => by kernel_rfl) (fun b1 => ?_))
      refine T.boxrow (E := eBool) (x := false) (fun _ => rfl) rfl (by decide) (by decide) ?_
      refine T.nil ?_
      refine T.seq ?_
      refine T.seq ?_
      refine T.region ?_
      refine T.pure (.slice A1 p1.length c1) (by kernel_rfl) (fun _ => by kernel_rfl) ?_
      refine T.pure (.int .i64 (p1.length : Int)) (by kernel_rfl) (fun _ => by kernel_rfl) ?_
      refine T.pure (.int .i64 0) (by kernel_rfl) (fun _ => by kernel_rfl) ?_
      refine T.nil ?_
      obtain ⟨q1, hz1, hF⟩ := Option.bind_eq_some_iff.1 hF
      refine T.mid (fun a w' => q1 = Sum.inl () ∧ Fr 42 [] a ∧ Hp w (vw w) [] w') ?_ ?_
      ·
        refine T.block ?_
        refine T.iter (fun s1 a w' => ∃ (x1 : List Bool) (x2 : Int), s1 = (x1, x2) ∧ Fr 42 [(5, .pointer (some ⟨b1, 0, none⟩)), (16, .slice A1 p1.length c1), (17, .int .i64 (p1.length : Int)), (18, .int .i64 x2)] a ∧ Hp w (vw w) [row 133 eBool (some ⟨b1, 0, none⟩) 201 x1] w') hz1 ?_ ?_
        ·
          exact fun a w' hf hh => Exists.intro (List.replicate 201 false) (Exists.intro 0 (And.intro rfl (And.intro (((((Fr.nil hf).pick hf 18 rfl).pick hf 17 rfl).pick hf 16 rfl).pick hf 5 rfl) (hh.sub (.cons_cons _ List.Sublist.slnil)))))
        ·
          rintro s1 y1 hY1 hr1 a w' ⟨x1, x2, rfl, hf, hh⟩
          refine (?_ : T 42 w (vw w) [row 133 eBool (some ⟨b1, 0, none⟩) 201 x1] [(5, .pointer (some ⟨b1, 0, none⟩)), (16, .slice A1 p1.length c1), (17, .int .i64 (p1.length : Int)), (18, .int .i64 x2)] _) a w' hf hh
          clear hf hh
          try dsimp only at hY1
          refine T.seq ?_
          refine T.region ?_
          refine T.pure (.bool (decide (x2 < (p1.length : Int)))) (by kernel_rfl) (fun _ => by kernel_rfl) ?_
          refine T.nil ?_
          refine T.seq ?_
          refine T.cond (decide (x2 < (p1.length : Int))) (by kernel_rfl) (by kernel_rfl) (fun hc2 => ?_) (fun hc2 => ?_)
          ·
            rw [hc2, cond_true] at hY1
            refine T.skip_code ?_
            refine T.seq ?_
            refine T.block ?_
            refine T.seq ?_
            refine T.region ?_
            obtain ⟨e1, hb1, hY1⟩ := Option.bind_eq_some_iff.1 hY1
            obtain ⟨hi1, hi2, hi3⟩ := idx_some hb1
            refine T.look (.pointer (some ((sadr A1).add (x2.toNat * 2)))) (by kernel_rfl) (fun w' hh => exec_indexAddr (e := 52) (s := 2) rfl rfl rfl (by kernel_rfl) (by kernel_rfl) hi1 hi2 (hs1.some_ hi3 (by decide))) ?_
            refine T.look (.agg #[.int .i64 e1.page, .string e1.text]) (by kernel_rfl) (fun w' hh => exec_loadN (cs := [.int .i64 e1.page, .string e1.text]) rfl rfl (by kernel_rfl) (by kernel_rfl) (fun j u hj => (hh.cell_view (SlOk.cellF (E := eWrite) hs1 hi3 j (fun _ _ _ h => h) hj)))) ?_
            refine T.step (W1.new 52 [.int .i64 0, .string (ByteArray.mk #[])] (fun b => .pointer (some ⟨b, 0, none⟩)) (by kernel_rfl) (fun _ => by kernel_rfl) (fun b2 => ?_))
            refine T.step (W1.store 0 [.int .i64 e1.page, .string e1.text] [box b2 52 [.int .i64 e1.page, .string e1.text], row 133 eBool (some ⟨b1, 0, none⟩) 201 x1] (by rfl) rfl (by kernel_rfl) (fun w' hw => exec_store (vs := [.int .i64 e1.page, .string e1.text]) rfl rfl rfl rfl (by kernel_rfl) (one_of rfl) (by simp) rfl hw) ?_)
            refine T.nil ?_
            refine T.seq ?_
            refine T.cut (fun a w' => Fr 42 [(5, .pointer (some ⟨b1, 0, none⟩)), (7, .pointer (some ⟨b2, 0, none⟩)), (16, .slice A1 p1.length c1), (17, .int .i64 (p1.length : Int)), (18, .int .i64 x2), (29, .bool ((decide (e1.page < 1)) || (decide ((101 : Int) ≤ e1.page))))] a ∧ Hp w (vw w) [box b2 52 [.int .i64 e1.page, .string e1.text], row 133 eBool (some ⟨b1, 0, none⟩) 201 x1] w') ?_ ?_
            ·
              refine T.region ?_
              refine T.pure (.pointer (some ⟨b2, 0, none⟩)) (by kernel_rfl) (fun _ => by kernel_rfl) ?_
              refine T.look (.int .i64 e1.page) (by kernel_rfl) (fun w' hh => exec_load1 rfl rfl (by kernel_rfl) (hh.cellBox (i := 0) (by rfl) 0)) ?_
              refine T.pure (.bool (decide (e1.page < 1))) (by kernel_rfl) (fun _ => by kernel_rfl) ?_
              refine T.pure (.bool (decide (e1.page < 1))) (by kernel_rfl) (fun _ => by kernel_rfl) ?_
              cases hg2 : decide (e1.page < 1)
              ·
                skip
                refine T.pure (.pointer (some ⟨b2, 0, none⟩)) (by kernel_rfl) (fun _ => by kernel_rfl) ?_
                refine T.look (.int .i64 e1.page) (by kernel_rfl) (fun w' hh => exec_load1 rfl rfl (by kernel_rfl) (hh.cellBox (i := 0) (by rfl) 0)) ?_
                refine T.pure (.bool (decide ((101 : Int) ≤ e1.page))) (by kernel_rfl) (fun _ => by kernel_rfl) ?_
                refine T.pure (.bool (decide ((101 : Int) ≤ e1.page))) (by kernel_rfl) (fun _ => by kernel_rfl) ?_
                refine T.nil ?_
                exact fun a w' hf hh => And.intro (((((((Fr.nil hf).pick hf 29 rfl).pick hf 18 rfl).pick hf 17 rfl).pick hf 16 rfl).pick hf 7 rfl).pick hf 5 rfl) (hh.sub (.cons_cons _ (.cons_cons _ List.Sublist.slnil)))
              ·
                skip
                refine T.pass (by kernel_rfl) (by kernel_rfl) ?_
                refine T.pass (by kernel_rfl) (by kernel_rfl) ?_
                refine T.pass (by kernel_rfl) (by kernel_rfl) ?_
                refine T.pure (.bool true) (by kernel_rfl) (fun _ => by kernel_rfl) ?_
                refine T.nil ?_
                exact fun a w' hf hh => And.intro (((((((Fr.nil hf).pick hf 29 rfl).pick hf 18 rfl).pick hf 17 rfl).pick hf 16 rfl).pick hf 7 rfl).pick hf 5 rfl) (hh.sub (.cons_cons _ (.cons_cons _ List.Sublist.slnil)))
            ·
              rintro a w' ⟨hf, hh⟩
              refine (?_ : T 42 w (vw w) [box b2 52 [.int .i64 e1.page, .string e1.text], row 133 eBool (some ⟨b1, 0, none⟩) 201 x1] [(5, .pointer (some ⟨b1, 0, none⟩)), (7, .pointer (some ⟨b2, 0, none⟩)), (16, .slice A1 p1.length c1), (17, .int .i64 (p1.length : Int)), (18, .int .i64 x2), (29, .bool ((decide (e1.page < 1)) || (decide ((101 : Int) ≤ e1.page))))] _) a w' hf hh
              clear hf hh
              refine T.cond ((decide (e1.page < 1)) || (decide ((101 : Int) ≤ e1.page))) (by kernel_rfl) (by kernel_rfl) (fun hc3 => ?_) (fun hc3 => ?_)
              ·
                rw [hc3, cond_true] at hY1
                refine T.seq ?_
                refine T.region ?_
                refine T.pure (.int .i64 1) (by kernel_rfl) (fun _ => by kernel_rfl) ?_
                refine T.nil ?_
                cases hY1
                cases (hr1 _ rfl)
                try dsimp only at hF
                cases hF
                refine T.ret rfl ?_
                exact T.ret1 rfl (ResIs.tmp rfl) fun w' hh => ⟨_, rfl, hh.below, (show _ from rfl)⟩
              ·
                rw [hc3, cond_false] at hY1
                refine T.skip_code ?_
                refine T.seq ?_
                refine T.seq ?_
                refine T.region ?_
                refine T.pure (.pointer (some ⟨b2, 1, none⟩)) (by kernel_rfl) (fun _ => by kernel_rfl) ?_
                refine T.look (.string e1.text) (by kernel_rfl) (fun w' hh => exec_load1 rfl rfl (by kernel_rfl) (hh.cellBox (i := 0) (by rfl) 1)) ?_
                refine T.pure (.int .i64 (e1.text.size : Int)) (by kernel_rfl) (fun _ => by kernel_rfl) ?_
                refine T.pure (.bool (decide ((2900 : Int) < (e1.text.size : Int)))) (by kernel_rfl) (fun _ => by kernel_rfl) ?_
                refine T.nil ?_
                refine T.cond (decide ((2900 : Int) < (e1.text.size : Int))) (by kernel_rfl) (by kernel_rfl) (fun hc4 => ?_) (fun hc4 => ?_)
                ·
                  rw [hc4, cond_true] at hY1
                  refine T.seq ?_
                  refine T.region ?_
                  refine T.pure (.int .i64 2) (by kernel_rfl) (fun _ => by kernel_rfl) ?_
                  refine T.nil ?_
                  cases hY1
                  cases (hr1 _ rfl)
                  try dsimp only at hF
                  cases hF
                  refine T.ret rfl ?_
                  exact T.ret1 rfl (ResIs.tmp rfl) fun w' hh => ⟨_, rfl, hh.below, (show _ from rfl)⟩
                ·
                  rw [hc4, cond_false] at hY1
                  refine T.skip_code ?_
                  refine T.seq ?_
                  refine T.seq ?_
                  refine T.region ?_
                  refine T.pure (.pointer (some ⟨b2, 0, none⟩)) (by kernel_rfl) (fun _ => by kernel_rfl) ?_
                  refine T.look (.int .i64 e1.page) (by kernel_rfl) (fun w' hh => exec_load1 rfl rfl (by kernel_rfl) (hh.cellBox (i := 0) (by rfl) 0)) ?_
                  obtain ⟨e2, hb2, hY1⟩ := Option.bind_eq_some_iff.1 hY1
                  obtain ⟨hi4, hi5, hi6⟩ := idx_some hb2
                  refine T.look (.pointer (some ((sadr (some ⟨b1, 0, none⟩)).add (e1.page.toNat * 1)))) (by kernel_rfl) (fun w' hh => exec_arrRow (e := 4) (s := 1) (n := 201) rfl rfl rfl (by kernel_rfl) (by kernel_rfl) hi4 hi5 (hh.row_len (i := 1) (by rfl))) ?_
                  refine T.look (.bool e2) (by kernel_rfl) (fun w' hh => exec_load1 rfl rfl (by kernel_rfl) (SlOk.wcellF0 (E := eBool) (hh.row_slOk (i := 1) (by rfl)) hi6 (fun _ _ _ h => h) rfl)) ?_
                  refine T.nil ?_
                  refine T.cond e2 (by kernel_rfl) (by kernel_rfl) (fun hc5 => ?_) (fun hc5 => ?_)
                  ·
                    rw [hc5, cond_true] at hY1
                    refine T.seq ?_
                    refine T.region ?_
                    refine T.pure (.int .i64 5) (by kernel_rfl) (fun _ => by kernel_rfl) ?_
                    refine T.nil ?_
                    cases hY1
                    cases (hr1 _ rfl)
                    try dsimp only at hF
                    cases hF
                    refine T.ret rfl ?_
                    exact T.ret1 rfl (ResIs.tmp rfl) fun w' hh => ⟨_, rfl, hh.below, (show _ from rfl)⟩
                  ·
                    rw [hc5, cond_false] at hY1
                    refine T.skip_code ?_
                    refine T.region ?_
                    refine T.pure (.pointer (some ⟨b2, 0, none⟩)) (by kernel_rfl) (fun _ => by kernel_rfl) ?_
                    refine T.look (.int .i64 e1.page) (by kernel_rfl) (fun w' hh => exec_load1 rfl rfl (by kernel_rfl) (hh.cellBox (i := 0) (by rfl) 0)) ?_
                    obtain ⟨e3, hb3, hY1⟩ := Option.bind_eq_some_iff.1 hY1
                    obtain ⟨hi7, hi8, hi9⟩ := idx_some hb3
                    refine T.look (.pointer (some ((sadr (some ⟨b1, 0, none⟩)).add (e1.page.toNat * 1)))) (by kernel_rfl) (fun w' hh => exec_arrRow (e := 4) (s := 1) (n := 201) rfl rfl rfl (by kernel_rfl) (by kernel_rfl) hi7 hi8 (hh.row_len (i := 1) (by rfl))) ?_
                    refine T.step (W1.storeRow (E := eBool) 1 (e1.page.toNat) 0 e3 true _ (vs := [.bool true]) (by rfl) (by kernel_rfl) rfl rfl (addr_add0 _).symm rfl rfl (fun _ => by kernel_rfl) (one_of rfl) hi9 (Nat.le_of_ble_eq_true (by kernel_rfl)) (fun _ _ h => by cases h; rfl) ?_)
                    refine T.nil ?_
                    refine T.region ?_
                    refine T.pure (.int .i64 (IntKind.i64.wrap (x2 + 1))) (by kernel_rfl) (fun _ => by kernel_rfl) ?_
                    refine T.pure (.int .i64 (IntKind.i64.wrap (x2 + 1))) (by kernel_rfl) (fun _ => by kernel_rfl) ?_
                    refine T.nil ?_
                    cases hY1
                    exact fun a w' hf hh => Exists.intro ((x1.set e1.page.toNat true), IntKind.i64.wrap (x2 + 1)) (And.intro rfl (Exists.intro (x1.set e1.page.toNat true) (Exists.intro (IntKind.i64.wrap (x2 + 1)) (And.intro rfl (And.intro (((((Fr.nil hf).pick hf 18 rfl).pick hf 17 rfl).pick hf 16 rfl).pick hf 5 rfl) (hh.sub (.cons _ (.cons_cons _ List.Sublist.slnil))))))))
          ·
            rw [hc2, cond_false] at hY1
            refine T.exit ?_
            cases hY1
            cases (hr1 _ rfl)
            exact fun a w' hf hh => And.intro rfl (And.intro (Fr.nil hf) (hh.sub (.cons _ List.Sublist.slnil)))
      ·
        rintro a w' ⟨rfl, hf, hh⟩
        try dsimp only at hF
        refine (?_ : T 42 w (vw w) [] [] _) a w' hf hh
        clear hf hh
        refine T.seq ?_
        refine T.region ?_
        refine T.pure (.int .i64 0) (by kernel_rfl) (fun _ => by kernel_rfl) ?_
        refine T.nil ?_
        cases hF
        refine T.ret rfl ?_
        exact T.ret1 rfl (ResIs.tmp rfl) fun w' hh => ⟨_, rfl, hh.below, (show _ from rfl)⟩

set_option maxRecDepth 100000 in
set_option maxHeartbeats 4000000 in
theorem undo_Steps_l (F : Nat) (p0 : DDisk) (p1 : ByteArray) (p2 : (List DWrite)) (r : ((List DDisk)) × Int) (hF : undo_Steps F p0 p1 p2 = some r) (w : World) (A1 : Option Addr) (c1 : Nat) (hs1 : SlOk (vw w) eStr A1 c1 p0.pages) (A2 : Option Addr) (c2 : Nat) (hs2 : SlOk (vw w) eWrite A2 c2 p0.writes) (A3 : Option Addr) (c3 : Nat) (hs3 : SlOk (vw w) eWrite A3 c3 p2) :
    Calls Try.prog 18 #[.agg #[.slice A1 p0.pages.length c1, .slice A2 p0.writes.length c2], .string p1, .slice A3 p2.length c3] w (Post (vT2 (vSc (eList eDisk)) (vSc eInt)) r w) := by
  unfold undo_Steps at hF
  refine T.start (l := [.agg #[.slice A1 p0.pages.length c1, .slice A2 p0.writes.length c2], .string p1, .slice A3 p2.length c3]) Try.func18 rfl rfl rfl ?_
  refine T.seq ?_
  refine T.region ?_
  refine T.step (W1.new 25 [.slice A1 p0.pages.length c1, .slice A2 p0.writes.length c2] (fun b => .pointer (some ⟨b, 0, none⟩)) (by kernel_rfl) (fun _ => by kernel_rfl) (fun b1 => ?_))
  refine T.pure (.slice none 0 0) (by kernel_rfl) (fun _ => by kernel_rfl) ?_
  refine T.pure (.int .i64 0) (by kernel_rfl) (fun _ => by kernel_rfl) ?_
  refine T.nil ?_
  refine T.seq ?_
  refine T.region ?_
  refine T.look (.agg #[.slice A1 p0.pages.length c1, .slice A2 p0.writes.length c2]) (by kernel_rfl) (fun w' hh => exec_loadN (cs := [.slice A1 p0.pages.length c1, .slice A2 p0.writes.length c2]) rfl rfl (by kernel_rfl) (by kernel_rfl) (fun j u hj => (hh.box_at (i := 0) (cs := [.slice A1 p0.pages.length c1, .slice A2 p0.writes.length c2]) (by rfl) 0 j).trans (seg_at (n := 2) (by rfl) hj))) ?_
  obtain ⟨r1, hb1, hF⟩ := Option.bind_eq_some_iff.1 hF
  refine T.step (W1.call (vT3 (vSc eInt) (vSc eStr) (vSc eInt)) r1 19 #[.agg #[.slice A1 p0.pages.length c1, .slice A2 p0.writes.length c2]] (by kernel_rfl) (fun _ => by kernel_rfl) (fun w' hh => undo_Seq_l F p0 r1 hb1 w' A1 c1 (SlOk.mono hs1 hh.view) A2 c2 (SlOk.mono hs2 hh.view)) ?_)
  intro u V1 hV1 hu
  obtain rfl := (Sure.t3 sureInt sureStr sureInt) _ _ _ hu
  refine T.pure (.tuple #[.int .i64 r1.1, .string r1.2.1, .int .i64 r1.2.2]) (by kernel_rfl) (fun _ => by kernel_rfl) ?_
  refine T.pure (.int .i64 r1.1) (by kernel_rfl) (fun _ => by kernel_rfl) ?_
  refine T.pure (.string r1.2.1) (by kernel_rfl) (fun _ => by kernel_rfl) ?_
  refine T.pure (.int .i64 r1.2.2) (by kernel_rfl) (fun _ => by kernel_rfl) ?_
  refine T.pure (.int .i64 r1.1) (by kernel_rfl) (fun _ => by kernel_rfl) ?_
  refine T.pure (.string r1.2.1) (by kernel_rfl) (fun _ => by kernel_rfl) ?_
  refine T.pure (.int .i64 r1.2.2) (by kernel_rfl) (fun _ => by kernel_rfl) ?_
  refine T.nil ?_
  refine T.seq ?_
  refine T.seq ?_
  refine T.region ?_
  refine T.pure (.int .i64 r1.2.2) (by kernel_rfl) (fun _ => by kernel_rfl) ?_
  refine T.pure (.bool (r1.2.2 != 0)) (by kernel_rfl) (fun _ => by kernel_rfl) ?_
  refine T.nil ?_
  refine T.cond (r1.2.2 != 0) (by kernel_rfl) (by kernel_rfl) (fun hc1 => ?_) (fun hc1 => ?_)
  ·
    rw [hc1, cond_true] at hF
    refine T.seq ?_
    refine T.region ?_
    refine T.pure (.int .i64 r1.2.2) (by kernel_rfl) (fun _ => by kernel_rfl) ?_
    refine T.pure (.slice none 0 0) (by kernel_rfl) (fun _ => by kernel_rfl) ?_
    refine T.pure (.int .i64 r1.2.2) (by kernel_rfl) (fun _ => by kernel_rfl) ?_
    refine T.nil ?_
    cases hF
    refine T.ret rfl ?_
    exact T.ret2 rfl (ResIs.tmp rfl) (ResIs.tmp rfl) fun w' hh => ⟨_, rfl, hh.below, (vT2.mk ⟨_, _, rfl, (SlOk.nil _ _)⟩ (show _ from rfl))⟩
  ·
    rw [hc1, cond_false] at hF
    refine T.skip_code ?_
    refine T.seq ?_
    refine T.seq ?_
    refine T.region ?_
    refine T.pure (.string p1) (by kernel_rfl) (fun _ => by kernel_rfl) ?_
    refine T.pure (.slice A3 p2.length c3) (by kernel_rfl) (fun _ => by kernel_rfl) ?_
    obtain ⟨r2, hb2, hF⟩ := Option.bind_eq_some_iff.1 hF
    refine T.step (W1.call (vSc eInt) r2 50 #[.string p1, .slice A3 p2.length c3] (by kernel_rfl) (fun _ => by kernel_rfl) (fun w' hh => undo_fit_l F p1 p2 r2 hb2 w' A3 c3 (SlOk.mono (SlOk.mono hs3 hV1) hh.view)) ?_)
    intro u V2 hV2 hu
    obtain rfl := sureInt _ _ _ hu
    refine T.pure (.int .i64 r2) (by kernel_rfl) (fun _ => by kernel_rfl) ?_
    refine T.nil ?_
    refine T.seq ?_
    refine T.region ?_
    refine T.pure (.int .i64 r2) (by kernel_rfl) (fun _ => by kernel_rfl) ?_
    refine T.pure (.bool (r2 != 0)) (by kernel_rfl) (fun _ => by kernel_rfl) ?_
    refine T.nil ?_
    refine T.cond (r2 != 0) (by kernel_rfl) (by kernel_rfl) (fun hc2 => ?_) (fun hc2 => ?_)
    ·
      rw [hc2, cond_true] at hF
      refine T.seq ?_
      refine T.region ?_
      refine T.pure (.int .i64 r2) (by kernel_rfl) (fun _ => by kernel_rfl) ?_
      refine T.pure (.slice none 0 0) (by kernel_rfl) (fun _ => by kernel_rfl) ?_
      refine T.pure (.int .i64 r2) (by kernel_rfl) (fun _ => by kernel_rfl) ?_
      refine T.nil ?_
      cases hF
      refine T.ret rfl ?_
      exact T.ret2 rfl (ResIs.tmp rfl) (ResIs.tmp rfl) fun w' hh => ⟨_, rfl, hh.below, (vT2.mk ⟨_, _, rfl, (SlOk.nil _ _)⟩ (show _ from rfl))⟩
    ·
      rw [hc2, cond_false] at hF
      refine T.skip_code ?_
      refine T.seq ?_
      refine T.seq ?_
      refine T.region ?_
      refine T.pure (.slice A3 p2.length c3) (by kernel_rfl) (fun _ => by kernel_rfl) ?_
      refine T.pure (.int .i64 (p2.length : Int)) (by kernel_rfl) (fun _ => by kernel_rfl) ?_
      refine T.pure (.int .i64 0) (by kernel_rfl) (fun _ => by kernel_rfl) ?_
      refine T.nil ?_
      obtain ⟨q1, hz1, hF⟩ := Option.bind_eq_some_iff.1 hF
      refine T.mid (fun a w' => q1 = Sum.inl () ∧ ∃ (V4 : View), View.le V2 V4 ∧ Fr 124 [(1, .string p1), (2, .slice A3 p2.length c3), (3, .pointer (some ⟨b1, 0, none⟩)), (8, .int .i64 r1.1)] a ∧ Hp w V4 [box b1 25 [.slice A1 p0.pages.length c1, .slice A2 p0.writes.length c2]] w') ?_ ?_
      ·
        refine T.block ?_
        refine T.iter (fun x1 a w' => ∃ (V3 : View), View.le V2 V3 ∧ Fr 124 [(1, .string p1), (2, .slice A3 p2.length c3), (3, .pointer (some ⟨b1, 0, none⟩)), (8, .int .i64 r1.1), (38, .slice A3 p2.length c3), (39, .int .i64 (p2.length : Int)), (40, .int .i64 x1)] a ∧ Hp w V3 [box b1 25 [.slice A1 p0.pages.length c1, .slice A2 p0.writes.length c2]] w') hz1 ?_ ?_
        ·
          exact fun a w' hf hh => Exists.intro V2 (And.intro (View.le_refl _) (And.intro ((((((((Fr.nil hf).pick hf 40 rfl).pick hf 39 rfl).pick hf 38 rfl).pick hf 8 rfl).pick hf 3 rfl).pick hf 2 rfl).pick hf 1 rfl) (hh.sub (.cons_cons _ List.Sublist.slnil))))
        ·
          rintro x1 y1 hY1 hr1 a w' ⟨V3, hV3, hf, hh⟩
          refine (?_ : T 124 w V3 [box b1 25 [.slice A1 p0.pages.length c1, .slice A2 p0.writes.length c2]] [(1, .string p1), (2, .slice A3 p2.length c3), (3, .pointer (some ⟨b1, 0, none⟩)), (8, .int .i64 r1.1), (38, .slice A3 p2.length c3), (39, .int .i64 (p2.length : Int)), (40, .int .i64 x1)] _) a w' hf hh
          clear hf hh
          try dsimp only at hY1
          refine T.seq ?_
          refine T.region ?_
          refine T.pure (.bool (decide (x1 < (p2.length : Int)))) (by kernel_rfl) (fun _ => by kernel_rfl) ?_
          refine T.nil ?_
          refine T.seq ?_
          refine T.cond (decide (x1 < (p2.length : Int))) (by kernel_rfl) (by kernel_rfl) (fun hc3 => ?_) (fun hc3 => ?_)
          ·
            rw [hc3, cond_true] at hY1
            refine T.skip_code ?_
            refine T.seq ?_
            refine T.block ?_
            refine T.seq ?_
            refine T.region ?_
            obtain ⟨e1, hb3, hY1⟩ := Option.bind_eq_some_iff.1 hY1
            obtain ⟨hi1, hi2, hi3⟩ := idx_some hb3
            refine T.look (.pointer (some ((sadr A3).add (x1.toNat * 2)))) (by kernel_rfl) (fun w' hh => exec_indexAddr (e := 52) (s := 2) rfl rfl rfl (by kernel_rfl) (by kernel_rfl) hi1 hi2 ((SlOk.mono hs3 (View.le_trans (View.le_trans hV1 hV2) hV3)).some_ hi3 (by decide))) ?_
            refine T.look (.agg #[.int .i64 e1.page, .string e1.text]) (by kernel_rfl) (fun w' hh => exec_loadN (cs := [.int .i64 e1.page, .string e1.text]) rfl rfl (by kernel_rfl) (by kernel_rfl) (fun j u hj => (hh.cell_view (SlOk.cellF (E := eWrite) (SlOk.mono hs3 (View.le_trans (View.le_trans hV1 hV2) hV3)) hi3 j (fun _ _ _ h => h) hj)))) ?_
            refine T.step (W1.new 52 [.int .i64 0, .string (ByteArray.mk #[])] (fun b => .pointer (some ⟨b, 0, none⟩)) (by kernel_rfl) (fun _ => by kernel_rfl) (fun b2 => ?_))
            refine T.step (W1.store 0 [.int .i64 e1.page, .string e1.text] [box b2 52 [.int .i64 e1.page, .string e1.text], box b1 25 [.slice A1 p0.pages.length c1, .slice A2 p0.writes.length c2]] (by rfl) rfl (by kernel_rfl) (fun w' hw => exec_store (vs := [.int .i64 e1.page, .string e1.text]) rfl rfl rfl rfl (by kernel_rfl) (one_of rfl) (by simp) rfl hw) ?_)
            refine T.nil ?_
            refine T.seq ?_
            refine T.region ?_
            refine T.look (.agg #[.slice A1 p0.pages.length c1, .slice A2 p0.writes.length c2]) (by kernel_rfl) (fun w' hh => exec_loadN (cs := [.slice A1 p0.pages.length c1, .slice A2 p0.writes.length c2]) rfl rfl (by kernel_rfl) (by kernel_rfl) (fun j u hj => (hh.box_at (i := 1) (cs := [.slice A1 p0.pages.length c1, .slice A2 p0.writes.length c2]) (by rfl) 0 j).trans (seg_at (n := 2) (by rfl) hj))) ?_
            refine T.pure (.pointer (some ⟨b2, 0, none⟩)) (by kernel_rfl) (fun _ => by kernel_rfl) ?_
            refine T.look (.int .i64 e1.page) (by kernel_rfl) (fun w' hh => exec_load1 rfl rfl (by kernel_rfl) (hh.cellBox (i := 0) (by rfl) 0)) ?_
            obtain ⟨r3, hb4, hY1⟩ := Option.bind_eq_some_iff.1 hY1
            refine T.step (W1.call (vSc eStr) r3 51 #[.agg #[.slice A1 p0.pages.length c1, .slice A2 p0.writes.length c2], .int .i64 e1.page] (by kernel_rfl) (fun _ => by kernel_rfl) (fun w' hh => disk_Seen_l F p0 e1.page r3 hb4 w' A1 c1 (SlOk.mono (SlOk.mono hs1 (View.le_trans (View.le_trans hV1 hV2) hV3)) hh.view) A2 c2 (SlOk.mono (SlOk.mono hs2 (View.le_trans (View.le_trans hV1 hV2) hV3)) hh.view)) ?_)
            intro u V5 hV5 hu
            obtain rfl := sureStr _ _ _ hu
            refine T.pure (.int .i64 (r3.size : Int)) (by kernel_rfl) (fun _ => by kernel_rfl) ?_
            refine T.pure (.bool (decide ((2900 : Int) < (r3.size : Int)))) (by kernel_rfl) (fun _ => by kernel_rfl) ?_
            refine T.nil ?_
            refine T.cond (decide ((2900 : Int) < (r3.size : Int))) (by kernel_rfl) (by kernel_rfl) (fun hc4 => ?_) (fun hc4 => ?_)
            ·
              rw [hc4, cond_true] at hY1
              refine T.seq ?_
              refine T.region ?_
              refine T.pure (.slice none 0 0) (by kernel_rfl) (fun _ => by kernel_rfl) ?_
              refine T.pure (.int .i64 2) (by kernel_rfl) (fun _ => by kernel_rfl) ?_
              refine T.nil ?_
              cases hY1
              cases (hr1 _ rfl)
              try dsimp only at hF
              cases hF
              refine T.ret rfl ?_
              exact T.ret2 rfl (ResIs.tmp rfl) (ResIs.tmp rfl) fun w' hh => ⟨_, rfl, hh.below, (vT2.mk ⟨_, _, rfl, (SlOk.nil _ _)⟩ (show _ from rfl))⟩
            ·
              rw [hc4, cond_false] at hY1
              refine T.skip_code ?_
              refine T.region ?_
              refine T.pure (.int .i64 (IntKind.i64.wrap (x1 + 1))) (by kernel_rfl) (fun _ => by kernel_rfl) ?_
              refine T.pure (.int .i64 (IntKind.i64.wrap (x1 + 1))) (by kernel_rfl) (fun _ => by kernel_rfl) ?_
              refine T.nil ?_
              cases hY1
              exact fun a w' hf hh => Exists.intro (IntKind.i64.wrap (x1 + 1)) (And.intro rfl (Exists.intro V5 (And.intro (View.le_trans hV3 hV5) (And.intro ((((((((Fr.nil hf).pick hf 40 rfl).pick hf 39 rfl).pick hf 38 rfl).pick hf 8 rfl).pick hf 3 rfl).pick hf 2 rfl).pick hf 1 rfl) (hh.sub (.cons _ (.cons_cons _ List.Sublist.slnil)))))))
          ·
            rw [hc3, cond_false] at hY1
            refine T.exit ?_
            cases hY1
            cases (hr1 _ rfl)
            exact fun a w' hf hh => And.intro rfl (Exists.intro V3 (And.intro hV3 (And.intro (((((Fr.nil hf).pick hf 8 rfl).pick hf 3 rfl).pick hf 2 rfl).pick hf 1 rfl) (hh.sub (.cons_cons _ List.Sublist.slnil)))))
      ·
        rintro a w' ⟨rfl, V4, hV4, hf, hh⟩
        try dsimp only at hF
        refine (?_ : T 124 w V4 [box b1 25 [.slice A1 p0.pages.length c1, .slice A2 p0.writes.length c2]] [(1, .string p1), (2, .slice A3 p2.length c3), (3, .pointer (some ⟨b1, 0, none⟩)), (8, .int .i64 r1.1)] _) a w' hf hh
        clear hf hh
        refine T.seq ?_
        refine T.seq ?_
        refine T.region ?_
        refine T.pure (.int .i64 r1.1) (by kernel_rfl) (fun _ => by kernel_rfl) ?_
        refine T.pure (.bool (r1.1 == 2147483647)) (by kernel_rfl) (fun _ => by kernel_rfl) ?_
        refine T.nil ?_
        refine T.cond (r1.1 == 2147483647) (by kernel_rfl) (by kernel_rfl) (fun hc5 => ?_) (fun hc5 => ?_)
        ·
          rw [hc5, cond_true] at hF
          refine T.seq ?_
          refine T.region ?_
          refine T.pure (.slice none 0 0) (by kernel_rfl) (fun _ => by kernel_rfl) ?_
          refine T.pure (.int .i64 8) (by kernel_rfl) (fun _ => by kernel_rfl) ?_
          refine T.nil ?_
          cases hF
          refine T.ret rfl ?_
          exact T.ret2 rfl (ResIs.tmp rfl) (ResIs.tmp rfl) fun w' hh => ⟨_, rfl, hh.below, (vT2.mk ⟨_, _, rfl, (SlOk.nil _ _)⟩ (show _ from rfl))⟩
        ·
          rw [hc5, cond_false] at hF
          refine T.skip_code ?_
          refine T.seq ?_
          refine T.region ?_
          refine T.look (.agg #[.slice A1 p0.pages.length c1, .slice A2 p0.writes.length c2]) (by kernel_rfl) (fun w' hh => exec_loadN (cs := [.slice A1 p0.pages.length c1, .slice A2 p0.writes.length c2]) rfl rfl (by kernel_rfl) (by kernel_rfl) (fun j u hj => (hh.box_at (i := 0) (cs := [.slice A1 p0.pages.length c1, .slice A2 p0.writes.length c2]) (by rfl) 0 j).trans (seg_at (n := 2) (by rfl) hj))) ?_
          refine T.pure (.agg #[.slice A1 p0.pages.length c1, .slice A2 p0.writes.length c2, .slice none 0 0]) (by kernel_rfl) (fun _ => by kernel_rfl) ?_
          refine T.step (W1.new 104 [.slice A1 p0.pages.length c1, .slice A2 p0.writes.length c2, .slice none 0 0] (fun b => .pointer (some ⟨b, 0, none⟩)) (by kernel_rfl) (fun _ => by kernel_rfl) (fun b3 => ?_))
          refine T.pure (.pointer (some ⟨b3, 0, none⟩)) (by kernel_rfl) (fun _ => by kernel_rfl) ?_
          refine T.nil ?_
          refine T.seq ?_
          refine T.region ?_
          refine T.pure (.pointer (some ⟨b3, 0, none⟩)) (by kernel_rfl) (fun _ => by kernel_rfl) ?_
          obtain ⟨q2, hX1, hF⟩ := Option.bind_eq_some_iff.1 hF
          refine T.step (W1.within 52 [.pointer (some ⟨b3, 0, none⟩)] (fun v w' => ∃ (z1 : List DDisk) (z2 : List ByteArray) (z3 : List DWrite), q2 = (z1, z2, z3) ∧ ∃ (A4 : Option Addr) (c4 : Nat) (A5 : Option Addr) (c5 : Nat) (A6 : Option Addr) (c6 : Nat) (V6 : View), View.le V4 V6 ∧ SlOk (made w V6) eStr A5 c5 z2 ∧ SlOk (made w V6) eWrite A6 c6 z3 ∧ v = .tuple #[] ∧ Hp w V6 [row 25 (eAt w eDisk) A4 c4 z1, box b3 104 [.slice A5 z2.length c5, .slice A6 z3.length c6, .slice A4 z1.length c4]] w') Try.func52 rfl rfl (by kernel_rfl) (fun _ => by kernel_rfl) rfl ?_ ?_)
          ·
            refine T.seq ?_
            refine T.region ?_
            refine T.pure (.pointer (some ⟨b3, 0, none⟩)) (by kernel_rfl) (fun _ => by kernel_rfl) ?_
            refine T.pure (.pointer (some ⟨b3, 0, none⟩)) (by kernel_rfl) (fun _ => by kernel_rfl) ?_
            refine T.pure (.pointer (some ⟨b3, 0, none⟩)) (by kernel_rfl) (fun _ => by kernel_rfl) ?_
            refine T.pure (.pointer (some ⟨b3, 0, none⟩)) (by kernel_rfl) (fun _ => by kernel_rfl) ?_
            refine T.look (.agg #[.slice A1 p0.pages.length c1, .slice A2 p0.writes.length c2]) (by kernel_rfl) (fun w' hh => exec_loadN (cs := [.slice A1 p0.pages.length c1, .slice A2 p0.writes.length c2]) rfl rfl (by kernel_rfl) (by kernel_rfl) (fun j u hj => (hh.box_at (i := 0) (cs := [.slice A1 p0.pages.length c1, .slice A2 p0.writes.length c2, .slice none 0 0]) (by rfl) 0 j).trans (seg_at (n := 2) (by rfl) hj))) ?_
            obtain ⟨r4, hb5, hX1⟩ := Option.bind_eq_some_iff.1 hX1
            refine T.step (W1.call (vT2 (vAg eDisk) (vSc eInt)) r4 20 #[.agg #[.slice A1 p0.pages.length c1, .slice A2 p0.writes.length c2]] (by kernel_rfl) (fun _ => by kernel_rfl) (fun w' hh => disk_Sync_l F p0 r4 hb5 w' A1 c1 (SlOk.mono (SlOk.mono hs1 (View.le_trans (View.le_trans hV1 hV2) hV4)) hh.view) A2 c2 (SlOk.mono (SlOk.mono hs2 (View.le_trans (View.le_trans hV1 hV2) hV4)) hh.view)) ?_)
            intro u V7 hV7 hu
            obtain ⟨u1, u2, rfl, hu1, hu2⟩ := vT2_elim hu
            obtain ⟨cs1, rfl, hr2⟩ := vagg_elim hu1
            obtain ⟨A7, c7, A8, c8, rfl, hs6, hs7⟩ := hr2
            obtain rfl := sureInt _ _ _ hu2
            refine T.pure (.tuple #[.agg #[.slice A7 r4.1.pages.length c7, .slice A8 r4.1.writes.length c8], .int .i64 r4.2]) (by kernel_rfl) (fun _ => by kernel_rfl) ?_
            refine T.pure (.agg #[.slice A7 r4.1.pages.length c7, .slice A8 r4.1.writes.length c8]) (by kernel_rfl) (fun _ => by kernel_rfl) ?_
            refine T.pure (.int .i64 r4.2) (by kernel_rfl) (fun _ => by kernel_rfl) ?_
            refine T.pure (.pointer (some ⟨b3, 0, none⟩)) (by kernel_rfl) (fun _ => by kernel_rfl) ?_
            refine T.pure (.pointer (some ⟨b3, 0, none⟩)) (by kernel_rfl) (fun _ => by kernel_rfl) ?_
            refine T.step (W1.store 0 [.slice A7 r4.1.pages.length c7, .slice A8 r4.1.writes.length c8, .slice none 0 0] [box b3 104 [.slice A7 r4.1.pages.length c7, .slice A8 r4.1.writes.length c8, .slice none 0 0], box b1 25 [.slice A1 p0.pages.length c1, .slice A2 p0.writes.length c2]] (by rfl) rfl (by kernel_rfl) (fun w' hw => exec_store (vs := [.slice A7 r4.1.pages.length c7, .slice A8 r4.1.writes.length c8]) rfl rfl rfl rfl (by kernel_rfl) (one_of rfl) (by simp) rfl hw) ?_)
            refine T.nil ?_
            obtain ⟨y2, hb6, hX1⟩ := Option.bind_eq_some_iff.1 hX1
            refine T.mid (fun a w' => ∃ (A10 : Option Addr) (c10 : Nat), Fr 26 [] a ∧ Hp w V7 [row 25 (eAt w eDisk) A10 c10 (([] : List DDisk) ++ [r4.1]), box b3 104 [.slice A7 r4.1.pages.length c7, .slice A8 r4.1.writes.length c8, .slice A10 ((([] : List DDisk) ++ [r4.1]).length) c10]] w') ?_ ?_
            ·
              refine T.held [box b1 25 [.slice A1 p0.pages.length c1, .slice A2 p0.writes.length c2]] (by kernel_rfl) ?_
              refine TA.take 0 (.pointer (some ⟨b3, 0, none⟩)) rfl (by kernel_rfl) (by kernel_rfl) (by kernel_rfl) (fun _ _ _ h => h) (Hp.old (View.le_refl _) (View.le_trans (View.le_trans (View.le_trans hV1 hV2) hV4) hV7) (.cons _ (.cons_cons _ List.Sublist.slnil)) (OldAll.box OldAll.nil)) (by kernel_rfl) (fun _ _ => by kernel_rfl) ?_
              refine TA.take 1 (.pointer (some ⟨b3, 0, none⟩)) rfl (by kernel_rfl) (by kernel_rfl) (by kernel_rfl) (fun _ _ _ h => h) (Hp.old (View.le_refl _) (View.le_trans (View.le_trans (View.le_trans hV1 hV2) hV4) hV7) (.cons _ (.cons_cons _ List.Sublist.slnil)) (OldAll.box OldAll.nil)) (by kernel_rfl) (fun _ _ => by kernel_rfl) ?_
              refine TA.take 2 (.pointer (some ⟨b3, 0, none⟩)) rfl (by kernel_rfl) (by kernel_rfl) (by kernel_rfl) (fun _ _ _ h => h) (Hp.old (View.le_refl _) (View.le_trans (View.le_trans (View.le_trans hV1 hV2) hV4) hV7) (.cons _ (.cons_cons _ List.Sublist.slnil)) (OldAll.box OldAll.nil)) (by kernel_rfl) (fun _ _ => by kernel_rfl) ?_
              refine TA.take 3 (.pointer (some ⟨b3, 2, none⟩)) rfl (by kernel_rfl) (by kernel_rfl) (by kernel_rfl) (fun _ _ _ h => h) (Hp.old (View.le_refl _) (View.le_trans (View.le_trans (View.le_trans hV1 hV2) hV4) hV7) (.cons _ (.cons_cons _ List.Sublist.slnil)) (OldAll.box OldAll.nil)) (by kernel_rfl) (fun _ _ => by kernel_rfl) ?_
              refine TA.take 5 (.pointer (some ⟨b3, 0, none⟩)) rfl (by kernel_rfl) (by kernel_rfl) (by kernel_rfl) (fun _ _ _ h => h) (Hp.old (View.le_refl _) (View.le_trans (View.le_trans (View.le_trans hV1 hV2) hV4) hV7) (.cons _ (.cons_cons _ List.Sublist.slnil)) (OldAll.box OldAll.nil)) (by kernel_rfl) (fun _ _ => by kernel_rfl) ?_
              refine TA.take 6 (.pointer (some ⟨b3, 0, none⟩)) rfl (by kernel_rfl) (by kernel_rfl) (by kernel_rfl) (fun _ _ _ h => h) (Hp.old (View.le_refl _) (View.le_trans (View.le_trans (View.le_trans hV1 hV2) hV4) hV7) (.cons _ (.cons_cons _ List.Sublist.slnil)) (OldAll.box OldAll.nil)) (by kernel_rfl) (fun _ _ => by kernel_rfl) ?_
              refine TA.take 7 (.pointer (some ⟨b3, 0, none⟩)) rfl (by kernel_rfl) (by kernel_rfl) (by kernel_rfl) (fun _ _ _ h => h) (Hp.old (View.le_refl _) (View.le_trans (View.le_trans (View.le_trans hV1 hV2) hV4) hV7) (.cons _ (.cons_cons _ List.Sublist.slnil)) (OldAll.box OldAll.nil)) (by kernel_rfl) (fun _ _ => by kernel_rfl) ?_
              refine TA.all [4, 8] (by kernel_rfl) rfl ⟨?_, ?_, trivial⟩
              ·
                refine TA.br rfl (W1.look (.slice none 0 0) (by kernel_rfl) (fun w' hh => exec_load1 rfl rfl (by kernel_rfl) (hh.cellBox (i := 0) (by rfl) 2)) ?_)
                refine TA.on (Hp.old (View.le_refl _) (View.le_trans (View.le_trans (View.le_trans hV1 hV2) hV4) hV7) (.cons _ (.cons_cons _ List.Sublist.slnil)) (OldAll.box OldAll.nil)) ?_
                refine TA.all [8] (by kernel_rfl) rfl ⟨?_, trivial⟩
                refine TA.br rfl (W1.look (.agg #[.slice A7 r4.1.pages.length c7, .slice A8 r4.1.writes.length c8]) (by kernel_rfl) (fun w' hh => exec_loadN (cs := [.slice A7 r4.1.pages.length c7, .slice A8 r4.1.writes.length c8]) rfl rfl (by kernel_rfl) (by kernel_rfl) (fun j u hj => (hh.box_at (i := 0) (cs := [.slice A7 r4.1.pages.length c7, .slice A8 r4.1.writes.length c8, .slice none 0 0]) (by rfl) 0 j).trans (seg_at (n := 2) (by rfl) hj))) ?_)
                refine TA.on (Hp.old (View.le_refl _) (View.le_trans (View.le_trans (View.le_trans hV1 hV2) hV4) hV7) (.cons _ (.cons_cons _ List.Sublist.slnil)) (OldAll.box OldAll.nil)) ?_
                refine TA.all [9] (by kernel_rfl) rfl ⟨?_, trivial⟩
                refine TA.br rfl (W1.new 25 [.slice A7 r4.1.pages.length c7, .slice A8 r4.1.writes.length c8] (fun b => .slice (some ⟨b, 0, none⟩) 1 1) (by kernel_rfl) (fun _ => by kernel_rfl) (fun b4 => ?_))
                refine TA.on (Hp.old (View.le_refl _) (View.le_trans (View.le_trans (View.le_trans hV1 hV2) hV4) hV7) (.cons _ (.cons _ (.cons_cons _ List.Sublist.slnil))) (OldAll.box OldAll.nil)) ?_
                refine TA.all [10] (by kernel_rfl) rfl ⟨?_, trivial⟩
                refine TA.br rfl (W1.rownil 25 (eAt w eDisk) ?_)
                obtain ⟨hb6_r, hb6_m, rfl⟩ := grow_some hb6
                obtain ⟨ti, hti, hz1, hz2, hz3⟩ := info_parts (P := Try.prog) (e := 25) (z := .agg #[.slice none 0 0, .slice none 0 0]) (size := 2) (bytes := 48) (by kernel_rfl)
                refine  (W1.append (E := (eAt w eDisk)) (l := ([] : List DDisk)) (m := [r4.1]) 0 _ _ 48 ti _ (by rfl) (by kernel_rfl) rfl (by kernel_rfl) hti hz1 hz2 hz3 rfl (Nat.le_of_ble_eq_true rfl) rfl rfl (fun w' hh => (src_one (E := (eAt w eDisk)) hh (i := 1) (by rfl) ⟨A7, c7, A8, c8, rfl, (SlOk.mono hs6 (made_mono (View.le_refl _))), (SlOk.mono hs7 (made_mono (View.le_refl _)))⟩)) hb6_r hb6_m (fun A9 c9 => ?_))
                refine TA.on (Hp.old (View.le_refl _) (View.le_trans (View.le_trans (View.le_trans hV1 hV2) hV4) hV7) (.cons _ (.cons _ (.cons _ (.cons_cons _ List.Sublist.slnil)))) (OldAll.box OldAll.nil)) ?_
                refine TA.take 11 (.pointer (some ⟨b3, 0, none⟩)) rfl (by kernel_rfl) (by kernel_rfl) (by kernel_rfl) (fun _ _ _ h => h) (Hp.old (View.le_refl _) (View.le_trans (View.le_trans (View.le_trans hV1 hV2) hV4) hV7) (.cons _ (.cons _ (.cons _ (.cons_cons _ List.Sublist.slnil)))) (OldAll.box OldAll.nil)) (by kernel_rfl) (fun _ _ => by kernel_rfl) ?_
                refine TA.take 12 (.pointer (some ⟨b3, 2, none⟩)) rfl (by kernel_rfl) (by kernel_rfl) (by kernel_rfl) (fun _ _ _ h => h) (Hp.old (View.le_refl _) (View.le_trans (View.le_trans (View.le_trans hV1 hV2) hV4) hV7) (.cons _ (.cons _ (.cons _ (.cons_cons _ List.Sublist.slnil)))) (OldAll.box OldAll.nil)) (by kernel_rfl) (fun _ _ => by kernel_rfl) ?_
                refine TA.all [13] (by kernel_rfl) rfl ⟨?_, trivial⟩
                refine TA.br rfl (W1.store 2 [.slice A7 r4.1.pages.length c7, .slice A8 r4.1.writes.length c8, .slice A9 ((([] : List DDisk) ++ [r4.1]).length) c9] [row 25 (eAt w eDisk) A9 c9 (([] : List DDisk) ++ [r4.1]), box b4 25 [.slice A7 r4.1.pages.length c7, .slice A8 r4.1.writes.length c8], box b3 104 [.slice A7 r4.1.pages.length c7, .slice A8 r4.1.writes.length c8, .slice A9 ((([] : List DDisk) ++ [r4.1]).length) c9], box b1 25 [.slice A1 p0.pages.length c1, .slice A2 p0.writes.length c2]] (by rfl) rfl (by kernel_rfl) (fun w' hw => exec_store (vs := [.slice A9 ((([] : List DDisk) ++ [r4.1]).length) c9]) rfl rfl rfl rfl (by kernel_rfl) (one_of rfl) (by simp) rfl hw) ?_)
                refine TA.on (Hp.old (View.le_refl _) (View.le_trans (View.le_trans (View.le_trans hV1 hV2) hV4) hV7) (.cons _ (.cons _ (.cons _ (.cons_cons _ List.Sublist.slnil)))) (OldAll.box OldAll.nil)) ?_
                refine TA.done (by kernel_rfl) ?_
                exact fun a w' hf hh => Exists.intro A9 (Exists.intro c9 (And.intro (Fr.nil hf) (hh.sub (.cons_cons _ (.cons _ (.cons_cons _ (.cons _ List.Sublist.slnil)))))))
              ·
                refine TA.br rfl (W1.look (.agg #[.slice A7 r4.1.pages.length c7, .slice A8 r4.1.writes.length c8]) (by kernel_rfl) (fun w' hh => exec_loadN (cs := [.slice A7 r4.1.pages.length c7, .slice A8 r4.1.writes.length c8]) rfl rfl (by kernel_rfl) (by kernel_rfl) (fun j u hj => (hh.box_at (i := 0) (cs := [.slice A7 r4.1.pages.length c7, .slice A8 r4.1.writes.length c8, .slice none 0 0]) (by rfl) 0 j).trans (seg_at (n := 2) (by rfl) hj))) ?_)
                refine TA.on (Hp.old (View.le_refl _) (View.le_trans (View.le_trans (View.le_trans hV1 hV2) hV4) hV7) (.cons _ (.cons_cons _ List.Sublist.slnil)) (OldAll.box OldAll.nil)) ?_
                refine TA.all [4, 9] (by kernel_rfl) rfl ⟨?_, ?_, trivial⟩
                ·
                  refine TA.br rfl (W1.look (.slice none 0 0) (by kernel_rfl) (fun w' hh => exec_load1 rfl rfl (by kernel_rfl) (hh.cellBox (i := 0) (by rfl) 2)) ?_)
                  refine TA.on (Hp.old (View.le_refl _) (View.le_trans (View.le_trans (View.le_trans hV1 hV2) hV4) hV7) (.cons _ (.cons_cons _ List.Sublist.slnil)) (OldAll.box OldAll.nil)) ?_
                  refine TA.all [9] (by kernel_rfl) rfl ⟨?_, trivial⟩
                  refine TA.br rfl (W1.new 25 [.slice A7 r4.1.pages.length c7, .slice A8 r4.1.writes.length c8] (fun b => .slice (some ⟨b, 0, none⟩) 1 1) (by kernel_rfl) (fun _ => by kernel_rfl) (fun b4 => ?_))
                  refine TA.on (Hp.old (View.le_refl _) (View.le_trans (View.le_trans (View.le_trans hV1 hV2) hV4) hV7) (.cons _ (.cons _ (.cons_cons _ List.Sublist.slnil))) (OldAll.box OldAll.nil)) ?_
                  refine TA.all [10] (by kernel_rfl) rfl ⟨?_, trivial⟩
                  refine TA.br rfl (W1.rownil 25 (eAt w eDisk) ?_)
                  obtain ⟨hb6_r, hb6_m, rfl⟩ := grow_some hb6
                  obtain ⟨ti, hti, hz1, hz2, hz3⟩ := info_parts (P := Try.prog) (e := 25) (z := .agg #[.slice none 0 0, .slice none 0 0]) (size := 2) (bytes := 48) (by kernel_rfl)
                  refine  (W1.append (E := (eAt w eDisk)) (l := ([] : List DDisk)) (m := [r4.1]) 0 _ _ 48 ti _ (by rfl) (by kernel_rfl) rfl (by kernel_rfl) hti hz1 hz2 hz3 rfl (Nat.le_of_ble_eq_true rfl) rfl rfl (fun w' hh => (src_one (E := (eAt w eDisk)) hh (i := 1) (by rfl) ⟨A7, c7, A8, c8, rfl, (SlOk.mono hs6 (made_mono (View.le_refl _))), (SlOk.mono hs7 (made_mono (View.le_refl _)))⟩)) hb6_r hb6_m (fun A9 c9 => ?_))
                  refine TA.on (Hp.old (View.le_refl _) (View.le_trans (View.le_trans (View.le_trans hV1 hV2) hV4) hV7) (.cons _ (.cons _ (.cons _ (.cons_cons _ List.Sublist.slnil)))) (OldAll.box OldAll.nil)) ?_
                  refine TA.take 11 (.pointer (some ⟨b3, 0, none⟩)) rfl (by kernel_rfl) (by kernel_rfl) (by kernel_rfl) (fun _ _ _ h => h) (Hp.old (View.le_refl _) (View.le_trans (View.le_trans (View.le_trans hV1 hV2) hV4) hV7) (.cons _ (.cons _ (.cons _ (.cons_cons _ List.Sublist.slnil)))) (OldAll.box OldAll.nil)) (by kernel_rfl) (fun _ _ => by kernel_rfl) ?_
                  refine TA.take 12 (.pointer (some ⟨b3, 2, none⟩)) rfl (by kernel_rfl) (by kernel_rfl) (by kernel_rfl) (fun _ _ _ h => h) (Hp.old (View.le_refl _) (View.le_trans (View.le_trans (View.le_trans hV1 hV2) hV4) hV7) (.cons _ (.cons _ (.cons _ (.cons_cons _ List.Sublist.slnil)))) (OldAll.box OldAll.nil)) (by kernel_rfl) (fun _ _ => by kernel_rfl) ?_
                  refine TA.all [13] (by kernel_rfl) rfl ⟨?_, trivial⟩
                  refine TA.br rfl (W1.store 2 [.slice A7 r4.1.pages.length c7, .slice A8 r4.1.writes.length c8, .slice A9 ((([] : List DDisk) ++ [r4.1]).length) c9] [row 25 (eAt w eDisk) A9 c9 (([] : List DDisk) ++ [r4.1]), box b4 25 [.slice A7 r4.1.pages.length c7, .slice A8 r4.1.writes.length c8], box b3 104 [.slice A7 r4.1.pages.length c7, .slice A8 r4.1.writes.length c8, .slice A9 ((([] : List DDisk) ++ [r4.1]).length) c9], box b1 25 [.slice A1 p0.pages.length c1, .slice A2 p0.writes.length c2]] (by rfl) rfl (by kernel_rfl) (fun w' hw => exec_store (vs := [.slice A9 ((([] : List DDisk) ++ [r4.1]).length) c9]) rfl rfl rfl rfl (by kernel_rfl) (one_of rfl) (by simp) rfl hw) ?_)
                  refine TA.on (Hp.old (View.le_refl _) (View.le_trans (View.le_trans (View.le_trans hV1 hV2) hV4) hV7) (.cons _ (.cons _ (.cons _ (.cons_cons _ List.Sublist.slnil)))) (OldAll.box OldAll.nil)) ?_
                  refine TA.done (by kernel_rfl) ?_
                  exact fun a w' hf hh => Exists.intro A9 (Exists.intro c9 (And.intro (Fr.nil hf) (hh.sub (.cons_cons _ (.cons _ (.cons_cons _ (.cons _ List.Sublist.slnil)))))))
                ·
                  refine TA.br rfl (W1.new 25 [.slice A7 r4.1.pages.length c7, .slice A8 r4.1.writes.length c8] (fun b => .slice (some ⟨b, 0, none⟩) 1 1) (by kernel_rfl) (fun _ => by kernel_rfl) (fun b4 => ?_))
                  refine TA.on (Hp.old (View.le_refl _) (View.le_trans (View.le_trans (View.le_trans hV1 hV2) hV4) hV7) (.cons _ (.cons _ (.cons_cons _ List.Sublist.slnil))) (OldAll.box OldAll.nil)) ?_
                  refine TA.all [4] (by kernel_rfl) rfl ⟨?_, trivial⟩
                  refine TA.br rfl (W1.look (.slice none 0 0) (by kernel_rfl) (fun w' hh => exec_load1 rfl rfl (by kernel_rfl) (hh.cellBox (i := 1) (by rfl) 2)) ?_)
                  refine TA.on (Hp.old (View.le_refl _) (View.le_trans (View.le_trans (View.le_trans hV1 hV2) hV4) hV7) (.cons _ (.cons _ (.cons_cons _ List.Sublist.slnil))) (OldAll.box OldAll.nil)) ?_
                  refine TA.all [10] (by kernel_rfl) rfl ⟨?_, trivial⟩
                  refine TA.br rfl (W1.rownil 25 (eAt w eDisk) ?_)
                  obtain ⟨hb6_r, hb6_m, rfl⟩ := grow_some hb6
                  obtain ⟨ti, hti, hz1, hz2, hz3⟩ := info_parts (P := Try.prog) (e := 25) (z := .agg #[.slice none 0 0, .slice none 0 0]) (size := 2) (bytes := 48) (by kernel_rfl)
                  refine  (W1.append (E := (eAt w eDisk)) (l := ([] : List DDisk)) (m := [r4.1]) 0 _ _ 48 ti _ (by rfl) (by kernel_rfl) rfl (by kernel_rfl) hti hz1 hz2 hz3 rfl (Nat.le_of_ble_eq_true rfl) rfl rfl (fun w' hh => (src_one (E := (eAt w eDisk)) hh (i := 1) (by rfl) ⟨A7, c7, A8, c8, rfl, (SlOk.mono hs6 (made_mono (View.le_refl _))), (SlOk.mono hs7 (made_mono (View.le_refl _)))⟩)) hb6_r hb6_m (fun A9 c9 => ?_))
                  refine TA.on (Hp.old (View.le_refl _) (View.le_trans (View.le_trans (View.le_trans hV1 hV2) hV4) hV7) (.cons _ (.cons _ (.cons _ (.cons_cons _ List.Sublist.slnil)))) (OldAll.box OldAll.nil)) ?_
                  refine TA.take 11 (.pointer (some ⟨b3, 0, none⟩)) rfl (by kernel_rfl) (by kernel_rfl) (by kernel_rfl) (fun _ _ _ h => h) (Hp.old (View.le_refl _) (View.le_trans (View.le_trans (View.le_trans hV1 hV2) hV4) hV7) (.cons _ (.cons _ (.cons _ (.cons_cons _ List.Sublist.slnil)))) (OldAll.box OldAll.nil)) (by kernel_rfl) (fun _ _ => by kernel_rfl) ?_
                  refine TA.take 12 (.pointer (some ⟨b3, 2, none⟩)) rfl (by kernel_rfl) (by kernel_rfl) (by kernel_rfl) (fun _ _ _ h => h) (Hp.old (View.le_refl _) (View.le_trans (View.le_trans (View.le_trans hV1 hV2) hV4) hV7) (.cons _ (.cons _ (.cons _ (.cons_cons _ List.Sublist.slnil)))) (OldAll.box OldAll.nil)) (by kernel_rfl) (fun _ _ => by kernel_rfl) ?_
                  refine TA.all [13] (by kernel_rfl) rfl ⟨?_, trivial⟩
                  refine TA.br rfl (W1.store 2 [.slice A7 r4.1.pages.length c7, .slice A8 r4.1.writes.length c8, .slice A9 ((([] : List DDisk) ++ [r4.1]).length) c9] [row 25 (eAt w eDisk) A9 c9 (([] : List DDisk) ++ [r4.1]), box b4 25 [.slice A7 r4.1.pages.length c7, .slice A8 r4.1.writes.length c8], box b3 104 [.slice A7 r4.1.pages.length c7, .slice A8 r4.1.writes.length c8, .slice A9 ((([] : List DDisk) ++ [r4.1]).length) c9], box b1 25 [.slice A1 p0.pages.length c1, .slice A2 p0.writes.length c2]] (by rfl) rfl (by kernel_rfl) (fun w' hw => exec_store (vs := [.slice A9 ((([] : List DDisk) ++ [r4.1]).length) c9]) rfl rfl rfl rfl (by kernel_rfl) (one_of rfl) (by simp) rfl hw) ?_)
                  refine TA.on (Hp.old (View.le_refl _) (View.le_trans (View.le_trans (View.le_trans hV1 hV2) hV4) hV7) (.cons _ (.cons _ (.cons _ (.cons_cons _ List.Sublist.slnil)))) (OldAll.box OldAll.nil)) ?_
                  refine TA.done (by kernel_rfl) ?_
                  exact fun a w' hf hh => Exists.intro A9 (Exists.intro c9 (And.intro (Fr.nil hf) (hh.sub (.cons_cons _ (.cons _ (.cons_cons _ (.cons _ List.Sublist.slnil)))))))
            ·
              rintro a w' ⟨A10, c10, hf, hh⟩
              refine (?_ : T 26 w V7 [row 25 (eAt w eDisk) A10 c10 (([] : List DDisk) ++ [r4.1]), box b3 104 [.slice A7 r4.1.pages.length c7, .slice A8 r4.1.writes.length c8, .slice A10 ((([] : List DDisk) ++ [r4.1]).length) c10]] [] _) a w' hf hh
              clear hf hh
              cases hX1
              exact T.end0 rfl fun w' hh => ⟨_, rfl, Exists.intro (([] : List DDisk) ++ [r4.1]) (Exists.intro r4.1.pages (Exists.intro r4.1.writes (And.intro rfl (Exists.intro A10 (Exists.intro c10 (Exists.intro A7 (Exists.intro c7 (Exists.intro A8 (Exists.intro c8 (Exists.intro V7 (And.intro hV7 (And.intro (SlOk.mono hs6 (made_mono (View.le_refl _))) (And.intro (SlOk.mono hs7 (made_mono (View.le_refl _))) (And.intro rfl (hh.sub (.cons_cons _ (.cons_cons _ List.Sublist.slnil)))))))))))))))))⟩
          ·
            rintro v w' ⟨z1, z2, z3, rfl, A4, c4, A5, c5, A6, c6, V6, hV6, hs4, hs5, rfl, hh⟩
            try dsimp only at hF
            refine ⟨V6, [row 25 (eAt w eDisk) A4 c4 z1, box b3 104 [.slice A5 z2.length c5, .slice A6 z3.length c6, .slice A4 z1.length c4]], hh, ?_⟩
            clear hh
            refine T.nil ?_
            refine T.seq ?_
            refine T.seq ?_
            refine T.region ?_
            refine T.pure (.slice A3 p2.length c3) (by kernel_rfl) (fun _ => by kernel_rfl) ?_
            refine T.pure (.int .i64 (p2.length : Int)) (by kernel_rfl) (fun _ => by kernel_rfl) ?_
            refine T.pure (.int .i64 0) (by kernel_rfl) (fun _ => by kernel_rfl) ?_
            refine T.nil ?_
            obtain ⟨q3, hz2, hF⟩ := Option.bind_eq_some_iff.1 hF
            refine T.mid (fun a w' => ∃ (z4 : List DDisk) (z5 : List ByteArray) (z6 : List DWrite), q3 = (z4, z5, z6) ∧ ∃ (A14 : Option Addr) (c14 : Nat) (A15 : Option Addr) (c15 : Nat) (A16 : Option Addr) (c16 : Nat) (V9 : View), View.le V6 V9 ∧ SlOk (made w V9) eStr A15 c15 z5 ∧ SlOk (made w V9) eWrite A16 c16 z6 ∧ Fr 124 [(1, .string p1), (2, .slice A3 p2.length c3), (8, .int .i64 r1.1), (14, .pointer (some ⟨b3, 0, none⟩))] a ∧ Hp w V9 [row 25 (eAt w eDisk) A14 c14 z4, box b3 104 [.slice A15 z5.length c15, .slice A16 z6.length c16, .slice A14 z4.length c14]] w') ?_ ?_
            ·
              refine T.block ?_
              refine T.iter (fun s1 a w' => ∃ (x2 : List DDisk) (x3 : List ByteArray) (x4 : List DWrite) (x5 : Int), s1 = (x2, x3, x4, x5) ∧ ∃ (A11 : Option Addr) (c11 : Nat) (A12 : Option Addr) (c12 : Nat) (A13 : Option Addr) (c13 : Nat) (V8 : View), View.le V6 V8 ∧ SlOk (made w V8) eStr A12 c12 x3 ∧ SlOk (made w V8) eWrite A13 c13 x4 ∧ Fr 124 [(1, .string p1), (2, .slice A3 p2.length c3), (8, .int .i64 r1.1), (14, .pointer (some ⟨b3, 0, none⟩)), (58, .slice A3 p2.length c3), (59, .int .i64 (p2.length : Int)), (60, .int .i64 x5)] a ∧ Hp w V8 [row 25 (eAt w eDisk) A11 c11 x2, box b3 104 [.slice A12 x3.length c12, .slice A13 x4.length c13, .slice A11 x2.length c11]] w') hz2 ?_ ?_
              ·
                exact fun a w' hf hh => Exists.intro z1 (Exists.intro z2 (Exists.intro z3 (Exists.intro 0 (And.intro rfl (Exists.intro A4 (Exists.intro c4 (Exists.intro A5 (Exists.intro c5 (Exists.intro A6 (Exists.intro c6 (Exists.intro V6 (And.intro (View.le_refl _) (And.intro (SlOk.mono hs4 (made_mono (View.le_refl _))) (And.intro (SlOk.mono hs5 (made_mono (View.le_refl _))) (And.intro ((((((((Fr.nil hf).pick hf 60 rfl).pick hf 59 rfl).pick hf 58 rfl).pick hf 14 rfl).pick hf 8 rfl).pick hf 2 rfl).pick hf 1 rfl) (hh.sub (.cons_cons _ (.cons_cons _ List.Sublist.slnil))))))))))))))))))
              ·
                rintro s1 y3 hY2 hr3 a w' ⟨x2, x3, x4, x5, rfl, A11, c11, A12, c12, A13, c13, V8, hV8, hs8, hs9, hf, hh⟩
                refine (?_ : T 124 w V8 [row 25 (eAt w eDisk) A11 c11 x2, box b3 104 [.slice A12 x3.length c12, .slice A13 x4.length c13, .slice A11 x2.length c11]] [(1, .string p1), (2, .slice A3 p2.length c3), (8, .int .i64 r1.1), (14, .pointer (some ⟨b3, 0, none⟩)), (58, .slice A3 p2.length c3), (59, .int .i64 (p2.length : Int)), (60, .int .i64 x5)] _) a w' hf hh
                clear hf hh
                try dsimp only at hY2
                refine T.seq ?_
                refine T.region ?_
                refine T.pure (.bool (decide (x5 < (p2.length : Int)))) (by kernel_rfl) (fun _ => by kernel_rfl) ?_
                refine T.nil ?_
                refine T.seq ?_
                refine T.cond (decide (x5 < (p2.length : Int))) (by kernel_rfl) (by kernel_rfl) (fun hc6 => ?_) (fun hc6 => ?_)
                ·
                  rw [hc6, cond_true] at hY2
                  refine T.skip_code ?_
                  refine T.seq ?_
                  refine T.block ?_
                  refine T.seq ?_
                  refine T.region ?_
                  refine T.pure (.int .i64 x5) (by kernel_rfl) (fun _ => by kernel_rfl) ?_
                  obtain ⟨e2, hb7, hY2⟩ := Option.bind_eq_some_iff.1 hY2
                  obtain ⟨hi4, hi5, hi6⟩ := idx_some hb7
                  refine T.look (.pointer (some ((sadr A3).add (x5.toNat * 2)))) (by kernel_rfl) (fun w' hh => exec_indexAddr (e := 52) (s := 2) rfl rfl rfl (by kernel_rfl) (by kernel_rfl) hi4 hi5 ((SlOk.mono hs3 (View.le_trans (View.le_trans (View.le_trans (View.le_trans hV1 hV2) hV4) hV6) hV8)).some_ hi6 (by decide))) ?_
                  refine T.look (.agg #[.int .i64 e2.page, .string e2.text]) (by kernel_rfl) (fun w' hh => exec_loadN (cs := [.int .i64 e2.page, .string e2.text]) rfl rfl (by kernel_rfl) (by kernel_rfl) (fun j u hj => (hh.cell_view (SlOk.cellF (E := eWrite) (SlOk.mono hs3 (View.le_trans (View.le_trans (View.le_trans (View.le_trans hV1 hV2) hV4) hV6) hV8)) hi6 j (fun _ _ _ h => h) hj)))) ?_
                  refine T.step (W1.new 52 [.int .i64 0, .string (ByteArray.mk #[])] (fun b => .pointer (some ⟨b, 0, none⟩)) (by kernel_rfl) (fun _ => by kernel_rfl) (fun b5 => ?_))
                  refine T.pure (.int .i64 x5) (by kernel_rfl) (fun _ => by kernel_rfl) ?_
                  refine T.step (W1.store 0 [.int .i64 e2.page, .string e2.text] [box b5 52 [.int .i64 e2.page, .string e2.text], row 25 (eAt w eDisk) A11 c11 x2, box b3 104 [.slice A12 x3.length c12, .slice A13 x4.length c13, .slice A11 x2.length c11]] (by rfl) rfl (by kernel_rfl) (fun w' hw => exec_store (vs := [.int .i64 e2.page, .string e2.text]) rfl rfl rfl rfl (by kernel_rfl) (one_of rfl) (by simp) rfl hw) ?_)
                  refine T.nil ?_
                  refine T.seq ?_
                  refine T.quiet (by kernel_rfl) (by kernel_rfl) ?_
                  refine TQ.pure (.int .i64 r1.1) (by kernel_rfl) (fun _ => by kernel_rfl) ?_
                  refine TQ.pure (.int .i64 (IntKind.i64.wrap (r1.1 + 1))) (by kernel_rfl) (fun _ => by kernel_rfl) ?_
                  obtain ⟨r6, hb8, hY2⟩ := Option.bind_eq_some_iff.1 hY2
                  refine TQ.call (vSc eStr) r6 49 #[.int .i64 (IntKind.i64.wrap (r1.1 + 1))] (.string r6) (fun V u hu => sureStr V u _ hu) (by kernel_rfl) (fun _ => by kernel_rfl) (fun w' hh => undo_four_l F (IntKind.i64.wrap (r1.1 + 1)) r6 hb8 w' ) ?_
                  refine TQ.pure (.pointer (some ⟨b5, 0, none⟩)) (by kernel_rfl) (fun _ => by kernel_rfl) ?_
                  refine TQ.look (.int .i64 e2.page) (by kernel_rfl) (fun w' hh => exec_load1 rfl rfl (by kernel_rfl) (hh.cellBox (i := 0) (by rfl) 0)) ?_
                  obtain ⟨r7, hb9, hY2⟩ := Option.bind_eq_some_iff.1 hY2
                  refine TQ.call (vSc eStr) r7 49 #[.int .i64 e2.page] (.string r7) (fun V u hu => sureStr V u _ hu) (by kernel_rfl) (fun _ => by kernel_rfl) (fun w' hh => undo_four_l F e2.page r7 hb9 w' ) ?_
                  obtain ⟨s2, hb10, hY2⟩ := Option.bind_eq_some_iff.1 hY2
                  refine TQ.look (.string s2) (by kernel_rfl) (fun w' hh => exec_scat rfl rfl rfl hb10) ?_
                  refine TQ.pure (.pointer (some ⟨b3, 0, none⟩)) (by kernel_rfl) (fun _ => by kernel_rfl) ?_
                  refine TQ.pure (.pointer (some ⟨b3, 0, none⟩)) (by kernel_rfl) (fun _ => by kernel_rfl) ?_
                  refine TQ.pure (.pointer (some ⟨b3, 0, none⟩)) (by kernel_rfl) (fun _ => by kernel_rfl) ?_
                  refine TQ.look (.agg #[.slice A12 x3.length c12, .slice A13 x4.length c13]) (by kernel_rfl) (fun w' hh => exec_loadN (cs := [.slice A12 x3.length c12, .slice A13 x4.length c13]) rfl rfl (by kernel_rfl) (by kernel_rfl) (fun j u hj => (hh.box_at (i := 2) (cs := [.slice A12 x3.length c12, .slice A13 x4.length c13, .slice A11 x2.length c11]) (by rfl) 0 j).trans (seg_at (n := 2) (by rfl) hj))) ?_
                  refine TQ.pure (.pointer (some ⟨b5, 0, none⟩)) (by kernel_rfl) (fun _ => by kernel_rfl) ?_
                  refine TQ.look (.int .i64 e2.page) (by kernel_rfl) (fun w' hh => exec_load1 rfl rfl (by kernel_rfl) (hh.cellBox (i := 0) (by rfl) 0)) ?_
                  obtain ⟨r8, hb11, hY2⟩ := Option.bind_eq_some_iff.1 hY2
                  refine TQ.call (vSc eStr) r8 51 #[.agg #[.slice A12 x3.length c12, .slice A13 x4.length c13], .int .i64 e2.page] (.string r8) (fun V u hu => sureStr V u _ hu) (by kernel_rfl) (fun _ => by kernel_rfl) (fun w' hh => disk_Seen_l F (DDisk.mk x3 x4) e2.page r8 hb11 w' A12 c12 (SlOk.mono (SlOk.mono hs8 (View.le_trans (made_le _ _) (View.le_refl _))) hh.view) A13 c13 (SlOk.mono (SlOk.mono hs9 (View.le_trans (made_le _ _) (View.le_refl _))) hh.view)) ?_
                  obtain ⟨s3, hb12, hY2⟩ := Option.bind_eq_some_iff.1 hY2
                  refine TQ.look (.string s3) (by kernel_rfl) (fun w' hh => exec_scat rfl rfl rfl hb12) ?_
                  refine TQ.pure (.agg #[.int .i64 9, .string s3]) (by kernel_rfl) (fun _ => by kernel_rfl) ?_
                  obtain ⟨r9, hb13, hY2⟩ := Option.bind_eq_some_iff.1 hY2
                  refine TQ.call (vT2 (vSc eStr) (vSc eInt)) r9 48 #[.agg #[.int .i64 9, .string s3]] (.tuple #[.string r9.1, .int .i64 r9.2]) (fun V u hu => (Sure.t2 sureStr sureInt) V u _ hu) (by kernel_rfl) (fun _ => by kernel_rfl) (fun w' hh => frame_Put_l F (DFrame.mk 9 s3) r9 hb13 w' ) ?_
                  refine TQ.pure (.tuple #[.string r9.1, .int .i64 r9.2]) (by kernel_rfl) (fun _ => by kernel_rfl) ?_
                  refine TQ.pure (.string r9.1) (by kernel_rfl) (fun _ => by kernel_rfl) ?_
                  refine TQ.pure (.int .i64 r9.2) (by kernel_rfl) (fun _ => by kernel_rfl) ?_
                  refine TQ.pure (.string r9.1) (by kernel_rfl) (fun _ => by kernel_rfl) ?_
                  refine TQ.pure (.int .i64 r9.2) (by kernel_rfl) (fun _ => by kernel_rfl) ?_
                  refine TQ.nil ?_
                  refine T.region ?_
                  refine T.pure (.pointer (some ⟨b3, 0, none⟩)) (by kernel_rfl) (fun _ => by kernel_rfl) ?_
                  refine T.pure (.int .i64 x5) (by kernel_rfl) (fun _ => by kernel_rfl) ?_
                  refine T.pure (.int .i64 (IntKind.i64.wrap (101 + x5))) (by kernel_rfl) (fun _ => by kernel_rfl) ?_
                  refine T.pure (.string r9.1) (by kernel_rfl) (fun _ => by kernel_rfl) ?_
                  obtain ⟨q4, hX2, hY2⟩ := Option.bind_eq_some_iff.1 hY2
                  refine T.step (W1.within 53 [.pointer (some ⟨b3, 0, none⟩), .int .i64 (IntKind.i64.wrap (101 + x5)), .string r9.1] (fun v w' => ∃ (z7 : List DDisk) (z8 : List ByteArray) (z9 : List DWrite), q4 = (z7, z8, z9) ∧ ∃ (A17 : Option Addr) (c17 : Nat) (A18 : Option Addr) (c18 : Nat) (A19 : Option Addr) (c19 : Nat) (V10 : View), View.le V8 V10 ∧ SlOk (made w V10) eStr A18 c18 z8 ∧ SlOk (made w V10) eWrite A19 c19 z9 ∧ v = .tuple #[] ∧ Hp w V10 [row 25 (eAt w eDisk) A17 c17 z7, box b3 104 [.slice A18 z8.length c18, .slice A19 z9.length c19, .slice A17 z7.length c17]] w') Try.func53 rfl rfl (by kernel_rfl) (fun _ => by kernel_rfl) rfl ?_ ?_)
                  ·
                    refine T.seq ?_
                    refine T.region ?_
                    refine T.pure (.pointer (some ⟨b3, 0, none⟩)) (by kernel_rfl) (fun _ => by kernel_rfl) ?_
                    refine T.pure (.pointer (some ⟨b3, 0, none⟩)) (by kernel_rfl) (fun _ => by kernel_rfl) ?_
                    refine T.pure (.pointer (some ⟨b3, 0, none⟩)) (by kernel_rfl) (fun _ => by kernel_rfl) ?_
                    refine T.pure (.pointer (some ⟨b3, 0, none⟩)) (by kernel_rfl) (fun _ => by kernel_rfl) ?_
                    refine T.look (.agg #[.slice A12 x3.length c12, .slice A13 x4.length c13]) (by kernel_rfl) (fun w' hh => exec_loadN (cs := [.slice A12 x3.length c12, .slice A13 x4.length c13]) rfl rfl (by kernel_rfl) (by kernel_rfl) (fun j u hj => (hh.box_at (i := 2) (cs := [.slice A12 x3.length c12, .slice A13 x4.length c13, .slice A11 x2.length c11]) (by rfl) 0 j).trans (seg_at (n := 2) (by rfl) hj))) ?_
                    refine T.pure (.int .i64 (IntKind.i64.wrap (101 + x5))) (by kernel_rfl) (fun _ => by kernel_rfl) ?_
                    refine T.pure (.string r9.1) (by kernel_rfl) (fun _ => by kernel_rfl) ?_
                    obtain ⟨r10, hb14, hX2⟩ := Option.bind_eq_some_iff.1 hX2
                    refine T.step (W1.call (vT2 (vAg eDisk) (vSc eInt)) r10 83 #[.agg #[.slice A12 x3.length c12, .slice A13 x4.length c13], .int .i64 (IntKind.i64.wrap (101 + x5)), .string r9.1] (by kernel_rfl) (fun _ => by kernel_rfl) (fun w' hh => disk_Put_l F (DDisk.mk x3 x4) (IntKind.i64.wrap (101 + x5)) r9.1 r10 hb14 w' A12 c12 (SlOk.mono (SlOk.mono hs8 (View.le_trans (made_le _ _) (View.le_refl _))) hh.view) A13 c13 (SlOk.mono (SlOk.mono hs9 (View.le_trans (made_le _ _) (View.le_refl _))) hh.view)) ?_)
                    intro u V11 hV11 hu
                    obtain ⟨u3, u4, rfl, hu3, hu4⟩ := vT2_elim hu
                    obtain ⟨cs2, rfl, hr4⟩ := vagg_elim hu3
                    obtain ⟨A20, c20, A21, c21, rfl, hs14, hs15⟩ := hr4
                    obtain rfl := sureInt _ _ _ hu4
                    refine T.pure (.tuple #[.agg #[.slice A20 r10.1.pages.length c20, .slice A21 r10.1.writes.length c21], .int .i64 r10.2]) (by kernel_rfl) (fun _ => by kernel_rfl) ?_
                    refine T.pure (.agg #[.slice A20 r10.1.pages.length c20, .slice A21 r10.1.writes.length c21]) (by kernel_rfl) (fun _ => by kernel_rfl) ?_
                    refine T.pure (.int .i64 r10.2) (by kernel_rfl) (fun _ => by kernel_rfl) ?_
                    refine T.pure (.pointer (some ⟨b3, 0, none⟩)) (by kernel_rfl) (fun _ => by kernel_rfl) ?_
                    refine T.pure (.pointer (some ⟨b3, 0, none⟩)) (by kernel_rfl) (fun _ => by kernel_rfl) ?_
                    refine T.step (W1.store 2 [.slice A20 r10.1.pages.length c20, .slice A21 r10.1.writes.length c21, .slice A11 x2.length c11] [box b5 52 [.int .i64 e2.page, .string e2.text], row 25 (eAt w eDisk) A11 c11 x2, box b3 104 [.slice A20 r10.1.pages.length c20, .slice A21 r10.1.writes.length c21, .slice A11 x2.length c11]] (by rfl) rfl (by kernel_rfl) (fun w' hw => exec_store (vs := [.slice A20 r10.1.pages.length c20, .slice A21 r10.1.writes.length c21]) rfl rfl rfl rfl (by kernel_rfl) (one_of rfl) (by simp) rfl hw) ?_)
                    refine T.nil ?_
                    obtain ⟨y4, hb15, hX2⟩ := Option.bind_eq_some_iff.1 hX2
                    refine T.mid (fun a w' => ∃ (A23 : Option Addr) (c23 : Nat), Fr 32 [] a ∧ Hp w V11 [row 25 (eAt w eDisk) A23 c23 (x2 ++ [r10.1]), box b3 104 [.slice A20 r10.1.pages.length c20, .slice A21 r10.1.writes.length c21, .slice A23 ((x2 ++ [r10.1]).length) c23]] w') ?_ ?_
                    ·
                      refine T.held [box b5 52 [.int .i64 e2.page, .string e2.text]] (by kernel_rfl) ?_
                      refine TA.take 0 (.pointer (some ⟨b3, 0, none⟩)) rfl (by kernel_rfl) (by kernel_rfl) (by kernel_rfl) (fun _ _ _ h => h) (Hp.old (View.le_refl _) (View.le_trans (View.le_trans (View.le_trans (View.le_trans (View.le_trans hV1 hV2) hV4) hV6) hV8) hV11) (.cons_cons _ (.cons _ (.cons _ List.Sublist.slnil))) (OldAll.box OldAll.nil)) (by kernel_rfl) (fun _ _ => by kernel_rfl) ?_
                      refine TA.take 1 (.pointer (some ⟨b3, 0, none⟩)) rfl (by kernel_rfl) (by kernel_rfl) (by kernel_rfl) (fun _ _ _ h => h) (Hp.old (View.le_refl _) (View.le_trans (View.le_trans (View.le_trans (View.le_trans (View.le_trans hV1 hV2) hV4) hV6) hV8) hV11) (.cons_cons _ (.cons _ (.cons _ List.Sublist.slnil))) (OldAll.box OldAll.nil)) (by kernel_rfl) (fun _ _ => by kernel_rfl) ?_
                      refine TA.take 2 (.pointer (some ⟨b3, 0, none⟩)) rfl (by kernel_rfl) (by kernel_rfl) (by kernel_rfl) (fun _ _ _ h => h) (Hp.old (View.le_refl _) (View.le_trans (View.le_trans (View.le_trans (View.le_trans (View.le_trans hV1 hV2) hV4) hV6) hV8) hV11) (.cons_cons _ (.cons _ (.cons _ List.Sublist.slnil))) (OldAll.box OldAll.nil)) (by kernel_rfl) (fun _ _ => by kernel_rfl) ?_
                      refine TA.take 3 (.pointer (some ⟨b3, 2, none⟩)) rfl (by kernel_rfl) (by kernel_rfl) (by kernel_rfl) (fun _ _ _ h => h) (Hp.old (View.le_refl _) (View.le_trans (View.le_trans (View.le_trans (View.le_trans (View.le_trans hV1 hV2) hV4) hV6) hV8) hV11) (.cons_cons _ (.cons _ (.cons _ List.Sublist.slnil))) (OldAll.box OldAll.nil)) (by kernel_rfl) (fun _ _ => by kernel_rfl) ?_
                      refine TA.take 5 (.pointer (some ⟨b3, 0, none⟩)) rfl (by kernel_rfl) (by kernel_rfl) (by kernel_rfl) (fun _ _ _ h => h) (Hp.old (View.le_refl _) (View.le_trans (View.le_trans (View.le_trans (View.le_trans (View.le_trans hV1 hV2) hV4) hV6) hV8) hV11) (.cons_cons _ (.cons _ (.cons _ List.Sublist.slnil))) (OldAll.box OldAll.nil)) (by kernel_rfl) (fun _ _ => by kernel_rfl) ?_
                      refine TA.take 6 (.pointer (some ⟨b3, 0, none⟩)) rfl (by kernel_rfl) (by kernel_rfl) (by kernel_rfl) (fun _ _ _ h => h) (Hp.old (View.le_refl _) (View.le_trans (View.le_trans (View.le_trans (View.le_trans (View.le_trans hV1 hV2) hV4) hV6) hV8) hV11) (.cons_cons _ (.cons _ (.cons _ List.Sublist.slnil))) (OldAll.box OldAll.nil)) (by kernel_rfl) (fun _ _ => by kernel_rfl) ?_
                      refine TA.take 7 (.pointer (some ⟨b3, 0, none⟩)) rfl (by kernel_rfl) (by kernel_rfl) (by kernel_rfl) (fun _ _ _ h => h) (Hp.old (View.le_refl _) (View.le_trans (View.le_trans (View.le_trans (View.le_trans (View.le_trans hV1 hV2) hV4) hV6) hV8) hV11) (.cons_cons _ (.cons _ (.cons _ List.Sublist.slnil))) (OldAll.box OldAll.nil)) (by kernel_rfl) (fun _ _ => by kernel_rfl) ?_
                      refine TA.all [4, 8] (by kernel_rfl) rfl ⟨?_, ?_, trivial⟩
                      ·
                        refine TA.br rfl (W1.look (.slice A11 x2.length c11) (by kernel_rfl) (fun w' hh => exec_load1 rfl rfl (by kernel_rfl) (hh.cellBox (i := 2) (by rfl) 2)) ?_)
                        refine TA.on (Hp.old (View.le_refl _) (View.le_trans (View.le_trans (View.le_trans (View.le_trans (View.le_trans hV1 hV2) hV4) hV6) hV8) hV11) (.cons_cons _ (.cons _ (.cons _ List.Sublist.slnil))) (OldAll.box OldAll.nil)) ?_
                        refine TA.all [8] (by kernel_rfl) rfl ⟨?_, trivial⟩
                        refine TA.br rfl (W1.look (.agg #[.slice A20 r10.1.pages.length c20, .slice A21 r10.1.writes.length c21]) (by kernel_rfl) (fun w' hh => exec_loadN (cs := [.slice A20 r10.1.pages.length c20, .slice A21 r10.1.writes.length c21]) rfl rfl (by kernel_rfl) (by kernel_rfl) (fun j u hj => (hh.box_at (i := 2) (cs := [.slice A20 r10.1.pages.length c20, .slice A21 r10.1.writes.length c21, .slice A11 x2.length c11]) (by rfl) 0 j).trans (seg_at (n := 2) (by rfl) hj))) ?_)
                        refine TA.on (Hp.old (View.le_refl _) (View.le_trans (View.le_trans (View.le_trans (View.le_trans (View.le_trans hV1 hV2) hV4) hV6) hV8) hV11) (.cons_cons _ (.cons _ (.cons _ List.Sublist.slnil))) (OldAll.box OldAll.nil)) ?_
                        refine TA.all [9] (by kernel_rfl) rfl ⟨?_, trivial⟩
                        refine TA.br rfl (W1.new 25 [.slice A20 r10.1.pages.length c20, .slice A21 r10.1.writes.length c21] (fun b => .slice (some ⟨b, 0, none⟩) 1 1) (by kernel_rfl) (fun _ => by kernel_rfl) (fun b6 => ?_))
                        refine TA.on (Hp.old (View.le_refl _) (View.le_trans (View.le_trans (View.le_trans (View.le_trans (View.le_trans hV1 hV2) hV4) hV6) hV8) hV11) (.cons _ (.cons_cons _ (.cons _ (.cons _ List.Sublist.slnil)))) (OldAll.box OldAll.nil)) ?_
                        refine TA.all [10] (by kernel_rfl) rfl ⟨?_, trivial⟩
                        obtain ⟨hb15_r, hb15_m, rfl⟩ := grow_some hb15
                        obtain ⟨ti, hti, hz1, hz2, hz3⟩ := info_parts (P := Try.prog) (e := 25) (z := .agg #[.slice none 0 0, .slice none 0 0]) (size := 2) (bytes := 48) (by kernel_rfl)
                        refine TA.br rfl (W1.append (E := (eAt w eDisk)) (l := x2) (m := [r10.1]) 2 _ _ 48 ti _ (by rfl) (by kernel_rfl) rfl (by kernel_rfl) hti hz1 hz2 hz3 rfl (Nat.le_of_ble_eq_true rfl) rfl rfl (fun w' hh => (src_one (E := (eAt w eDisk)) hh (i := 0) (by rfl) ⟨A20, c20, A21, c21, rfl, (SlOk.mono hs14 (made_mono (View.le_refl _))), (SlOk.mono hs15 (made_mono (View.le_refl _)))⟩)) hb15_r hb15_m (fun A22 c22 => ?_))
                        refine TA.on (Hp.old (View.le_refl _) (View.le_trans (View.le_trans (View.le_trans (View.le_trans (View.le_trans hV1 hV2) hV4) hV6) hV8) hV11) (.cons _ (.cons_cons _ (.cons _ (.cons _ List.Sublist.slnil)))) (OldAll.box OldAll.nil)) ?_
                        refine TA.take 11 (.pointer (some ⟨b3, 0, none⟩)) rfl (by kernel_rfl) (by kernel_rfl) (by kernel_rfl) (fun _ _ _ h => h) (Hp.old (View.le_refl _) (View.le_trans (View.le_trans (View.le_trans (View.le_trans (View.le_trans hV1 hV2) hV4) hV6) hV8) hV11) (.cons _ (.cons_cons _ (.cons _ (.cons _ List.Sublist.slnil)))) (OldAll.box OldAll.nil)) (by kernel_rfl) (fun _ _ => by kernel_rfl) ?_
                        refine TA.take 12 (.pointer (some ⟨b3, 2, none⟩)) rfl (by kernel_rfl) (by kernel_rfl) (by kernel_rfl) (fun _ _ _ h => h) (Hp.old (View.le_refl _) (View.le_trans (View.le_trans (View.le_trans (View.le_trans (View.le_trans hV1 hV2) hV4) hV6) hV8) hV11) (.cons _ (.cons_cons _ (.cons _ (.cons _ List.Sublist.slnil)))) (OldAll.box OldAll.nil)) (by kernel_rfl) (fun _ _ => by kernel_rfl) ?_
                        refine TA.all [13] (by kernel_rfl) rfl ⟨?_, trivial⟩
                        refine TA.br rfl (W1.store 3 [.slice A20 r10.1.pages.length c20, .slice A21 r10.1.writes.length c21, .slice A22 ((x2 ++ [r10.1]).length) c22] [box b6 25 [.slice A20 r10.1.pages.length c20, .slice A21 r10.1.writes.length c21], box b5 52 [.int .i64 e2.page, .string e2.text], row 25 (eAt w eDisk) A22 c22 (x2 ++ [r10.1]), box b3 104 [.slice A20 r10.1.pages.length c20, .slice A21 r10.1.writes.length c21, .slice A22 ((x2 ++ [r10.1]).length) c22]] (by rfl) rfl (by kernel_rfl) (fun w' hw => exec_store (vs := [.slice A22 ((x2 ++ [r10.1]).length) c22]) rfl rfl rfl rfl (by kernel_rfl) (one_of rfl) (by simp) rfl hw) ?_)
                        refine TA.on (Hp.old (View.le_refl _) (View.le_trans (View.le_trans (View.le_trans (View.le_trans (View.le_trans hV1 hV2) hV4) hV6) hV8) hV11) (.cons _ (.cons_cons _ (.cons _ (.cons _ List.Sublist.slnil)))) (OldAll.box OldAll.nil)) ?_
                        refine TA.done (by kernel_rfl) ?_
                        exact fun a w' hf hh => Exists.intro A22 (Exists.intro c22 (And.intro (Fr.nil hf) (hh.sub (.cons _ (.cons _ (.cons_cons _ (.cons_cons _ List.Sublist.slnil)))))))
                      ·
                        refine TA.br rfl (W1.look (.agg #[.slice A20 r10.1.pages.length c20, .slice A21 r10.1.writes.length c21]) (by kernel_rfl) (fun w' hh => exec_loadN (cs := [.slice A20 r10.1.pages.length c20, .slice A21 r10.1.writes.length c21]) rfl rfl (by kernel_rfl) (by kernel_rfl) (fun j u hj => (hh.box_at (i := 2) (cs := [.slice A20 r10.1.pages.length c20, .slice A21 r10.1.writes.length c21, .slice A11 x2.length c11]) (by rfl) 0 j).trans (seg_at (n := 2) (by rfl) hj))) ?_)
                        refine TA.on (Hp.old (View.le_refl _) (View.le_trans (View.le_trans (View.le_trans (View.le_trans (View.le_trans hV1 hV2) hV4) hV6) hV8) hV11) (.cons_cons _ (.cons _ (.cons _ List.Sublist.slnil))) (OldAll.box OldAll.nil)) ?_
                        refine TA.all [4, 9] (by kernel_rfl) rfl ⟨?_, ?_, trivial⟩
                        ·
                          refine TA.br rfl (W1.look (.slice A11 x2.length c11) (by kernel_rfl) (fun w' hh => exec_load1 rfl rfl (by kernel_rfl) (hh.cellBox (i := 2) (by rfl) 2)) ?_)
                          refine TA.on (Hp.old (View.le_refl _) (View.le_trans (View.le_trans (View.le_trans (View.le_trans (View.le_trans hV1 hV2) hV4) hV6) hV8) hV11) (.cons_cons _ (.cons _ (.cons _ List.Sublist.slnil))) (OldAll.box OldAll.nil)) ?_
                          refine TA.all [9] (by kernel_rfl) rfl ⟨?_, trivial⟩
                          refine TA.br rfl (W1.new 25 [.slice A20 r10.1.pages.length c20, .slice A21 r10.1.writes.length c21] (fun b => .slice (some ⟨b, 0, none⟩) 1 1) (by kernel_rfl) (fun _ => by kernel_rfl) (fun b6 => ?_))
                          refine TA.on (Hp.old (View.le_refl _) (View.le_trans (View.le_trans (View.le_trans (View.le_trans (View.le_trans hV1 hV2) hV4) hV6) hV8) hV11) (.cons _ (.cons_cons _ (.cons _ (.cons _ List.Sublist.slnil)))) (OldAll.box OldAll.nil)) ?_
                          refine TA.all [10] (by kernel_rfl) rfl ⟨?_, trivial⟩
                          obtain ⟨hb15_r, hb15_m, rfl⟩ := grow_some hb15
                          obtain ⟨ti, hti, hz1, hz2, hz3⟩ := info_parts (P := Try.prog) (e := 25) (z := .agg #[.slice none 0 0, .slice none 0 0]) (size := 2) (bytes := 48) (by kernel_rfl)
                          refine TA.br rfl (W1.append (E := (eAt w eDisk)) (l := x2) (m := [r10.1]) 2 _ _ 48 ti _ (by rfl) (by kernel_rfl) rfl (by kernel_rfl) hti hz1 hz2 hz3 rfl (Nat.le_of_ble_eq_true rfl) rfl rfl (fun w' hh => (src_one (E := (eAt w eDisk)) hh (i := 0) (by rfl) ⟨A20, c20, A21, c21, rfl, (SlOk.mono hs14 (made_mono (View.le_refl _))), (SlOk.mono hs15 (made_mono (View.le_refl _)))⟩)) hb15_r hb15_m (fun A22 c22 => ?_))
                          refine TA.on (Hp.old (View.le_refl _) (View.le_trans (View.le_trans (View.le_trans (View.le_trans (View.le_trans hV1 hV2) hV4) hV6) hV8) hV11) (.cons _ (.cons_cons _ (.cons _ (.cons _ List.Sublist.slnil)))) (OldAll.box OldAll.nil)) ?_
                          refine TA.take 11 (.pointer (some ⟨b3, 0, none⟩)) rfl (by kernel_rfl) (by kernel_rfl) (by kernel_rfl) (fun _ _ _ h => h) (Hp.old (View.le_refl _) (View.le_trans (View.le_trans (View.le_trans (View.le_trans (View.le_trans hV1 hV2) hV4) hV6) hV8) hV11) (.cons _ (.cons_cons _ (.cons _ (.cons _ List.Sublist.slnil)))) (OldAll.box OldAll.nil)) (by kernel_rfl) (fun _ _ => by kernel_rfl) ?_
                          refine TA.take 12 (.pointer (some ⟨b3, 2, none⟩)) rfl (by kernel_rfl) (by kernel_rfl) (by kernel_rfl) (fun _ _ _ h => h) (Hp.old (View.le_refl _) (View.le_trans (View.le_trans (View.le_trans (View.le_trans (View.le_trans hV1 hV2) hV4) hV6) hV8) hV11) (.cons _ (.cons_cons _ (.cons _ (.cons _ List.Sublist.slnil)))) (OldAll.box OldAll.nil)) (by kernel_rfl) (fun _ _ => by kernel_rfl) ?_
                          refine TA.all [13] (by kernel_rfl) rfl ⟨?_, trivial⟩
                          refine TA.br rfl (W1.store 3 [.slice A20 r10.1.pages.length c20, .slice A21 r10.1.writes.length c21, .slice A22 ((x2 ++ [r10.1]).length) c22] [box b6 25 [.slice A20 r10.1.pages.length c20, .slice A21 r10.1.writes.length c21], box b5 52 [.int .i64 e2.page, .string e2.text], row 25 (eAt w eDisk) A22 c22 (x2 ++ [r10.1]), box b3 104 [.slice A20 r10.1.pages.length c20, .slice A21 r10.1.writes.length c21, .slice A22 ((x2 ++ [r10.1]).length) c22]] (by rfl) rfl (by kernel_rfl) (fun w' hw => exec_store (vs := [.slice A22 ((x2 ++ [r10.1]).length) c22]) rfl rfl rfl rfl (by kernel_rfl) (one_of rfl) (by simp) rfl hw) ?_)
                          refine TA.on (Hp.old (View.le_refl _) (View.le_trans (View.le_trans (View.le_trans (View.le_trans (View.le_trans hV1 hV2) hV4) hV6) hV8) hV11) (.cons _ (.cons_cons _ (.cons _ (.cons _ List.Sublist.slnil)))) (OldAll.box OldAll.nil)) ?_
                          refine TA.done (by kernel_rfl) ?_
                          exact fun a w' hf hh => Exists.intro A22 (Exists.intro c22 (And.intro (Fr.nil hf) (hh.sub (.cons _ (.cons _ (.cons_cons _ (.cons_cons _ List.Sublist.slnil)))))))
                        ·
                          refine TA.br rfl (W1.new 25 [.slice A20 r10.1.pages.length c20, .slice A21 r10.1.writes.length c21] (fun b => .slice (some ⟨b, 0, none⟩) 1 1) (by kernel_rfl) (fun _ => by kernel_rfl) (fun b6 => ?_))
                          refine TA.on (Hp.old (View.le_refl _) (View.le_trans (View.le_trans (View.le_trans (View.le_trans (View.le_trans hV1 hV2) hV4) hV6) hV8) hV11) (.cons _ (.cons_cons _ (.cons _ (.cons _ List.Sublist.slnil)))) (OldAll.box OldAll.nil)) ?_
                          refine TA.all [4] (by kernel_rfl) rfl ⟨?_, trivial⟩
                          refine TA.br rfl (W1.look (.slice A11 x2.length c11) (by kernel_rfl) (fun w' hh => exec_load1 rfl rfl (by kernel_rfl) (hh.cellBox (i := 3) (by rfl) 2)) ?_)
                          refine TA.on (Hp.old (View.le_refl _) (View.le_trans (View.le_trans (View.le_trans (View.le_trans (View.le_trans hV1 hV2) hV4) hV6) hV8) hV11) (.cons _ (.cons_cons _ (.cons _ (.cons _ List.Sublist.slnil)))) (OldAll.box OldAll.nil)) ?_
                          refine TA.all [10] (by kernel_rfl) rfl ⟨?_, trivial⟩
                          obtain ⟨hb15_r, hb15_m, rfl⟩ := grow_some hb15
                          obtain ⟨ti, hti, hz1, hz2, hz3⟩ := info_parts (P := Try.prog) (e := 25) (z := .agg #[.slice none 0 0, .slice none 0 0]) (size := 2) (bytes := 48) (by kernel_rfl)
                          refine TA.br rfl (W1.append (E := (eAt w eDisk)) (l := x2) (m := [r10.1]) 2 _ _ 48 ti _ (by rfl) (by kernel_rfl) rfl (by kernel_rfl) hti hz1 hz2 hz3 rfl (Nat.le_of_ble_eq_true rfl) rfl rfl (fun w' hh => (src_one (E := (eAt w eDisk)) hh (i := 0) (by rfl) ⟨A20, c20, A21, c21, rfl, (SlOk.mono hs14 (made_mono (View.le_refl _))), (SlOk.mono hs15 (made_mono (View.le_refl _)))⟩)) hb15_r hb15_m (fun A22 c22 => ?_))
                          refine TA.on (Hp.old (View.le_refl _) (View.le_trans (View.le_trans (View.le_trans (View.le_trans (View.le_trans hV1 hV2) hV4) hV6) hV8) hV11) (.cons _ (.cons_cons _ (.cons _ (.cons _ List.Sublist.slnil)))) (OldAll.box OldAll.nil)) ?_
                          refine TA.take 11 (.pointer (some ⟨b3, 0, none⟩)) rfl (by kernel_rfl) (by kernel_rfl) (by kernel_rfl) (fun _ _ _ h => h) (Hp.old (View.le_refl _) (View.le_trans (View.le_trans (View.le_trans (View.le_trans (View.le_trans hV1 hV2) hV4) hV6) hV8) hV11) (.cons _ (.cons_cons _ (.cons _ (.cons _ List.Sublist.slnil)))) (OldAll.box OldAll.nil)) (by kernel_rfl) (fun _ _ => by kernel_rfl) ?_
                          refine TA.take 12 (.pointer (some ⟨b3, 2, none⟩)) rfl (by kernel_rfl) (by kernel_rfl) (by kernel_rfl) (fun _ _ _ h => h) (Hp.old (View.le_refl _) (View.le_trans (View.le_trans (View.le_trans (View.le_trans (View.le_trans hV1 hV2) hV4) hV6) hV8) hV11) (.cons _ (.cons_cons _ (.cons _ (.cons _ List.Sublist.slnil)))) (OldAll.box OldAll.nil)) (by kernel_rfl) (fun _ _ => by kernel_rfl) ?_
                          refine TA.all [13] (by kernel_rfl) rfl ⟨?_, trivial⟩
                          refine TA.br rfl (W1.store 3 [.slice A20 r10.1.pages.length c20, .slice A21 r10.1.writes.length c21, .slice A22 ((x2 ++ [r10.1]).length) c22] [box b6 25 [.slice A20 r10.1.pages.length c20, .slice A21 r10.1.writes.length c21], box b5 52 [.int .i64 e2.page, .string e2.text], row 25 (eAt w eDisk) A22 c22 (x2 ++ [r10.1]), box b3 104 [.slice A20 r10.1.pages.length c20, .slice A21 r10.1.writes.length c21, .slice A22 ((x2 ++ [r10.1]).length) c22]] (by rfl) rfl (by kernel_rfl) (fun w' hw => exec_store (vs := [.slice A22 ((x2 ++ [r10.1]).length) c22]) rfl rfl rfl rfl (by kernel_rfl) (one_of rfl) (by simp) rfl hw) ?_)
                          refine TA.on (Hp.old (View.le_refl _) (View.le_trans (View.le_trans (View.le_trans (View.le_trans (View.le_trans hV1 hV2) hV4) hV6) hV8) hV11) (.cons _ (.cons_cons _ (.cons _ (.cons _ List.Sublist.slnil)))) (OldAll.box OldAll.nil)) ?_
                          refine TA.done (by kernel_rfl) ?_
                          exact fun a w' hf hh => Exists.intro A22 (Exists.intro c22 (And.intro (Fr.nil hf) (hh.sub (.cons _ (.cons _ (.cons_cons _ (.cons_cons _ List.Sublist.slnil)))))))
                    ·
                      rintro a w' ⟨A23, c23, hf, hh⟩
                      refine (?_ : T 32 w V11 [row 25 (eAt w eDisk) A23 c23 (x2 ++ [r10.1]), box b3 104 [.slice A20 r10.1.pages.length c20, .slice A21 r10.1.writes.length c21, .slice A23 ((x2 ++ [r10.1]).length) c23]] [] _) a w' hf hh
                      clear hf hh
                      cases hX2
                      exact T.end0 rfl fun w' hh => ⟨_, rfl, Exists.intro (x2 ++ [r10.1]) (Exists.intro r10.1.pages (Exists.intro r10.1.writes (And.intro rfl (Exists.intro A23 (Exists.intro c23 (Exists.intro A20 (Exists.intro c20 (Exists.intro A21 (Exists.intro c21 (Exists.intro V11 (And.intro hV11 (And.intro (SlOk.mono hs14 (made_mono (View.le_refl _))) (And.intro (SlOk.mono hs15 (made_mono (View.le_refl _))) (And.intro rfl (hh.sub (.cons_cons _ (.cons_cons _ List.Sublist.slnil)))))))))))))))))⟩
                  ·
                    rintro v w' ⟨z7, z8, z9, rfl, A17, c17, A18, c18, A19, c19, V10, hV10, hs12, hs13, rfl, hh⟩
                    try dsimp only at hY2
                    refine ⟨V10, [row 25 (eAt w eDisk) A17 c17 z7, box b3 104 [.slice A18 z8.length c18, .slice A19 z9.length c19, .slice A17 z7.length c17]], hh, ?_⟩
                    clear hh
                    refine T.nil ?_
                    refine T.region ?_
                    refine T.pure (.int .i64 (IntKind.i64.wrap (x5 + 1))) (by kernel_rfl) (fun _ => by kernel_rfl) ?_
                    refine T.pure (.int .i64 (IntKind.i64.wrap (x5 + 1))) (by kernel_rfl) (fun _ => by kernel_rfl) ?_
                    refine T.nil ?_
                    cases hY2
                    exact fun a w' hf hh => Exists.intro (z7, z8, z9, IntKind.i64.wrap (x5 + 1)) (And.intro rfl (Exists.intro z7 (Exists.intro z8 (Exists.intro z9 (Exists.intro (IntKind.i64.wrap (x5 + 1)) (And.intro rfl (Exists.intro A17 (Exists.intro c17 (Exists.intro A18 (Exists.intro c18 (Exists.intro A19 (Exists.intro c19 (Exists.intro V10 (And.intro (View.le_trans hV8 hV10) (And.intro (SlOk.mono hs12 (made_mono (View.le_refl _))) (And.intro (SlOk.mono hs13 (made_mono (View.le_refl _))) (And.intro ((((((((Fr.nil hf).pick hf 60 rfl).pick hf 59 rfl).pick hf 58 rfl).pick hf 14 rfl).pick hf 8 rfl).pick hf 2 rfl).pick hf 1 rfl) (hh.sub (.cons_cons _ (.cons_cons _ List.Sublist.slnil))))))))))))))))))))
                ·
                  rw [hc6, cond_false] at hY2
                  refine T.exit ?_
                  cases hY2
                  cases (hr3 _ rfl)
                  exact fun a w' hf hh => Exists.intro x2 (Exists.intro x3 (Exists.intro x4 (And.intro rfl (Exists.intro A11 (Exists.intro c11 (Exists.intro A12 (Exists.intro c12 (Exists.intro A13 (Exists.intro c13 (Exists.intro V8 (And.intro hV8 (And.intro (SlOk.mono hs8 (made_mono (View.le_refl _))) (And.intro (SlOk.mono hs9 (made_mono (View.le_refl _))) (And.intro (((((Fr.nil hf).pick hf 14 rfl).pick hf 8 rfl).pick hf 2 rfl).pick hf 1 rfl) (hh.sub (.cons_cons _ (.cons_cons _ List.Sublist.slnil)))))))))))))))))
            ·
              rintro a w' ⟨z4, z5, z6, rfl, A14, c14, A15, c15, A16, c16, V9, hV9, hs10, hs11, hf, hh⟩
              try dsimp only at hF
              refine (?_ : T 124 w V9 [row 25 (eAt w eDisk) A14 c14 z4, box b3 104 [.slice A15 z5.length c15, .slice A16 z6.length c16, .slice A14 z4.length c14]] [(1, .string p1), (2, .slice A3 p2.length c3), (8, .int .i64 r1.1), (14, .pointer (some ⟨b3, 0, none⟩))] _) a w' hf hh
              clear hf hh
              refine T.seq ?_
              refine T.region ?_
              refine T.pure (.pointer (some ⟨b3, 0, none⟩)) (by kernel_rfl) (fun _ => by kernel_rfl) ?_
              obtain ⟨q5, hX3, hF⟩ := Option.bind_eq_some_iff.1 hF
              refine T.step (W1.within 52 [.pointer (some ⟨b3, 0, none⟩)] (fun v w' => ∃ (z10 : List DDisk) (z11 : List ByteArray) (z12 : List DWrite), q5 = (z10, z11, z12) ∧ ∃ (A24 : Option Addr) (c24 : Nat) (A25 : Option Addr) (c25 : Nat) (A26 : Option Addr) (c26 : Nat) (V12 : View), View.le V9 V12 ∧ SlOk (made w V12) eStr A25 c25 z11 ∧ SlOk (made w V12) eWrite A26 c26 z12 ∧ v = .tuple #[] ∧ Hp w V12 [row 25 (eAt w eDisk) A24 c24 z10, box b3 104 [.slice A25 z11.length c25, .slice A26 z12.length c26, .slice A24 z10.length c24]] w') Try.func52 rfl rfl (by kernel_rfl) (fun _ => by kernel_rfl) rfl ?_ ?_)
              ·
                refine T.seq ?_
                refine T.region ?_
                refine T.pure (.pointer (some ⟨b3, 0, none⟩)) (by kernel_rfl) (fun _ => by kernel_rfl) ?_
                refine T.pure (.pointer (some ⟨b3, 0, none⟩)) (by kernel_rfl) (fun _ => by kernel_rfl) ?_
                refine T.pure (.pointer (some ⟨b3, 0, none⟩)) (by kernel_rfl) (fun _ => by kernel_rfl) ?_
                refine T.pure (.pointer (some ⟨b3, 0, none⟩)) (by kernel_rfl) (fun _ => by kernel_rfl) ?_
                refine T.look (.agg #[.slice A15 z5.length c15, .slice A16 z6.length c16]) (by kernel_rfl) (fun w' hh => exec_loadN (cs := [.slice A15 z5.length c15, .slice A16 z6.length c16]) rfl rfl (by kernel_rfl) (by kernel_rfl) (fun j u hj => (hh.box_at (i := 1) (cs := [.slice A15 z5.length c15, .slice A16 z6.length c16, .slice A14 z4.length c14]) (by rfl) 0 j).trans (seg_at (n := 2) (by rfl) hj))) ?_
                obtain ⟨r11, hb16, hX3⟩ := Option.bind_eq_some_iff.1 hX3
                refine T.step (W1.call (vT2 (vAg eDisk) (vSc eInt)) r11 20 #[.agg #[.slice A15 z5.length c15, .slice A16 z6.length c16]] (by kernel_rfl) (fun _ => by kernel_rfl) (fun w' hh => disk_Sync_l F (DDisk.mk z5 z6) r11 hb16 w' A15 c15 (SlOk.mono (SlOk.mono hs10 (View.le_trans (made_le _ _) (View.le_refl _))) hh.view) A16 c16 (SlOk.mono (SlOk.mono hs11 (View.le_trans (made_le _ _) (View.le_refl _))) hh.view)) ?_)
                intro u V13 hV13 hu
                obtain ⟨u5, u6, rfl, hu5, hu6⟩ := vT2_elim hu
                obtain ⟨cs3, rfl, hr5⟩ := vagg_elim hu5
                obtain ⟨A27, c27, A28, c28, rfl, hs18, hs19⟩ := hr5
                obtain rfl := sureInt _ _ _ hu6
                refine T.pure (.tuple #[.agg #[.slice A27 r11.1.pages.length c27, .slice A28 r11.1.writes.length c28], .int .i64 r11.2]) (by kernel_rfl) (fun _ => by kernel_rfl) ?_
                refine T.pure (.agg #[.slice A27 r11.1.pages.length c27, .slice A28 r11.1.writes.length c28]) (by kernel_rfl) (fun _ => by kernel_rfl) ?_
                refine T.pure (.int .i64 r11.2) (by kernel_rfl) (fun _ => by kernel_rfl) ?_
                refine T.pure (.pointer (some ⟨b3, 0, none⟩)) (by kernel_rfl) (fun _ => by kernel_rfl) ?_
                refine T.pure (.pointer (some ⟨b3, 0, none⟩)) (by kernel_rfl) (fun _ => by kernel_rfl) ?_
                refine T.step (W1.store 1 [.slice A27 r11.1.pages.length c27, .slice A28 r11.1.writes.length c28, .slice A14 z4.length c14] [row 25 (eAt w eDisk) A14 c14 z4, box b3 104 [.slice A27 r11.1.pages.length c27, .slice A28 r11.1.writes.length c28, .slice A14 z4.length c14]] (by rfl) rfl (by kernel_rfl) (fun w' hw => exec_store (vs := [.slice A27 r11.1.pages.length c27, .slice A28 r11.1.writes.length c28]) rfl rfl rfl rfl (by kernel_rfl) (one_of rfl) (by simp) rfl hw) ?_)
                refine T.nil ?_
                obtain ⟨y5, hb17, hX3⟩ := Option.bind_eq_some_iff.1 hX3
                refine T.mid (fun a w' => ∃ (A30 : Option Addr) (c30 : Nat), Fr 26 [] a ∧ Hp w V13 [row 25 (eAt w eDisk) A30 c30 (z4 ++ [r11.1]), box b3 104 [.slice A27 r11.1.pages.length c27, .slice A28 r11.1.writes.length c28, .slice A30 ((z4 ++ [r11.1]).length) c30]] w') ?_ ?_
                ·
                  refine T.held [] (by kernel_rfl) ?_
                  refine TA.take 0 (.pointer (some ⟨b3, 0, none⟩)) rfl (by kernel_rfl) (by kernel_rfl) (by kernel_rfl) (fun _ _ _ h => h) (Hp.old (View.le_refl _) (View.le_trans (View.le_trans (View.le_trans (View.le_trans (View.le_trans hV1 hV2) hV4) hV6) hV9) hV13) (.cons _ (.cons _ List.Sublist.slnil)) OldAll.nil) (by kernel_rfl) (fun _ _ => by kernel_rfl) ?_
                  refine TA.take 1 (.pointer (some ⟨b3, 0, none⟩)) rfl (by kernel_rfl) (by kernel_rfl) (by kernel_rfl) (fun _ _ _ h => h) (Hp.old (View.le_refl _) (View.le_trans (View.le_trans (View.le_trans (View.le_trans (View.le_trans hV1 hV2) hV4) hV6) hV9) hV13) (.cons _ (.cons _ List.Sublist.slnil)) OldAll.nil) (by kernel_rfl) (fun _ _ => by kernel_rfl) ?_
                  refine TA.take 2 (.pointer (some ⟨b3, 0, none⟩)) rfl (by kernel_rfl) (by kernel_rfl) (by kernel_rfl) (fun _ _ _ h => h) (Hp.old (View.le_refl _) (View.le_trans (View.le_trans (View.le_trans (View.le_trans (View.le_trans hV1 hV2) hV4) hV6) hV9) hV13) (.cons _ (.cons _ List.Sublist.slnil)) OldAll.nil) (by kernel_rfl) (fun _ _ => by kernel_rfl) ?_
                  refine TA.take 3 (.pointer (some ⟨b3, 2, none⟩)) rfl (by kernel_rfl) (by kernel_rfl) (by kernel_rfl) (fun _ _ _ h => h) (Hp.old (View.le_refl _) (View.le_trans (View.le_trans (View.le_trans (View.le_trans (View.le_trans hV1 hV2) hV4) hV6) hV9) hV13) (.cons _ (.cons _ List.Sublist.slnil)) OldAll.nil) (by kernel_rfl) (fun _ _ => by kernel_rfl) ?_
                  refine TA.take 5 (.pointer (some ⟨b3, 0, none⟩)) rfl (by kernel_rfl) (by kernel_rfl) (by kernel_rfl) (fun _ _ _ h => h) (Hp.old (View.le_refl _) (View.le_trans (View.le_trans (View.le_trans (View.le_trans (View.le_trans hV1 hV2) hV4) hV6) hV9) hV13) (.cons _ (.cons _ List.Sublist.slnil)) OldAll.nil) (by kernel_rfl) (fun _ _ => by kernel_rfl) ?_
                  refine TA.take 6 (.pointer (some ⟨b3, 0, none⟩)) rfl (by kernel_rfl) (by kernel_rfl) (by kernel_rfl) (fun _ _ _ h => h) (Hp.old (View.le_refl _) (View.le_trans (View.le_trans (View.le_trans (View.le_trans (View.le_trans hV1 hV2) hV4) hV6) hV9) hV13) (.cons _ (.cons _ List.Sublist.slnil)) OldAll.nil) (by kernel_rfl) (fun _ _ => by kernel_rfl) ?_
                  refine TA.take 7 (.pointer (some ⟨b3, 0, none⟩)) rfl (by kernel_rfl) (by kernel_rfl) (by kernel_rfl) (fun _ _ _ h => h) (Hp.old (View.le_refl _) (View.le_trans (View.le_trans (View.le_trans (View.le_trans (View.le_trans hV1 hV2) hV4) hV6) hV9) hV13) (.cons _ (.cons _ List.Sublist.slnil)) OldAll.nil) (by kernel_rfl) (fun _ _ => by kernel_rfl) ?_
                  refine TA.all [4, 8] (by kernel_rfl) rfl ⟨?_, ?_, trivial⟩
                  ·
                    refine TA.br rfl (W1.look (.slice A14 z4.length c14) (by kernel_rfl) (fun w' hh => exec_load1 rfl rfl (by kernel_rfl) (hh.cellBox (i := 1) (by rfl) 2)) ?_)
                    refine TA.on (Hp.old (View.le_refl _) (View.le_trans (View.le_trans (View.le_trans (View.le_trans (View.le_trans hV1 hV2) hV4) hV6) hV9) hV13) (.cons _ (.cons _ List.Sublist.slnil)) OldAll.nil) ?_
                    refine TA.all [8] (by kernel_rfl) rfl ⟨?_, trivial⟩
                    refine TA.br rfl (W1.look (.agg #[.slice A27 r11.1.pages.length c27, .slice A28 r11.1.writes.length c28]) (by kernel_rfl) (fun w' hh => exec_loadN (cs := [.slice A27 r11.1.pages.length c27, .slice A28 r11.1.writes.length c28]) rfl rfl (by kernel_rfl) (by kernel_rfl) (fun j u hj => (hh.box_at (i := 1) (cs := [.slice A27 r11.1.pages.length c27, .slice A28 r11.1.writes.length c28, .slice A14 z4.length c14]) (by rfl) 0 j).trans (seg_at (n := 2) (by rfl) hj))) ?_)
                    refine TA.on (Hp.old (View.le_refl _) (View.le_trans (View.le_trans (View.le_trans (View.le_trans (View.le_trans hV1 hV2) hV4) hV6) hV9) hV13) (.cons _ (.cons _ List.Sublist.slnil)) OldAll.nil) ?_
                    refine TA.all [9] (by kernel_rfl) rfl ⟨?_, trivial⟩
                    refine TA.br rfl (W1.new 25 [.slice A27 r11.1.pages.length c27, .slice A28 r11.1.writes.length c28] (fun b => .slice (some ⟨b, 0, none⟩) 1 1) (by kernel_rfl) (fun _ => by kernel_rfl) (fun b7 => ?_))
                    refine TA.on (Hp.old (View.le_refl _) (View.le_trans (View.le_trans (View.le_trans (View.le_trans (View.le_trans hV1 hV2) hV4) hV6) hV9) hV13) (.cons _ (.cons _ (.cons _ List.Sublist.slnil))) OldAll.nil) ?_
                    refine TA.all [10] (by kernel_rfl) rfl ⟨?_, trivial⟩
                    obtain ⟨hb17_r, hb17_m, rfl⟩ := grow_some hb17
                    obtain ⟨ti, hti, hz1, hz2, hz3⟩ := info_parts (P := Try.prog) (e := 25) (z := .agg #[.slice none 0 0, .slice none 0 0]) (size := 2) (bytes := 48) (by kernel_rfl)
                    refine TA.br rfl (W1.append (E := (eAt w eDisk)) (l := z4) (m := [r11.1]) 1 _ _ 48 ti _ (by rfl) (by kernel_rfl) rfl (by kernel_rfl) hti hz1 hz2 hz3 rfl (Nat.le_of_ble_eq_true rfl) rfl rfl (fun w' hh => (src_one (E := (eAt w eDisk)) hh (i := 0) (by rfl) ⟨A27, c27, A28, c28, rfl, (SlOk.mono hs18 (made_mono (View.le_refl _))), (SlOk.mono hs19 (made_mono (View.le_refl _)))⟩)) hb17_r hb17_m (fun A29 c29 => ?_))
                    refine TA.on (Hp.old (View.le_refl _) (View.le_trans (View.le_trans (View.le_trans (View.le_trans (View.le_trans hV1 hV2) hV4) hV6) hV9) hV13) (.cons _ (.cons _ (.cons _ List.Sublist.slnil))) OldAll.nil) ?_
                    refine TA.take 11 (.pointer (some ⟨b3, 0, none⟩)) rfl (by kernel_rfl) (by kernel_rfl) (by kernel_rfl) (fun _ _ _ h => h) (Hp.old (View.le_refl _) (View.le_trans (View.le_trans (View.le_trans (View.le_trans (View.le_trans hV1 hV2) hV4) hV6) hV9) hV13) (.cons _ (.cons _ (.cons _ List.Sublist.slnil))) OldAll.nil) (by kernel_rfl) (fun _ _ => by kernel_rfl) ?_
                    refine TA.take 12 (.pointer (some ⟨b3, 2, none⟩)) rfl (by kernel_rfl) (by kernel_rfl) (by kernel_rfl) (fun _ _ _ h => h) (Hp.old (View.le_refl _) (View.le_trans (View.le_trans (View.le_trans (View.le_trans (View.le_trans hV1 hV2) hV4) hV6) hV9) hV13) (.cons _ (.cons _ (.cons _ List.Sublist.slnil))) OldAll.nil) (by kernel_rfl) (fun _ _ => by kernel_rfl) ?_
                    refine TA.all [13] (by kernel_rfl) rfl ⟨?_, trivial⟩
                    refine TA.br rfl (W1.store 2 [.slice A27 r11.1.pages.length c27, .slice A28 r11.1.writes.length c28, .slice A29 ((z4 ++ [r11.1]).length) c29] [box b7 25 [.slice A27 r11.1.pages.length c27, .slice A28 r11.1.writes.length c28], row 25 (eAt w eDisk) A29 c29 (z4 ++ [r11.1]), box b3 104 [.slice A27 r11.1.pages.length c27, .slice A28 r11.1.writes.length c28, .slice A29 ((z4 ++ [r11.1]).length) c29]] (by rfl) rfl (by kernel_rfl) (fun w' hw => exec_store (vs := [.slice A29 ((z4 ++ [r11.1]).length) c29]) rfl rfl rfl rfl (by kernel_rfl) (one_of rfl) (by simp) rfl hw) ?_)
                    refine TA.on (Hp.old (View.le_refl _) (View.le_trans (View.le_trans (View.le_trans (View.le_trans (View.le_trans hV1 hV2) hV4) hV6) hV9) hV13) (.cons _ (.cons _ (.cons _ List.Sublist.slnil))) OldAll.nil) ?_
                    refine TA.done (by kernel_rfl) ?_
                    exact fun a w' hf hh => Exists.intro A29 (Exists.intro c29 (And.intro (Fr.nil hf) (hh.sub (.cons _ (.cons_cons _ (.cons_cons _ List.Sublist.slnil))))))
                  ·
                    refine TA.br rfl (W1.look (.agg #[.slice A27 r11.1.pages.length c27, .slice A28 r11.1.writes.length c28]) (by kernel_rfl) (fun w' hh => exec_loadN (cs := [.slice A27 r11.1.pages.length c27, .slice A28 r11.1.writes.length c28]) rfl rfl (by kernel_rfl) (by kernel_rfl) (fun j u hj => (hh.box_at (i := 1) (cs := [.slice A27 r11.1.pages.length c27, .slice A28 r11.1.writes.length c28, .slice A14 z4.length c14]) (by rfl) 0 j).trans (seg_at (n := 2) (by rfl) hj))) ?_)
                    refine TA.on (Hp.old (View.le_refl _) (View.le_trans (View.le_trans (View.le_trans (View.le_trans (View.le_trans hV1 hV2) hV4) hV6) hV9) hV13) (.cons _ (.cons _ List.Sublist.slnil)) OldAll.nil) ?_
                    refine TA.all [4, 9] (by kernel_rfl) rfl ⟨?_, ?_, trivial⟩
                    ·
                      refine TA.br rfl (W1.look (.slice A14 z4.length c14) (by kernel_rfl) (fun w' hh => exec_load1 rfl rfl (by kernel_rfl) (hh.cellBox (i := 1) (by rfl) 2)) ?_)
                      refine TA.on (Hp.old (View.le_refl _) (View.le_trans (View.le_trans (View.le_trans (View.le_trans (View.le_trans hV1 hV2) hV4) hV6) hV9) hV13) (.cons _ (.cons _ List.Sublist.slnil)) OldAll.nil) ?_
                      refine TA.all [9] (by kernel_rfl) rfl ⟨?_, trivial⟩
                      refine TA.br rfl (W1.new 25 [.slice A27 r11.1.pages.length c27, .slice A28 r11.1.writes.length c28] (fun b => .slice (some ⟨b, 0, none⟩) 1 1) (by kernel_rfl) (fun _ => by kernel_rfl) (fun b7 => ?_))
                      refine TA.on (Hp.old (View.le_refl _) (View.le_trans (View.le_trans (View.le_trans (View.le_trans (View.le_trans hV1 hV2) hV4) hV6) hV9) hV13) (.cons _ (.cons _ (.cons _ List.Sublist.slnil))) OldAll.nil) ?_
                      refine TA.all [10] (by kernel_rfl) rfl ⟨?_, trivial⟩
                      obtain ⟨hb17_r, hb17_m, rfl⟩ := grow_some hb17
                      obtain ⟨ti, hti, hz1, hz2, hz3⟩ := info_parts (P := Try.prog) (e := 25) (z := .agg #[.slice none 0 0, .slice none 0 0]) (size := 2) (bytes := 48) (by kernel_rfl)
                      refine TA.br rfl (W1.append (E := (eAt w eDisk)) (l := z4) (m := [r11.1]) 1 _ _ 48 ti _ (by rfl) (by kernel_rfl) rfl (by kernel_rfl) hti hz1 hz2 hz3 rfl (Nat.le_of_ble_eq_true rfl) rfl rfl (fun w' hh => (src_one (E := (eAt w eDisk)) hh (i := 0) (by rfl) ⟨A27, c27, A28, c28, rfl, (SlOk.mono hs18 (made_mono (View.le_refl _))), (SlOk.mono hs19 (made_mono (View.le_refl _)))⟩)) hb17_r hb17_m (fun A29 c29 => ?_))
                      refine TA.on (Hp.old (View.le_refl _) (View.le_trans (View.le_trans (View.le_trans (View.le_trans (View.le_trans hV1 hV2) hV4) hV6) hV9) hV13) (.cons _ (.cons _ (.cons _ List.Sublist.slnil))) OldAll.nil) ?_
                      refine TA.take 11 (.pointer (some ⟨b3, 0, none⟩)) rfl (by kernel_rfl) (by kernel_rfl) (by kernel_rfl) (fun _ _ _ h => h) (Hp.old (View.le_refl _) (View.le_trans (View.le_trans (View.le_trans (View.le_trans (View.le_trans hV1 hV2) hV4) hV6) hV9) hV13) (.cons _ (.cons _ (.cons _ List.Sublist.slnil))) OldAll.nil) (by kernel_rfl) (fun _ _ => by kernel_rfl) ?_
                      refine TA.take 12 (.pointer (some ⟨b3, 2, none⟩)) rfl (by kernel_rfl) (by kernel_rfl) (by kernel_rfl) (fun _ _ _ h => h) (Hp.old (View.le_refl _) (View.le_trans (View.le_trans (View.le_trans (View.le_trans (View.le_trans hV1 hV2) hV4) hV6) hV9) hV13) (.cons _ (.cons _ (.cons _ List.Sublist.slnil))) OldAll.nil) (by kernel_rfl) (fun _ _ => by kernel_rfl) ?_
                      refine TA.all [13] (by kernel_rfl) rfl ⟨?_, trivial⟩
                      refine TA.br rfl (W1.store 2 [.slice A27 r11.1.pages.length c27, .slice A28 r11.1.writes.length c28, .slice A29 ((z4 ++ [r11.1]).length) c29] [box b7 25 [.slice A27 r11.1.pages.length c27, .slice A28 r11.1.writes.length c28], row 25 (eAt w eDisk) A29 c29 (z4 ++ [r11.1]), box b3 104 [.slice A27 r11.1.pages.length c27, .slice A28 r11.1.writes.length c28, .slice A29 ((z4 ++ [r11.1]).length) c29]] (by rfl) rfl (by kernel_rfl) (fun w' hw => exec_store (vs := [.slice A29 ((z4 ++ [r11.1]).length) c29]) rfl rfl rfl rfl (by kernel_rfl) (one_of rfl) (by simp) rfl hw) ?_)
                      refine TA.on (Hp.old (View.le_refl _) (View.le_trans (View.le_trans (View.le_trans (View.le_trans (View.le_trans hV1 hV2) hV4) hV6) hV9) hV13) (.cons _ (.cons _ (.cons _ List.Sublist.slnil))) OldAll.nil) ?_
                      refine TA.done (by kernel_rfl) ?_
                      exact fun a w' hf hh => Exists.intro A29 (Exists.intro c29 (And.intro (Fr.nil hf) (hh.sub (.cons _ (.cons_cons _ (.cons_cons _ List.Sublist.slnil))))))
                    ·
                      refine TA.br rfl (W1.new 25 [.slice A27 r11.1.pages.length c27, .slice A28 r11.1.writes.length c28] (fun b => .slice (some ⟨b, 0, none⟩) 1 1) (by kernel_rfl) (fun _ => by kernel_rfl) (fun b7 => ?_))
                      refine TA.on (Hp.old (View.le_refl _) (View.le_trans (View.le_trans (View.le_trans (View.le_trans (View.le_trans hV1 hV2) hV4) hV6) hV9) hV13) (.cons _ (.cons _ (.cons _ List.Sublist.slnil))) OldAll.nil) ?_
                      refine TA.all [4] (by kernel_rfl) rfl ⟨?_, trivial⟩
                      refine TA.br rfl (W1.look (.slice A14 z4.length c14) (by kernel_rfl) (fun w' hh => exec_load1 rfl rfl (by kernel_rfl) (hh.cellBox (i := 2) (by rfl) 2)) ?_)
                      refine TA.on (Hp.old (View.le_refl _) (View.le_trans (View.le_trans (View.le_trans (View.le_trans (View.le_trans hV1 hV2) hV4) hV6) hV9) hV13) (.cons _ (.cons _ (.cons _ List.Sublist.slnil))) OldAll.nil) ?_
                      refine TA.all [10] (by kernel_rfl) rfl ⟨?_, trivial⟩
                      obtain ⟨hb17_r, hb17_m, rfl⟩ := grow_some hb17
                      obtain ⟨ti, hti, hz1, hz2, hz3⟩ := info_parts (P := Try.prog) (e := 25) (z := .agg #[.slice none 0 0, .slice none 0 0]) (size := 2) (bytes := 48) (by kernel_rfl)
                      refine TA.br rfl (W1.append (E := (eAt w eDisk)) (l := z4) (m := [r11.1]) 1 _ _ 48 ti _ (by rfl) (by kernel_rfl) rfl (by kernel_rfl) hti hz1 hz2 hz3 rfl (Nat.le_of_ble_eq_true rfl) rfl rfl (fun w' hh => (src_one (E := (eAt w eDisk)) hh (i := 0) (by rfl) ⟨A27, c27, A28, c28, rfl, (SlOk.mono hs18 (made_mono (View.le_refl _))), (SlOk.mono hs19 (made_mono (View.le_refl _)))⟩)) hb17_r hb17_m (fun A29 c29 => ?_))
                      refine TA.on (Hp.old (View.le_refl _) (View.le_trans (View.le_trans (View.le_trans (View.le_trans (View.le_trans hV1 hV2) hV4) hV6) hV9) hV13) (.cons _ (.cons _ (.cons _ List.Sublist.slnil))) OldAll.nil) ?_
                      refine TA.take 11 (.pointer (some ⟨b3, 0, none⟩)) rfl (by kernel_rfl) (by kernel_rfl) (by kernel_rfl) (fun _ _ _ h => h) (Hp.old (View.le_refl _) (View.le_trans (View.le_trans (View.le_trans (View.le_trans (View.le_trans hV1 hV2) hV4) hV6) hV9) hV13) (.cons _ (.cons _ (.cons _ List.Sublist.slnil))) OldAll.nil) (by kernel_rfl) (fun _ _ => by kernel_rfl) ?_
                      refine TA.take 12 (.pointer (some ⟨b3, 2, none⟩)) rfl (by kernel_rfl) (by kernel_rfl) (by kernel_rfl) (fun _ _ _ h => h) (Hp.old (View.le_refl _) (View.le_trans (View.le_trans (View.le_trans (View.le_trans (View.le_trans hV1 hV2) hV4) hV6) hV9) hV13) (.cons _ (.cons _ (.cons _ List.Sublist.slnil))) OldAll.nil) (by kernel_rfl) (fun _ _ => by kernel_rfl) ?_
                      refine TA.all [13] (by kernel_rfl) rfl ⟨?_, trivial⟩
                      refine TA.br rfl (W1.store 2 [.slice A27 r11.1.pages.length c27, .slice A28 r11.1.writes.length c28, .slice A29 ((z4 ++ [r11.1]).length) c29] [box b7 25 [.slice A27 r11.1.pages.length c27, .slice A28 r11.1.writes.length c28], row 25 (eAt w eDisk) A29 c29 (z4 ++ [r11.1]), box b3 104 [.slice A27 r11.1.pages.length c27, .slice A28 r11.1.writes.length c28, .slice A29 ((z4 ++ [r11.1]).length) c29]] (by rfl) rfl (by kernel_rfl) (fun w' hw => exec_store (vs := [.slice A29 ((z4 ++ [r11.1]).length) c29]) rfl rfl rfl rfl (by kernel_rfl) (one_of rfl) (by simp) rfl hw) ?_)
                      refine TA.on (Hp.old (View.le_refl _) (View.le_trans (View.le_trans (View.le_trans (View.le_trans (View.le_trans hV1 hV2) hV4) hV6) hV9) hV13) (.cons _ (.cons _ (.cons _ List.Sublist.slnil))) OldAll.nil) ?_
                      refine TA.done (by kernel_rfl) ?_
                      exact fun a w' hf hh => Exists.intro A29 (Exists.intro c29 (And.intro (Fr.nil hf) (hh.sub (.cons _ (.cons_cons _ (.cons_cons _ List.Sublist.slnil))))))
                ·
                  rintro a w' ⟨A30, c30, hf, hh⟩
                  refine (?_ : T 26 w V13 [row 25 (eAt w eDisk) A30 c30 (z4 ++ [r11.1]), box b3 104 [.slice A27 r11.1.pages.length c27, .slice A28 r11.1.writes.length c28, .slice A30 ((z4 ++ [r11.1]).length) c30]] [] _) a w' hf hh
                  clear hf hh
                  cases hX3
                  exact T.end0 rfl fun w' hh => ⟨_, rfl, Exists.intro (z4 ++ [r11.1]) (Exists.intro r11.1.pages (Exists.intro r11.1.writes (And.intro rfl (Exists.intro A30 (Exists.intro c30 (Exists.intro A27 (Exists.intro c27 (Exists.intro A28 (Exists.intro c28 (Exists.intro V13 (And.intro hV13 (And.intro (SlOk.mono hs18 (made_mono (View.le_refl _))) (And.intro (SlOk.mono hs19 (made_mono (View.le_refl _))) (And.intro rfl (hh.sub (.cons_cons _ (.cons_cons _ List.Sublist.slnil)))))))))))))))))⟩
              ·
                rintro v w' ⟨z10, z11, z12, rfl, A24, c24, A25, c25, A26, c26, V12, hV12, hs16, hs17, rfl, hh⟩
                try dsimp only at hF
                refine ⟨V12, [row 25 (eAt w eDisk) A24 c24 z10, box b3 104 [.slice A25 z11.length c25, .slice A26 z12.length c26, .slice A24 z10.length c24]], hh, ?_⟩
                clear hh
                refine T.nil ?_
                refine T.seq ?_
                refine T.seq ?_
                refine T.region ?_
                refine T.pure (.slice A3 p2.length c3) (by kernel_rfl) (fun _ => by kernel_rfl) ?_
                refine T.pure (.int .i64 (p2.length : Int)) (by kernel_rfl) (fun _ => by kernel_rfl) ?_
                refine T.pure (.int .i64 0) (by kernel_rfl) (fun _ => by kernel_rfl) ?_
                refine T.nil ?_
                obtain ⟨q6, hz3, hF⟩ := Option.bind_eq_some_iff.1 hF
                refine T.mid (fun a w' => ∃ (z13 : List DDisk) (z14 : List ByteArray) (z15 : List DWrite), q6 = (z13, z14, z15) ∧ ∃ (A34 : Option Addr) (c34 : Nat) (A35 : Option Addr) (c35 : Nat) (A36 : Option Addr) (c36 : Nat) (V15 : View), View.le V12 V15 ∧ SlOk (made w V15) eStr A35 c35 z14 ∧ SlOk (made w V15) eWrite A36 c36 z15 ∧ Fr 124 [(1, .string p1), (8, .int .i64 r1.1), (14, .pointer (some ⟨b3, 0, none⟩))] a ∧ Hp w V15 [row 25 (eAt w eDisk) A34 c34 z13, box b3 104 [.slice A35 z14.length c35, .slice A36 z15.length c36, .slice A34 z13.length c34]] w') ?_ ?_
                ·
                  refine T.block ?_
                  refine T.iter (fun s4 a w' => ∃ (x6 : List DDisk) (x7 : List ByteArray) (x8 : List DWrite) (x9 : Int), s4 = (x6, x7, x8, x9) ∧ ∃ (A31 : Option Addr) (c31 : Nat) (A32 : Option Addr) (c32 : Nat) (A33 : Option Addr) (c33 : Nat) (V14 : View), View.le V12 V14 ∧ SlOk (made w V14) eStr A32 c32 x7 ∧ SlOk (made w V14) eWrite A33 c33 x8 ∧ Fr 124 [(1, .string p1), (8, .int .i64 r1.1), (14, .pointer (some ⟨b3, 0, none⟩)), (93, .slice A3 p2.length c3), (94, .int .i64 (p2.length : Int)), (95, .int .i64 x9)] a ∧ Hp w V14 [row 25 (eAt w eDisk) A31 c31 x6, box b3 104 [.slice A32 x7.length c32, .slice A33 x8.length c33, .slice A31 x6.length c31]] w') hz3 ?_ ?_
                  ·
                    exact fun a w' hf hh => Exists.intro z10 (Exists.intro z11 (Exists.intro z12 (Exists.intro 0 (And.intro rfl (Exists.intro A24 (Exists.intro c24 (Exists.intro A25 (Exists.intro c25 (Exists.intro A26 (Exists.intro c26 (Exists.intro V12 (And.intro (View.le_refl _) (And.intro (SlOk.mono hs16 (made_mono (View.le_refl _))) (And.intro (SlOk.mono hs17 (made_mono (View.le_refl _))) (And.intro (((((((Fr.nil hf).pick hf 95 rfl).pick hf 94 rfl).pick hf 93 rfl).pick hf 14 rfl).pick hf 8 rfl).pick hf 1 rfl) (hh.sub (.cons_cons _ (.cons_cons _ List.Sublist.slnil))))))))))))))))))
                  ·
                    rintro s4 y6 hY3 hr6 a w' ⟨x6, x7, x8, x9, rfl, A31, c31, A32, c32, A33, c33, V14, hV14, hs20, hs21, hf, hh⟩
                    refine (?_ : T 124 w V14 [row 25 (eAt w eDisk) A31 c31 x6, box b3 104 [.slice A32 x7.length c32, .slice A33 x8.length c33, .slice A31 x6.length c31]] [(1, .string p1), (8, .int .i64 r1.1), (14, .pointer (some ⟨b3, 0, none⟩)), (93, .slice A3 p2.length c3), (94, .int .i64 (p2.length : Int)), (95, .int .i64 x9)] _) a w' hf hh
                    clear hf hh
                    try dsimp only at hY3
                    refine T.seq ?_
                    refine T.region ?_
                    refine T.pure (.bool (decide (x9 < (p2.length : Int)))) (by kernel_rfl) (fun _ => by kernel_rfl) ?_
                    refine T.nil ?_
                    refine T.seq ?_
                    refine T.cond (decide (x9 < (p2.length : Int))) (by kernel_rfl) (by kernel_rfl) (fun hc7 => ?_) (fun hc7 => ?_)
                    ·
                      rw [hc7, cond_true] at hY3
                      refine T.skip_code ?_
                      refine T.seq ?_
                      refine T.block ?_
                      refine T.seq ?_
                      refine T.region ?_
                      obtain ⟨e3, hb18, hY3⟩ := Option.bind_eq_some_iff.1 hY3
                      obtain ⟨hi7, hi8, hi9⟩ := idx_some hb18
                      refine T.look (.pointer (some ((sadr A3).add (x9.toNat * 2)))) (by kernel_rfl) (fun w' hh => exec_indexAddr (e := 52) (s := 2) rfl rfl rfl (by kernel_rfl) (by kernel_rfl) hi7 hi8 ((SlOk.mono hs3 (View.le_trans (View.le_trans (View.le_trans (View.le_trans (View.le_trans (View.le_trans hV1 hV2) hV4) hV6) hV9) hV12) hV14)).some_ hi9 (by decide))) ?_
                      refine T.look (.agg #[.int .i64 e3.page, .string e3.text]) (by kernel_rfl) (fun w' hh => exec_loadN (cs := [.int .i64 e3.page, .string e3.text]) rfl rfl (by kernel_rfl) (by kernel_rfl) (fun j u hj => (hh.cell_view (SlOk.cellF (E := eWrite) (SlOk.mono hs3 (View.le_trans (View.le_trans (View.le_trans (View.le_trans (View.le_trans (View.le_trans hV1 hV2) hV4) hV6) hV9) hV12) hV14)) hi9 j (fun _ _ _ h => h) hj)))) ?_
                      refine T.step (W1.new 52 [.int .i64 0, .string (ByteArray.mk #[])] (fun b => .pointer (some ⟨b, 0, none⟩)) (by kernel_rfl) (fun _ => by kernel_rfl) (fun b8 => ?_))
                      refine T.step (W1.store 0 [.int .i64 e3.page, .string e3.text] [box b8 52 [.int .i64 e3.page, .string e3.text], row 25 (eAt w eDisk) A31 c31 x6, box b3 104 [.slice A32 x7.length c32, .slice A33 x8.length c33, .slice A31 x6.length c31]] (by rfl) rfl (by kernel_rfl) (fun w' hw => exec_store (vs := [.int .i64 e3.page, .string e3.text]) rfl rfl rfl rfl (by kernel_rfl) (one_of rfl) (by simp) rfl hw) ?_)
                      refine T.nil ?_
                      refine T.region ?_
                      refine T.pure (.pointer (some ⟨b3, 0, none⟩)) (by kernel_rfl) (fun _ => by kernel_rfl) ?_
                      refine T.pure (.pointer (some ⟨b8, 0, none⟩)) (by kernel_rfl) (fun _ => by kernel_rfl) ?_
                      refine T.look (.int .i64 e3.page) (by kernel_rfl) (fun w' hh => exec_load1 rfl rfl (by kernel_rfl) (hh.cellBox (i := 0) (by rfl) 0)) ?_
                      refine T.pure (.pointer (some ⟨b8, 1, none⟩)) (by kernel_rfl) (fun _ => by kernel_rfl) ?_
                      refine T.look (.string e3.text) (by kernel_rfl) (fun w' hh => exec_load1 rfl rfl (by kernel_rfl) (hh.cellBox (i := 0) (by rfl) 1)) ?_
                      obtain ⟨q7, hX4, hY3⟩ := Option.bind_eq_some_iff.1 hY3
                      refine T.step (W1.within 53 [.pointer (some ⟨b3, 0, none⟩), .int .i64 e3.page, .string e3.text] (fun v w' => ∃ (z16 : List DDisk) (z17 : List ByteArray) (z18 : List DWrite), q7 = (z16, z17, z18) ∧ ∃ (A37 : Option Addr) (c37 : Nat) (A38 : Option Addr) (c38 : Nat) (A39 : Option Addr) (c39 : Nat) (V16 : View), View.le V14 V16 ∧ SlOk (made w V16) eStr A38 c38 z17 ∧ SlOk (made w V16) eWrite A39 c39 z18 ∧ v = .tuple #[] ∧ Hp w V16 [box b8 52 [.int .i64 e3.page, .string e3.text], row 25 (eAt w eDisk) A37 c37 z16, box b3 104 [.slice A38 z17.length c38, .slice A39 z18.length c39, .slice A37 z16.length c37]] w') Try.func53 rfl rfl (by kernel_rfl) (fun _ => by kernel_rfl) rfl ?_ ?_)
                      ·
                        refine T.seq ?_
                        refine T.region ?_
                        refine T.pure (.pointer (some ⟨b3, 0, none⟩)) (by kernel_rfl) (fun _ => by kernel_rfl) ?_
                        refine T.pure (.pointer (some ⟨b3, 0, none⟩)) (by kernel_rfl) (fun _ => by kernel_rfl) ?_
                        refine T.pure (.pointer (some ⟨b3, 0, none⟩)) (by kernel_rfl) (fun _ => by kernel_rfl) ?_
                        refine T.pure (.pointer (some ⟨b3, 0, none⟩)) (by kernel_rfl) (fun _ => by kernel_rfl) ?_
                        refine T.look (.agg #[.slice A32 x7.length c32, .slice A33 x8.length c33]) (by kernel_rfl) (fun w' hh => exec_loadN (cs := [.slice A32 x7.length c32, .slice A33 x8.length c33]) rfl rfl (by kernel_rfl) (by kernel_rfl) (fun j u hj => (hh.box_at (i := 2) (cs := [.slice A32 x7.length c32, .slice A33 x8.length c33, .slice A31 x6.length c31]) (by rfl) 0 j).trans (seg_at (n := 2) (by rfl) hj))) ?_
                        refine T.pure (.int .i64 e3.page) (by kernel_rfl) (fun _ => by kernel_rfl) ?_
                        refine T.pure (.string e3.text) (by kernel_rfl) (fun _ => by kernel_rfl) ?_
                        obtain ⟨r12, hb19, hX4⟩ := Option.bind_eq_some_iff.1 hX4
                        refine T.step (W1.call (vT2 (vAg eDisk) (vSc eInt)) r12 83 #[.agg #[.slice A32 x7.length c32, .slice A33 x8.length c33], .int .i64 e3.page, .string e3.text] (by kernel_rfl) (fun _ => by kernel_rfl) (fun w' hh => disk_Put_l F (DDisk.mk x7 x8) e3.page e3.text r12 hb19 w' A32 c32 (SlOk.mono (SlOk.mono hs20 (View.le_trans (made_le _ _) (View.le_refl _))) hh.view) A33 c33 (SlOk.mono (SlOk.mono hs21 (View.le_trans (made_le _ _) (View.le_refl _))) hh.view)) ?_)
                        intro u V17 hV17 hu
                        obtain ⟨u7, u8, rfl, hu7, hu8⟩ := vT2_elim hu
                        obtain ⟨cs4, rfl, hr7⟩ := vagg_elim hu7
                        obtain ⟨A40, c40, A41, c41, rfl, hs26, hs27⟩ := hr7
                        obtain rfl := sureInt _ _ _ hu8
                        refine T.pure (.tuple #[.agg #[.slice A40 r12.1.pages.length c40, .slice A41 r12.1.writes.length c41], .int .i64 r12.2]) (by kernel_rfl) (fun _ => by kernel_rfl) ?_
                        refine T.pure (.agg #[.slice A40 r12.1.pages.length c40, .slice A41 r12.1.writes.length c41]) (by kernel_rfl) (fun _ => by kernel_rfl) ?_
                        refine T.pure (.int .i64 r12.2) (by kernel_rfl) (fun _ => by kernel_rfl) ?_
                        refine T.pure (.pointer (some ⟨b3, 0, none⟩)) (by kernel_rfl) (fun _ => by kernel_rfl) ?_
                        refine T.pure (.pointer (some ⟨b3, 0, none⟩)) (by kernel_rfl) (fun _ => by kernel_rfl) ?_
                        refine T.step (W1.store 2 [.slice A40 r12.1.pages.length c40, .slice A41 r12.1.writes.length c41, .slice A31 x6.length c31] [box b8 52 [.int .i64 e3.page, .string e3.text], row 25 (eAt w eDisk) A31 c31 x6, box b3 104 [.slice A40 r12.1.pages.length c40, .slice A41 r12.1.writes.length c41, .slice A31 x6.length c31]] (by rfl) rfl (by kernel_rfl) (fun w' hw => exec_store (vs := [.slice A40 r12.1.pages.length c40, .slice A41 r12.1.writes.length c41]) rfl rfl rfl rfl (by kernel_rfl) (one_of rfl) (by simp) rfl hw) ?_)
                        refine T.nil ?_
                        obtain ⟨y7, hb20, hX4⟩ := Option.bind_eq_some_iff.1 hX4
                        refine T.mid (fun a w' => ∃ (A43 : Option Addr) (c43 : Nat), Fr 32 [] a ∧ Hp w V17 [box b8 52 [.int .i64 e3.page, .string e3.text], row 25 (eAt w eDisk) A43 c43 (x6 ++ [r12.1]), box b3 104 [.slice A40 r12.1.pages.length c40, .slice A41 r12.1.writes.length c41, .slice A43 ((x6 ++ [r12.1]).length) c43]] w') ?_ ?_
                        ·
                          refine T.held [box b8 52 [.int .i64 e3.page, .string e3.text]] (by kernel_rfl) ?_
                          refine TA.take 0 (.pointer (some ⟨b3, 0, none⟩)) rfl (by kernel_rfl) (by kernel_rfl) (by kernel_rfl) (fun _ _ _ h => h) (Hp.old (View.le_refl _) (View.le_trans (View.le_trans (View.le_trans (View.le_trans (View.le_trans (View.le_trans (View.le_trans hV1 hV2) hV4) hV6) hV9) hV12) hV14) hV17) (.cons_cons _ (.cons _ (.cons _ List.Sublist.slnil))) (OldAll.box OldAll.nil)) (by kernel_rfl) (fun _ _ => by kernel_rfl) ?_
                          refine TA.take 1 (.pointer (some ⟨b3, 0, none⟩)) rfl (by kernel_rfl) (by kernel_rfl) (by kernel_rfl) (fun _ _ _ h => h) (Hp.old (View.le_refl _) (View.le_trans (View.le_trans (View.le_trans (View.le_trans (View.le_trans (View.le_trans (View.le_trans hV1 hV2) hV4) hV6) hV9) hV12) hV14) hV17) (.cons_cons _ (.cons _ (.cons _ List.Sublist.slnil))) (OldAll.box OldAll.nil)) (by kernel_rfl) (fun _ _ => by kernel_rfl) ?_
                          refine TA.take 2 (.pointer (some ⟨b3, 0, none⟩)) rfl (by kernel_rfl) (by kernel_rfl) (by kernel_rfl) (fun _ _ _ h => h) (Hp.old (View.le_refl _) (View.le_trans (View.le_trans (View.le_trans (View.le_trans (View.le_trans (View.le_trans (View.le_trans hV1 hV2) hV4) hV6) hV9) hV12) hV14) hV17) (.cons_cons _ (.cons _ (.cons _ List.Sublist.slnil))) (OldAll.box OldAll.nil)) (by kernel_rfl) (fun _ _ => by kernel_rfl) ?_
                          refine TA.take 3 (.pointer (some ⟨b3, 2, none⟩)) rfl (by kernel_rfl) (by kernel_rfl) (by kernel_rfl) (fun _ _ _ h => h) (Hp.old (View.le_refl _) (View.le_trans (View.le_trans (View.le_trans (View.le_trans (View.le_trans (View.le_trans (View.le_trans hV1 hV2) hV4) hV6) hV9) hV12) hV14) hV17) (.cons_cons _ (.cons _ (.cons _ List.Sublist.slnil))) (OldAll.box OldAll.nil)) (by kernel_rfl) (fun _ _ => by kernel_rfl) ?_
                          refine TA.take 5 (.pointer (some ⟨b3, 0, none⟩)) rfl (by kernel_rfl) (by kernel_rfl) (by kernel_rfl) (fun _ _ _ h => h) (Hp.old (View.le_refl _) (View.le_trans (View.le_trans (View.le_trans (View.le_trans (View.le_trans (View.le_trans (View.le_trans hV1 hV2) hV4) hV6) hV9) hV12) hV14) hV17) (.cons_cons _ (.cons _ (.cons _ List.Sublist.slnil))) (OldAll.box OldAll.nil)) (by kernel_rfl) (fun _ _ => by kernel_rfl) ?_
                          refine TA.take 6 (.pointer (some ⟨b3, 0, none⟩)) rfl (by kernel_rfl) (by kernel_rfl) (by kernel_rfl) (fun _ _ _ h => h) (Hp.old (View.le_refl _) (View.le_trans (View.le_trans (View.le_trans (View.le_trans (View.le_trans (View.le_trans (View.le_trans hV1 hV2) hV4) hV6) hV9) hV12) hV14) hV17) (.cons_cons _ (.cons _ (.cons _ List.Sublist.slnil))) (OldAll.box OldAll.nil)) (by kernel_rfl) (fun _ _ => by kernel_rfl) ?_
                          refine TA.take 7 (.pointer (some ⟨b3, 0, none⟩)) rfl (by kernel_rfl) (by kernel_rfl) (by kernel_rfl) (fun _ _ _ h => h) (Hp.old (View.le_refl _) (View.le_trans (View.le_trans (View.le_trans (View.le_trans (View.le_trans (View.le_trans (View.le_trans hV1 hV2) hV4) hV6) hV9) hV12) hV14) hV17) (.cons_cons _ (.cons _ (.cons _ List.Sublist.slnil))) (OldAll.box OldAll.nil)) (by kernel_rfl) (fun _ _ => by kernel_rfl) ?_
                          refine TA.all [4, 8] (by kernel_rfl) rfl ⟨?_, ?_, trivial⟩
                          ·
                            refine TA.br rfl (W1.look (.slice A31 x6.length c31) (by kernel_rfl) (fun w' hh => exec_load1 rfl rfl (by kernel_rfl) (hh.cellBox (i := 2) (by rfl) 2)) ?_)
                            refine TA.on (Hp.old (View.le_refl _) (View.le_trans (View.le_trans (View.le_trans (View.le_trans (View.le_trans (View.le_trans (View.le_trans hV1 hV2) hV4) hV6) hV9) hV12) hV14) hV17) (.cons_cons _ (.cons _ (.cons _ List.Sublist.slnil))) (OldAll.box OldAll.nil)) ?_
                            refine TA.all [8] (by kernel_rfl) rfl ⟨?_, trivial⟩
                            refine TA.br rfl (W1.look (.agg #[.slice A40 r12.1.pages.length c40, .slice A41 r12.1.writes.length c41]) (by kernel_rfl) (fun w' hh => exec_loadN (cs := [.slice A40 r12.1.pages.length c40, .slice A41 r12.1.writes.length c41]) rfl rfl (by kernel_rfl) (by kernel_rfl) (fun j u hj => (hh.box_at (i := 2) (cs := [.slice A40 r12.1.pages.length c40, .slice A41 r12.1.writes.length c41, .slice A31 x6.length c31]) (by rfl) 0 j).trans (seg_at (n := 2) (by rfl) hj))) ?_)
                            refine TA.on (Hp.old (View.le_refl _) (View.le_trans (View.le_trans (View.le_trans (View.le_trans (View.le_trans (View.le_trans (View.le_trans hV1 hV2) hV4) hV6) hV9) hV12) hV14) hV17) (.cons_cons _ (.cons _ (.cons _ List.Sublist.slnil))) (OldAll.box OldAll.nil)) ?_
                            refine TA.all [9] (by kernel_rfl) rfl ⟨?_, trivial⟩
                            refine TA.br rfl (W1.new 25 [.slice A40 r12.1.pages.length c40, .slice A41 r12.1.writes.length c41] (fun b => .slice (some ⟨b, 0, none⟩) 1 1) (by kernel_rfl) (fun _ => by kernel_rfl) (fun b9 => ?_))
                            refine TA.on (Hp.old (View.le_refl _) (View.le_trans (View.le_trans (View.le_trans (View.le_trans (View.le_trans (View.le_trans (View.le_trans hV1 hV2) hV4) hV6) hV9) hV12) hV14) hV17) (.cons _ (.cons_cons _ (.cons _ (.cons _ List.Sublist.slnil)))) (OldAll.box OldAll.nil)) ?_
                            refine TA.all [10] (by kernel_rfl) rfl ⟨?_, trivial⟩
                            obtain ⟨hb20_r, hb20_m, rfl⟩ := grow_some hb20
                            obtain ⟨ti, hti, hz1, hz2, hz3⟩ := info_parts (P := Try.prog) (e := 25) (z := .agg #[.slice none 0 0, .slice none 0 0]) (size := 2) (bytes := 48) (by kernel_rfl)
                            refine TA.br rfl (W1.append (E := (eAt w eDisk)) (l := x6) (m := [r12.1]) 2 _ _ 48 ti _ (by rfl) (by kernel_rfl) rfl (by kernel_rfl) hti hz1 hz2 hz3 rfl (Nat.le_of_ble_eq_true rfl) rfl rfl (fun w' hh => (src_one (E := (eAt w eDisk)) hh (i := 0) (by rfl) ⟨A40, c40, A41, c41, rfl, (SlOk.mono hs26 (made_mono (View.le_refl _))), (SlOk.mono hs27 (made_mono (View.le_refl _)))⟩)) hb20_r hb20_m (fun A42 c42 => ?_))
                            refine TA.on (Hp.old (View.le_refl _) (View.le_trans (View.le_trans (View.le_trans (View.le_trans (View.le_trans (View.le_trans (View.le_trans hV1 hV2) hV4) hV6) hV9) hV12) hV14) hV17) (.cons _ (.cons_cons _ (.cons _ (.cons _ List.Sublist.slnil)))) (OldAll.box OldAll.nil)) ?_
                            refine TA.take 11 (.pointer (some ⟨b3, 0, none⟩)) rfl (by kernel_rfl) (by kernel_rfl) (by kernel_rfl) (fun _ _ _ h => h) (Hp.old (View.le_refl _) (View.le_trans (View.le_trans (View.le_trans (View.le_trans (View.le_trans (View.le_trans (View.le_trans hV1 hV2) hV4) hV6) hV9) hV12) hV14) hV17) (.cons _ (.cons_cons _ (.cons _ (.cons _ List.Sublist.slnil)))) (OldAll.box OldAll.nil)) (by kernel_rfl) (fun _ _ => by kernel_rfl) ?_
                            refine TA.take 12 (.pointer (some ⟨b3, 2, none⟩)) rfl (by kernel_rfl) (by kernel_rfl) (by kernel_rfl) (fun _ _ _ h => h) (Hp.old (View.le_refl _) (View.le_trans (View.le_trans (View.le_trans (View.le_trans (View.le_trans (View.le_trans (View.le_trans hV1 hV2) hV4) hV6) hV9) hV12) hV14) hV17) (.cons _ (.cons_cons _ (.cons _ (.cons _ List.Sublist.slnil)))) (OldAll.box OldAll.nil)) (by kernel_rfl) (fun _ _ => by kernel_rfl) ?_
                            refine TA.all [13] (by kernel_rfl) rfl ⟨?_, trivial⟩
                            refine TA.br rfl (W1.store 3 [.slice A40 r12.1.pages.length c40, .slice A41 r12.1.writes.length c41, .slice A42 ((x6 ++ [r12.1]).length) c42] [box b9 25 [.slice A40 r12.1.pages.length c40, .slice A41 r12.1.writes.length c41], box b8 52 [.int .i64 e3.page, .string e3.text], row 25 (eAt w eDisk) A42 c42 (x6 ++ [r12.1]), box b3 104 [.slice A40 r12.1.pages.length c40, .slice A41 r12.1.writes.length c41, .slice A42 ((x6 ++ [r12.1]).length) c42]] (by rfl) rfl (by kernel_rfl) (fun w' hw => exec_store (vs := [.slice A42 ((x6 ++ [r12.1]).length) c42]) rfl rfl rfl rfl (by kernel_rfl) (one_of rfl) (by simp) rfl hw) ?_)
                            refine TA.on (Hp.old (View.le_refl _) (View.le_trans (View.le_trans (View.le_trans (View.le_trans (View.le_trans (View.le_trans (View.le_trans hV1 hV2) hV4) hV6) hV9) hV12) hV14) hV17) (.cons _ (.cons_cons _ (.cons _ (.cons _ List.Sublist.slnil)))) (OldAll.box OldAll.nil)) ?_
                            refine TA.done (by kernel_rfl) ?_
                            exact fun a w' hf hh => Exists.intro A42 (Exists.intro c42 (And.intro (Fr.nil hf) (hh.sub (.cons _ (.cons_cons _ (.cons_cons _ (.cons_cons _ List.Sublist.slnil)))))))
                          ·
                            refine TA.br rfl (W1.look (.agg #[.slice A40 r12.1.pages.length c40, .slice A41 r12.1.writes.length c41]) (by kernel_rfl) (fun w' hh => exec_loadN (cs := [.slice A40 r12.1.pages.length c40, .slice A41 r12.1.writes.length c41]) rfl rfl (by kernel_rfl) (by kernel_rfl) (fun j u hj => (hh.box_at (i := 2) (cs := [.slice A40 r12.1.pages.length c40, .slice A41 r12.1.writes.length c41, .slice A31 x6.length c31]) (by rfl) 0 j).trans (seg_at (n := 2) (by rfl) hj))) ?_)
                            refine TA.on (Hp.old (View.le_refl _) (View.le_trans (View.le_trans (View.le_trans (View.le_trans (View.le_trans (View.le_trans (View.le_trans hV1 hV2) hV4) hV6) hV9) hV12) hV14) hV17) (.cons_cons _ (.cons _ (.cons _ List.Sublist.slnil))) (OldAll.box OldAll.nil)) ?_
                            refine TA.all [4, 9] (by kernel_rfl) rfl ⟨?_, ?_, trivial⟩
                            ·
                              refine TA.br rfl (W1.look (.slice A31 x6.length c31) (by kernel_rfl) (fun w' hh => exec_load1 rfl rfl (by kernel_rfl) (hh.cellBox (i := 2) (by rfl) 2)) ?_)
                              refine TA.on (Hp.old (View.le_refl _) (View.le_trans (View.le_trans (View.le_trans (View.le_trans (View.le_trans (View.le_trans (View.le_trans hV1 hV2) hV4) hV6) hV9) hV12) hV14) hV17) (.cons_cons _ (.cons _ (.cons _ List.Sublist.slnil))) (OldAll.box OldAll.nil)) ?_
                              refine TA.all [9] (by kernel_rfl) rfl ⟨?_, trivial⟩
                              refine TA.br rfl (W1.new 25 [.slice A40 r12.1.pages.length c40, .slice A41 r12.1.writes.length c41] (fun b => .slice (some ⟨b, 0, none⟩) 1 1) (by kernel_rfl) (fun _ => by kernel_rfl) (fun b9 => ?_))
                              refine TA.on (Hp.old (View.le_refl _) (View.le_trans (View.le_trans (View.le_trans (View.le_trans (View.le_trans (View.le_trans (View.le_trans hV1 hV2) hV4) hV6) hV9) hV12) hV14) hV17) (.cons _ (.cons_cons _ (.cons _ (.cons _ List.Sublist.slnil)))) (OldAll.box OldAll.nil)) ?_
                              refine TA.all [10] (by kernel_rfl) rfl ⟨?_, trivial⟩
                              obtain ⟨hb20_r, hb20_m, rfl⟩ := grow_some hb20
                              obtain ⟨ti, hti, hz1, hz2, hz3⟩ := info_parts (P := Try.prog) (e := 25) (z := .agg #[.slice none 0 0, .slice none 0 0]) (size := 2) (bytes := 48) (by kernel_rfl)
                              refine TA.br rfl (W1.append (E := (eAt w eDisk)) (l := x6) (m := [r12.1]) 2 _ _ 48 ti _ (by rfl) (by kernel_rfl) rfl (by kernel_rfl) hti hz1 hz2 hz3 rfl (Nat.le_of_ble_eq_true rfl) rfl rfl (fun w' hh => (src_one (E := (eAt w eDisk)) hh (i := 0) (by rfl) ⟨A40, c40, A41, c41, rfl, (SlOk.mono hs26 (made_mono (View.le_refl _))), (SlOk.mono hs27 (made_mono (View.le_refl _)))⟩)) hb20_r hb20_m (fun A42 c42 => ?_))
                              refine TA.on (Hp.old (View.le_refl _) (View.le_trans (View.le_trans (View.le_trans (View.le_trans (View.le_trans (View.le_trans (View.le_trans hV1 hV2) hV4) hV6) hV9) hV12) hV14) hV17) (.cons _ (.cons_cons _ (.cons _ (.cons _ List.Sublist.slnil)))) (OldAll.box OldAll.nil)) ?_
                              refine TA.take 11 (.pointer (some ⟨b3, 0, none⟩)) rfl (by kernel_rfl) (by kernel_rfl) (by kernel_rfl) (fun _ _ _ h => h) (Hp.old (View.le_refl _) (View.le_trans (View.le_trans (View.le_trans (View.le_trans (View.le_trans (View.le_trans (View.le_trans hV1 hV2) hV4) hV6) hV9) hV12) hV14) hV17) (.cons _ (.cons_cons _ (.cons _ (.cons _ List.Sublist.slnil)))) (OldAll.box OldAll.nil)) (by kernel_rfl) (fun _ _ => by kernel_rfl) ?_
                              refine TA.take 12 (.pointer (some ⟨b3, 2, none⟩)) rfl (by kernel_rfl) (by kernel_rfl) (by kernel_rfl) (fun _ _ _ h => h) (Hp.old (View.le_refl _) (View.le_trans (View.le_trans (View.le_trans (View.le_trans (View.le_trans (View.le_trans (View.le_trans hV1 hV2) hV4) hV6) hV9) hV12) hV14) hV17) (.cons _ (.cons_cons _ (.cons _ (.cons _ List.Sublist.slnil)))) (OldAll.box OldAll.nil)) (by kernel_rfl) (fun _ _ => by kernel_rfl) ?_
                              refine TA.all [13] (by kernel_rfl) rfl ⟨?_, trivial⟩
                              refine TA.br rfl (W1.store 3 [.slice A40 r12.1.pages.length c40, .slice A41 r12.1.writes.length c41, .slice A42 ((x6 ++ [r12.1]).length) c42] [box b9 25 [.slice A40 r12.1.pages.length c40, .slice A41 r12.1.writes.length c41], box b8 52 [.int .i64 e3.page, .string e3.text], row 25 (eAt w eDisk) A42 c42 (x6 ++ [r12.1]), box b3 104 [.slice A40 r12.1.pages.length c40, .slice A41 r12.1.writes.length c41, .slice A42 ((x6 ++ [r12.1]).length) c42]] (by rfl) rfl (by kernel_rfl) (fun w' hw => exec_store (vs := [.slice A42 ((x6 ++ [r12.1]).length) c42]) rfl rfl rfl rfl (by kernel_rfl) (one_of rfl) (by simp) rfl hw) ?_)
                              refine TA.on (Hp.old (View.le_refl _) (View.le_trans (View.le_trans (View.le_trans (View.le_trans (View.le_trans (View.le_trans (View.le_trans hV1 hV2) hV4) hV6) hV9) hV12) hV14) hV17) (.cons _ (.cons_cons _ (.cons _ (.cons _ List.Sublist.slnil)))) (OldAll.box OldAll.nil)) ?_
                              refine TA.done (by kernel_rfl) ?_
                              exact fun a w' hf hh => Exists.intro A42 (Exists.intro c42 (And.intro (Fr.nil hf) (hh.sub (.cons _ (.cons_cons _ (.cons_cons _ (.cons_cons _ List.Sublist.slnil)))))))
                            ·
                              refine TA.br rfl (W1.new 25 [.slice A40 r12.1.pages.length c40, .slice A41 r12.1.writes.length c41] (fun b => .slice (some ⟨b, 0, none⟩) 1 1) (by kernel_rfl) (fun _ => by kernel_rfl) (fun b9 => ?_))
                              refine TA.on (Hp.old (View.le_refl _) (View.le_trans (View.le_trans (View.le_trans (View.le_trans (View.le_trans (View.le_trans (View.le_trans hV1 hV2) hV4) hV6) hV9) hV12) hV14) hV17) (.cons _ (.cons_cons _ (.cons _ (.cons _ List.Sublist.slnil)))) (OldAll.box OldAll.nil)) ?_
                              refine TA.all [4] (by kernel_rfl) rfl ⟨?_, trivial⟩
                              refine TA.br rfl (W1.look (.slice A31 x6.length c31) (by kernel_rfl) (fun w' hh => exec_load1 rfl rfl (by kernel_rfl) (hh.cellBox (i := 3) (by rfl) 2)) ?_)
                              refine TA.on (Hp.old (View.le_refl _) (View.le_trans (View.le_trans (View.le_trans (View.le_trans (View.le_trans (View.le_trans (View.le_trans hV1 hV2) hV4) hV6) hV9) hV12) hV14) hV17) (.cons _ (.cons_cons _ (.cons _ (.cons _ List.Sublist.slnil)))) (OldAll.box OldAll.nil)) ?_
                              refine TA.all [10] (by kernel_rfl) rfl ⟨?_, trivial⟩
                              obtain ⟨hb20_r, hb20_m, rfl⟩ := grow_some hb20
                              obtain ⟨ti, hti, hz1, hz2, hz3⟩ := info_parts (P := Try.prog) (e := 25) (z := .agg #[.slice none 0 0, .slice none 0 0]) (size := 2) (bytes := 48) (by kernel_rfl)
                              refine TA.br rfl (W1.append (E := (eAt w eDisk)) (l := x6) (m := [r12.1]) 2 _ _ 48 ti _ (by rfl) (by kernel_rfl) rfl (by kernel_rfl) hti hz1 hz2 hz3 rfl (Nat.le_of_ble_eq_true rfl) rfl rfl (fun w' hh => (src_one (E := (eAt w eDisk)) hh (i := 0) (by rfl) ⟨A40, c40, A41, c41, rfl, (SlOk.mono hs26 (made_mono (View.le_refl _))), (SlOk.mono hs27 (made_mono (View.le_refl _)))⟩)) hb20_r hb20_m (fun A42 c42 => ?_))
                              refine TA.on (Hp.old (View.le_refl _) (View.le_trans (View.le_trans (View.le_trans (View.le_trans (View.le_trans (View.le_trans (View.le_trans hV1 hV2) hV4) hV6) hV9) hV12) hV14) hV17) (.cons _ (.cons_cons _ (.cons _ (.cons _ List.Sublist.slnil)))) (OldAll.box OldAll.nil)) ?_
                              refine TA.take 11 (.pointer (some ⟨b3, 0, none⟩)) rfl (by kernel_rfl) (by kernel_rfl) (by kernel_rfl) (fun _ _ _ h => h) (Hp.old (View.le_refl _) (View.le_trans (View.le_trans (View.le_trans (View.le_trans (View.le_trans (View.le_trans (View.le_trans hV1 hV2) hV4) hV6) hV9) hV12) hV14) hV17) (.cons _ (.cons_cons _ (.cons _ (.cons _ List.Sublist.slnil)))) (OldAll.box OldAll.nil)) (by kernel_rfl) (fun _ _ => by kernel_rfl) ?_
                              refine TA.take 12 (.pointer (some ⟨b3, 2, none⟩)) rfl (by kernel_rfl) (by kernel_rfl) (by kernel_rfl) (fun _ _ _ h => h) (Hp.old (View.le_refl _) (View.le_trans (View.le_trans (View.le_trans (View.le_trans (View.le_trans (View.le_trans (View.le_trans hV1 hV2) hV4) hV6) hV9) hV12) hV14) hV17) (.cons _ (.cons_cons _ (.cons _ (.cons _ List.Sublist.slnil)))) (OldAll.box OldAll.nil)) (by kernel_rfl) (fun _ _ => by kernel_rfl) ?_
                              refine TA.all [13] (by kernel_rfl) rfl ⟨?_, trivial⟩
                              refine TA.br rfl (W1.store 3 [.slice A40 r12.1.pages.length c40, .slice A41 r12.1.writes.length c41, .slice A42 ((x6 ++ [r12.1]).length) c42] [box b9 25 [.slice A40 r12.1.pages.length c40, .slice A41 r12.1.writes.length c41], box b8 52 [.int .i64 e3.page, .string e3.text], row 25 (eAt w eDisk) A42 c42 (x6 ++ [r12.1]), box b3 104 [.slice A40 r12.1.pages.length c40, .slice A41 r12.1.writes.length c41, .slice A42 ((x6 ++ [r12.1]).length) c42]] (by rfl) rfl (by kernel_rfl) (fun w' hw => exec_store (vs := [.slice A42 ((x6 ++ [r12.1]).length) c42]) rfl rfl rfl rfl (by kernel_rfl) (one_of rfl) (by simp) rfl hw) ?_)
                              refine TA.on (Hp.old (View.le_refl _) (View.le_trans (View.le_trans (View.le_trans (View.le_trans (View.le_trans (View.le_trans (View.le_trans hV1 hV2) hV4) hV6) hV9) hV12) hV14) hV17) (.cons _ (.cons_cons _ (.cons _ (.cons _ List.Sublist.slnil)))) (OldAll.box OldAll.nil)) ?_
                              refine TA.done (by kernel_rfl) ?_
                              exact fun a w' hf hh => Exists.intro A42 (Exists.intro c42 (And.intro (Fr.nil hf) (hh.sub (.cons _ (.cons_cons _ (.cons_cons _ (.cons_cons _ List.Sublist.slnil)))))))
                        ·
                          rintro a w' ⟨A43, c43, hf, hh⟩
                          refine (?_ : T 32 w V17 [box b8 52 [.int .i64 e3.page, .string e3.text], row 25 (eAt w eDisk) A43 c43 (x6 ++ [r12.1]), box b3 104 [.slice A40 r12.1.pages.length c40, .slice A41 r12.1.writes.length c41, .slice A43 ((x6 ++ [r12.1]).length) c43]] [] _) a w' hf hh
                          clear hf hh
                          cases hX4
                          exact T.end0 rfl fun w' hh => ⟨_, rfl, Exists.intro (x6 ++ [r12.1]) (Exists.intro r12.1.pages (Exists.intro r12.1.writes (And.intro rfl (Exists.intro A43 (Exists.intro c43 (Exists.intro A40 (Exists.intro c40 (Exists.intro A41 (Exists.intro c41 (Exists.intro V17 (And.intro hV17 (And.intro (SlOk.mono hs26 (made_mono (View.le_refl _))) (And.intro (SlOk.mono hs27 (made_mono (View.le_refl _))) (And.intro rfl (hh.sub (.cons_cons _ (.cons_cons _ (.cons_cons _ List.Sublist.slnil))))))))))))))))))⟩
                      ·
                        rintro v w' ⟨z16, z17, z18, rfl, A37, c37, A38, c38, A39, c39, V16, hV16, hs24, hs25, rfl, hh⟩
                        try dsimp only at hY3
                        refine ⟨V16, [box b8 52 [.int .i64 e3.page, .string e3.text], row 25 (eAt w eDisk) A37 c37 z16, box b3 104 [.slice A38 z17.length c38, .slice A39 z18.length c39, .slice A37 z16.length c37]], hh, ?_⟩
                        clear hh
                        refine T.nil ?_
                        refine T.region ?_
                        refine T.pure (.int .i64 (IntKind.i64.wrap (x9 + 1))) (by kernel_rfl) (fun _ => by kernel_rfl) ?_
                        refine T.pure (.int .i64 (IntKind.i64.wrap (x9 + 1))) (by kernel_rfl) (fun _ => by kernel_rfl) ?_
                        refine T.nil ?_
                        cases hY3
                        exact fun a w' hf hh => Exists.intro (z16, z17, z18, IntKind.i64.wrap (x9 + 1)) (And.intro rfl (Exists.intro z16 (Exists.intro z17 (Exists.intro z18 (Exists.intro (IntKind.i64.wrap (x9 + 1)) (And.intro rfl (Exists.intro A37 (Exists.intro c37 (Exists.intro A38 (Exists.intro c38 (Exists.intro A39 (Exists.intro c39 (Exists.intro V16 (And.intro (View.le_trans hV14 hV16) (And.intro (SlOk.mono hs24 (made_mono (View.le_refl _))) (And.intro (SlOk.mono hs25 (made_mono (View.le_refl _))) (And.intro (((((((Fr.nil hf).pick hf 95 rfl).pick hf 94 rfl).pick hf 93 rfl).pick hf 14 rfl).pick hf 8 rfl).pick hf 1 rfl) (hh.sub (.cons _ (.cons_cons _ (.cons_cons _ List.Sublist.slnil)))))))))))))))))))))
                    ·
                      rw [hc7, cond_false] at hY3
                      refine T.exit ?_
                      cases hY3
                      cases (hr6 _ rfl)
                      exact fun a w' hf hh => Exists.intro x6 (Exists.intro x7 (Exists.intro x8 (And.intro rfl (Exists.intro A31 (Exists.intro c31 (Exists.intro A32 (Exists.intro c32 (Exists.intro A33 (Exists.intro c33 (Exists.intro V14 (And.intro hV14 (And.intro (SlOk.mono hs20 (made_mono (View.le_refl _))) (And.intro (SlOk.mono hs21 (made_mono (View.le_refl _))) (And.intro ((((Fr.nil hf).pick hf 14 rfl).pick hf 8 rfl).pick hf 1 rfl) (hh.sub (.cons_cons _ (.cons_cons _ List.Sublist.slnil)))))))))))))))))
                ·
                  rintro a w' ⟨z13, z14, z15, rfl, A34, c34, A35, c35, A36, c36, V15, hV15, hs22, hs23, hf, hh⟩
                  try dsimp only at hF
                  refine (?_ : T 124 w V15 [row 25 (eAt w eDisk) A34 c34 z13, box b3 104 [.slice A35 z14.length c35, .slice A36 z15.length c36, .slice A34 z13.length c34]] [(1, .string p1), (8, .int .i64 r1.1), (14, .pointer (some ⟨b3, 0, none⟩))] _) a w' hf hh
                  clear hf hh
                  refine T.seq ?_
                  refine T.region ?_
                  refine T.pure (.pointer (some ⟨b3, 0, none⟩)) (by kernel_rfl) (fun _ => by kernel_rfl) ?_
                  obtain ⟨q8, hX5, hF⟩ := Option.bind_eq_some_iff.1 hF
                  refine T.step (W1.within 52 [.pointer (some ⟨b3, 0, none⟩)] (fun v w' => ∃ (z19 : List DDisk) (z20 : List ByteArray) (z21 : List DWrite), q8 = (z19, z20, z21) ∧ ∃ (A44 : Option Addr) (c44 : Nat) (A45 : Option Addr) (c45 : Nat) (A46 : Option Addr) (c46 : Nat) (V18 : View), View.le V15 V18 ∧ SlOk (made w V18) eStr A45 c45 z20 ∧ SlOk (made w V18) eWrite A46 c46 z21 ∧ v = .tuple #[] ∧ Hp w V18 [row 25 (eAt w eDisk) A44 c44 z19, box b3 104 [.slice A45 z20.length c45, .slice A46 z21.length c46, .slice A44 z19.length c44]] w') Try.func52 rfl rfl (by kernel_rfl) (fun _ => by kernel_rfl) rfl ?_ ?_)
                  ·
                    refine T.seq ?_
                    refine T.region ?_
                    refine T.pure (.pointer (some ⟨b3, 0, none⟩)) (by kernel_rfl) (fun _ => by kernel_rfl) ?_
                    refine T.pure (.pointer (some ⟨b3, 0, none⟩)) (by kernel_rfl) (fun _ => by kernel_rfl) ?_
                    refine T.pure (.pointer (some ⟨b3, 0, none⟩)) (by kernel_rfl) (fun _ => by kernel_rfl) ?_
                    refine T.pure (.pointer (some ⟨b3, 0, none⟩)) (by kernel_rfl) (fun _ => by kernel_rfl) ?_
                    refine T.look (.agg #[.slice A35 z14.length c35, .slice A36 z15.length c36]) (by kernel_rfl) (fun w' hh => exec_loadN (cs := [.slice A35 z14.length c35, .slice A36 z15.length c36]) rfl rfl (by kernel_rfl) (by kernel_rfl) (fun j u hj => (hh.box_at (i := 1) (cs := [.slice A35 z14.length c35, .slice A36 z15.length c36, .slice A34 z13.length c34]) (by rfl) 0 j).trans (seg_at (n := 2) (by rfl) hj))) ?_
                    obtain ⟨r13, hb21, hX5⟩ := Option.bind_eq_some_iff.1 hX5
                    refine T.step (W1.call (vT2 (vAg eDisk) (vSc eInt)) r13 20 #[.agg #[.slice A35 z14.length c35, .slice A36 z15.length c36]] (by kernel_rfl) (fun _ => by kernel_rfl) (fun w' hh => disk_Sync_l F (DDisk.mk z14 z15) r13 hb21 w' A35 c35 (SlOk.mono (SlOk.mono hs22 (View.le_trans (made_le _ _) (View.le_refl _))) hh.view) A36 c36 (SlOk.mono (SlOk.mono hs23 (View.le_trans (made_le _ _) (View.le_refl _))) hh.view)) ?_)
                    intro u V19 hV19 hu
                    obtain ⟨u9, u10, rfl, hu9, hu10⟩ := vT2_elim hu
                    obtain ⟨cs5, rfl, hr8⟩ := vagg_elim hu9
                    obtain ⟨A47, c47, A48, c48, rfl, hs30, hs31⟩ := hr8
                    obtain rfl := sureInt _ _ _ hu10
                    refine T.pure (.tuple #[.agg #[.slice A47 r13.1.pages.length c47, .slice A48 r13.1.writes.length c48], .int .i64 r13.2]) (by kernel_rfl) (fun _ => by kernel_rfl) ?_
                    refine T.pure (.agg #[.slice A47 r13.1.pages.length c47, .slice A48 r13.1.writes.length c48]) (by kernel_rfl) (fun _ => by kernel_rfl) ?_
                    refine T.pure (.int .i64 r13.2) (by kernel_rfl) (fun _ => by kernel_rfl) ?_
                    refine T.pure (.pointer (some ⟨b3, 0, none⟩)) (by kernel_rfl) (fun _ => by kernel_rfl) ?_
                    refine T.pure (.pointer (some ⟨b3, 0, none⟩)) (by kernel_rfl) (fun _ => by kernel_rfl) ?_
                    refine T.step (W1.store 1 [.slice A47 r13.1.pages.length c47, .slice A48 r13.1.writes.length c48, .slice A34 z13.length c34] [row 25 (eAt w eDisk) A34 c34 z13, box b3 104 [.slice A47 r13.1.pages.length c47, .slice A48 r13.1.writes.length c48, .slice A34 z13.length c34]] (by rfl) rfl (by kernel_rfl) (fun w' hw => exec_store (vs := [.slice A47 r13.1.pages.length c47, .slice A48 r13.1.writes.length c48]) rfl rfl rfl rfl (by kernel_rfl) (one_of rfl) (by simp) rfl hw) ?_)
                    refine T.nil ?_
                    obtain ⟨y8, hb22, hX5⟩ := Option.bind_eq_some_iff.1 hX5
                    refine T.mid (fun a w' => ∃ (A50 : Option Addr) (c50 : Nat), Fr 26 [] a ∧ Hp w V19 [row 25 (eAt w eDisk) A50 c50 (z13 ++ [r13.1]), box b3 104 [.slice A47 r13.1.pages.length c47, .slice A48 r13.1.writes.length c48, .slice A50 ((z13 ++ [r13.1]).length) c50]] w') ?_ ?_
                    ·
                      refine T.held [] (by kernel_rfl) ?_
                      refine TA.take 0 (.pointer (some ⟨b3, 0, none⟩)) rfl (by kernel_rfl) (by kernel_rfl) (by kernel_rfl) (fun _ _ _ h => h) (Hp.old (View.le_refl _) (View.le_trans (View.le_trans (View.le_trans (View.le_trans (View.le_trans (View.le_trans (View.le_trans hV1 hV2) hV4) hV6) hV9) hV12) hV15) hV19) (.cons _ (.cons _ List.Sublist.slnil)) OldAll.nil) (by kernel_rfl) (fun _ _ => by kernel_rfl) ?_
                      refine TA.take 1 (.pointer (some ⟨b3, 0, none⟩)) rfl (by kernel_rfl) (by kernel_rfl) (by kernel_rfl) (fun _ _ _ h => h) (Hp.old (View.le_refl _) (View.le_trans (View.le_trans (View.le_trans (View.le_trans (View.le_trans (View.le_trans (View.le_trans hV1 hV2) hV4) hV6) hV9) hV12) hV15) hV19) (.cons _ (.cons _ List.Sublist.slnil)) OldAll.nil) (by kernel_rfl) (fun _ _ => by kernel_rfl) ?_
                      refine TA.take 2 (.pointer (some ⟨b3, 0, none⟩)) rfl (by kernel_rfl) (by kernel_rfl) (by kernel_rfl) (fun _ _ _ h => h) (Hp.old (View.le_refl _) (View.le_trans (View.le_trans (View.le_trans (View.le_trans (View.le_trans (View.le_trans (View.le_trans hV1 hV2) hV4) hV6) hV9) hV12) hV15) hV19) (.cons _ (.cons _ List.Sublist.slnil)) OldAll.nil) (by kernel_rfl) (fun _ _ => by kernel_rfl) ?_
                      refine TA.take 3 (.pointer (some ⟨b3, 2, none⟩)) rfl (by kernel_rfl) (by kernel_rfl) (by kernel_rfl) (fun _ _ _ h => h) (Hp.old (View.le_refl _) (View.le_trans (View.le_trans (View.le_trans (View.le_trans (View.le_trans (View.le_trans (View.le_trans hV1 hV2) hV4) hV6) hV9) hV12) hV15) hV19) (.cons _ (.cons _ List.Sublist.slnil)) OldAll.nil) (by kernel_rfl) (fun _ _ => by kernel_rfl) ?_
                      refine TA.take 5 (.pointer (some ⟨b3, 0, none⟩)) rfl (by kernel_rfl) (by kernel_rfl) (by kernel_rfl) (fun _ _ _ h => h) (Hp.old (View.le_refl _) (View.le_trans (View.le_trans (View.le_trans (View.le_trans (View.le_trans (View.le_trans (View.le_trans hV1 hV2) hV4) hV6) hV9) hV12) hV15) hV19) (.cons _ (.cons _ List.Sublist.slnil)) OldAll.nil) (by kernel_rfl) (fun _ _ => by kernel_rfl) ?_
                      refine TA.take 6 (.pointer (some ⟨b3, 0, none⟩)) rfl (by kernel_rfl) (by kernel_rfl) (by kernel_rfl) (fun _ _ _ h => h) (Hp.old (View.le_refl _) (View.le_trans (View.le_trans (View.le_trans (View.le_trans (View.le_trans (View.le_trans (View.le_trans hV1 hV2) hV4) hV6) hV9) hV12) hV15) hV19) (.cons _ (.cons _ List.Sublist.slnil)) OldAll.nil) (by kernel_rfl) (fun _ _ => by kernel_rfl) ?_
                      refine TA.take 7 (.pointer (some ⟨b3, 0, none⟩)) rfl (by kernel_rfl) (by kernel_rfl) (by kernel_rfl) (fun _ _ _ h => h) (Hp.old (View.le_refl _) (View.le_trans (View.le_trans (View.le_trans (View.le_trans (View.le_trans (View.le_trans (View.le_trans hV1 hV2) hV4) hV6) hV9) hV12) hV15) hV19) (.cons _ (.cons _ List.Sublist.slnil)) OldAll.nil) (by kernel_rfl) (fun _ _ => by kernel_rfl) ?_
                      refine TA.all [4, 8] (by kernel_rfl) rfl ⟨?_, ?_, trivial⟩
                      ·
                        refine TA.br rfl (W1.look (.slice A34 z13.length c34) (by kernel_rfl) (fun w' hh => exec_load1 rfl rfl (by kernel_rfl) (hh.cellBox (i := 1) (by rfl) 2)) ?_)
                        refine TA.on (Hp.old (View.le_refl _) (View.le_trans (View.le_trans (View.le_trans (View.le_trans (View.le_trans (View.le_trans (View.le_trans hV1 hV2) hV4) hV6) hV9) hV12) hV15) hV19) (.cons _ (.cons _ List.Sublist.slnil)) OldAll.nil) ?_
                        refine TA.all [8] (by kernel_rfl) rfl ⟨?_, trivial⟩
                        refine TA.br rfl (W1.look (.agg #[.slice A47 r13.1.pages.length c47, .slice A48 r13.1.writes.length c48]) (by kernel_rfl) (fun w' hh => exec_loadN (cs := [.slice A47 r13.1.pages.length c47, .slice A48 r13.1.writes.length c48]) rfl rfl (by kernel_rfl) (by kernel_rfl) (fun j u hj => (hh.box_at (i := 1) (cs := [.slice A47 r13.1.pages.length c47, .slice A48 r13.1.writes.length c48, .slice A34 z13.length c34]) (by rfl) 0 j).trans (seg_at (n := 2) (by rfl) hj))) ?_)
                        refine TA.on (Hp.old (View.le_refl _) (View.le_trans (View.le_trans (View.le_trans (View.le_trans (View.le_trans (View.le_trans (View.le_trans hV1 hV2) hV4) hV6) hV9) hV12) hV15) hV19) (.cons _ (.cons _ List.Sublist.slnil)) OldAll.nil) ?_
                        refine TA.all [9] (by kernel_rfl) rfl ⟨?_, trivial⟩
                        refine TA.br rfl (W1.new 25 [.slice A47 r13.1.pages.length c47, .slice A48 r13.1.writes.length c48] (fun b => .slice (some ⟨b, 0, none⟩) 1 1) (by kernel_rfl) (fun _ => by kernel_rfl) (fun b10 => ?_))
                        refine TA.on (Hp.old (View.le_refl _) (View.le_trans (View.le_trans (View.le_trans (View.le_trans (View.le_trans (View.le_trans (View.le_trans hV1 hV2) hV4) hV6) hV9) hV12) hV15) hV19) (.cons _ (.cons _ (.cons _ List.Sublist.slnil))) OldAll.nil) ?_
                        refine TA.all [10] (by kernel_rfl) rfl ⟨?_, trivial⟩
                        obtain ⟨hb22_r, hb22_m, rfl⟩ := grow_some hb22
                        obtain ⟨ti, hti, hz1, hz2, hz3⟩ := info_parts (P := Try.prog) (e := 25) (z := .agg #[.slice none 0 0, .slice none 0 0]) (size := 2) (bytes := 48) (by kernel_rfl)
                        refine TA.br rfl (W1.append (E := (eAt w eDisk)) (l := z13) (m := [r13.1]) 1 _ _ 48 ti _ (by rfl) (by kernel_rfl) rfl (by kernel_rfl) hti hz1 hz2 hz3 rfl (Nat.le_of_ble_eq_true rfl) rfl rfl (fun w' hh => (src_one (E := (eAt w eDisk)) hh (i := 0) (by rfl) ⟨A47, c47, A48, c48, rfl, (SlOk.mono hs30 (made_mono (View.le_refl _))), (SlOk.mono hs31 (made_mono (View.le_refl _)))⟩)) hb22_r hb22_m (fun A49 c49 => ?_))
                        refine TA.on (Hp.old (View.le_refl _) (View.le_trans (View.le_trans (View.le_trans (View.le_trans (View.le_trans (View.le_trans (View.le_trans hV1 hV2) hV4) hV6) hV9) hV12) hV15) hV19) (.cons _ (.cons _ (.cons _ List.Sublist.slnil))) OldAll.nil) ?_
                        refine TA.take 11 (.pointer (some ⟨b3, 0, none⟩)) rfl (by kernel_rfl) (by kernel_rfl) (by kernel_rfl) (fun _ _ _ h => h) (Hp.old (View.le_refl _) (View.le_trans (View.le_trans (View.le_trans (View.le_trans (View.le_trans (View.le_trans (View.le_trans hV1 hV2) hV4) hV6) hV9) hV12) hV15) hV19) (.cons _ (.cons _ (.cons _ List.Sublist.slnil))) OldAll.nil) (by kernel_rfl) (fun _ _ => by kernel_rfl) ?_
                        refine TA.take 12 (.pointer (some ⟨b3, 2, none⟩)) rfl (by kernel_rfl) (by kernel_rfl) (by kernel_rfl) (fun _ _ _ h => h) (Hp.old (View.le_refl _) (View.le_trans (View.le_trans (View.le_trans (View.le_trans (View.le_trans (View.le_trans (View.le_trans hV1 hV2) hV4) hV6) hV9) hV12) hV15) hV19) (.cons _ (.cons _ (.cons _ List.Sublist.slnil))) OldAll.nil) (by kernel_rfl) (fun _ _ => by kernel_rfl) ?_
                        refine TA.all [13] (by kernel_rfl) rfl ⟨?_, trivial⟩
                        refine TA.br rfl (W1.store 2 [.slice A47 r13.1.pages.length c47, .slice A48 r13.1.writes.length c48, .slice A49 ((z13 ++ [r13.1]).length) c49] [box b10 25 [.slice A47 r13.1.pages.length c47, .slice A48 r13.1.writes.length c48], row 25 (eAt w eDisk) A49 c49 (z13 ++ [r13.1]), box b3 104 [.slice A47 r13.1.pages.length c47, .slice A48 r13.1.writes.length c48, .slice A49 ((z13 ++ [r13.1]).length) c49]] (by rfl) rfl (by kernel_rfl) (fun w' hw => exec_store (vs := [.slice A49 ((z13 ++ [r13.1]).length) c49]) rfl rfl rfl rfl (by kernel_rfl) (one_of rfl) (by simp) rfl hw) ?_)
                        refine TA.on (Hp.old (View.le_refl _) (View.le_trans (View.le_trans (View.le_trans (View.le_trans (View.le_trans (View.le_trans (View.le_trans hV1 hV2) hV4) hV6) hV9) hV12) hV15) hV19) (.cons _ (.cons _ (.cons _ List.Sublist.slnil))) OldAll.nil) ?_
                        refine TA.done (by kernel_rfl) ?_
                        exact fun a w' hf hh => Exists.intro A49 (Exists.intro c49 (And.intro (Fr.nil hf) (hh.sub (.cons _ (.cons_cons _ (.cons_cons _ List.Sublist.slnil))))))
                      ·
                        refine TA.br rfl (W1.look (.agg #[.slice A47 r13.1.pages.length c47, .slice A48 r13.1.writes.length c48]) (by kernel_rfl) (fun w' hh => exec_loadN (cs := [.slice A47 r13.1.pages.length c47, .slice A48 r13.1.writes.length c48]) rfl rfl (by kernel_rfl) (by kernel_rfl) (fun j u hj => (hh.box_at (i := 1) (cs := [.slice A47 r13.1.pages.length c47, .slice A48 r13.1.writes.length c48, .slice A34 z13.length c34]) (by rfl) 0 j).trans (seg_at (n := 2) (by rfl) hj))) ?_)
                        refine TA.on (Hp.old (View.le_refl _) (View.le_trans (View.le_trans (View.le_trans (View.le_trans (View.le_trans (View.le_trans (View.le_trans hV1 hV2) hV4) hV6) hV9) hV12) hV15) hV19) (.cons _ (.cons _ List.Sublist.slnil)) OldAll.nil) ?_
                        refine TA.all [4, 9] (by kernel_rfl) rfl ⟨?_, ?_, trivial⟩
                        ·
                          refine TA.br rfl (W1.look (.slice A34 z13.length c34) (by kernel_rfl) (fun w' hh => exec_load1 rfl rfl (by kernel_rfl) (hh.cellBox (i := 1) (by rfl) 2)) ?_)
                          refine TA.on (Hp.old (View.le_refl _) (View.le_trans (View.le_trans (View.le_trans (View.le_trans (View.le_trans (View.le_trans (View.le_trans hV1 hV2) hV4) hV6) hV9) hV12) hV15) hV19) (.cons _ (.cons _ List.Sublist.slnil)) OldAll.nil) ?_
                          refine TA.all [9] (by kernel_rfl) rfl ⟨?_, trivial⟩
                          refine TA.br rfl (W1.new 25 [.slice A47 r13.1.pages.length c47, .slice A48 r13.1.writes.length c48] (fun b => .slice (some ⟨b, 0, none⟩) 1 1) (by kernel_rfl) (fun _ => by kernel_rfl) (fun b10 => ?_))
                          refine TA.on (Hp.old (View.le_refl _) (View.le_trans (View.le_trans (View.le_trans (View.le_trans (View.le_trans (View.le_trans (View.le_trans hV1 hV2) hV4) hV6) hV9) hV12) hV15) hV19) (.cons _ (.cons _ (.cons _ List.Sublist.slnil))) OldAll.nil) ?_
                          refine TA.all [10] (by kernel_rfl) rfl ⟨?_, trivial⟩
                          obtain ⟨hb22_r, hb22_m, rfl⟩ := grow_some hb22
                          obtain ⟨ti, hti, hz1, hz2, hz3⟩ := info_parts (P := Try.prog) (e := 25) (z := .agg #[.slice none 0 0, .slice none 0 0]) (size := 2) (bytes := 48) (by kernel_rfl)
                          refine TA.br rfl (W1.append (E := (eAt w eDisk)) (l := z13) (m := [r13.1]) 1 _ _ 48 ti _ (by rfl) (by kernel_rfl) rfl (by kernel_rfl) hti hz1 hz2 hz3 rfl (Nat.le_of_ble_eq_true rfl) rfl rfl (fun w' hh => (src_one (E := (eAt w eDisk)) hh (i := 0) (by rfl) ⟨A47, c47, A48, c48, rfl, (SlOk.mono hs30 (made_mono (View.le_refl _))), (SlOk.mono hs31 (made_mono (View.le_refl _)))⟩)) hb22_r hb22_m (fun A49 c49 => ?_))
                          refine TA.on (Hp.old (View.le_refl _) (View.le_trans (View.le_trans (View.le_trans (View.le_trans (View.le_trans (View.le_trans (View.le_trans hV1 hV2) hV4) hV6) hV9) hV12) hV15) hV19) (.cons _ (.cons _ (.cons _ List.Sublist.slnil))) OldAll.nil) ?_
                          refine TA.take 11 (.pointer (some ⟨b3, 0, none⟩)) rfl (by kernel_rfl) (by kernel_rfl) (by kernel_rfl) (fun _ _ _ h => h) (Hp.old (View.le_refl _) (View.le_trans (View.le_trans (View.le_trans (View.le_trans (View.le_trans (View.le_trans (View.le_trans hV1 hV2) hV4) hV6) hV9) hV12) hV15) hV19) (.cons _ (.cons _ (.cons _ List.Sublist.slnil))) OldAll.nil) (by kernel_rfl) (fun _ _ => by kernel_rfl) ?_
                          refine TA.take 12 (.pointer (some ⟨b3, 2, none⟩)) rfl (by kernel_rfl) (by kernel_rfl) (by kernel_rfl) (fun _ _ _ h => h) (Hp.old (View.le_refl _) (View.le_trans (View.le_trans (View.le_trans (View.le_trans (View.le_trans (View.le_trans (View.le_trans hV1 hV2) hV4) hV6) hV9) hV12) hV15) hV19) (.cons _ (.cons _ (.cons _ List.Sublist.slnil))) OldAll.nil) (by kernel_rfl) (fun _ _ => by kernel_rfl) ?_
                          refine TA.all [13] (by kernel_rfl) rfl ⟨?_, trivial⟩
                          refine TA.br rfl (W1.store 2 [.slice A47 r13.1.pages.length c47, .slice A48 r13.1.writes.length c48, .slice A49 ((z13 ++ [r13.1]).length) c49] [box b10 25 [.slice A47 r13.1.pages.length c47, .slice A48 r13.1.writes.length c48], row 25 (eAt w eDisk) A49 c49 (z13 ++ [r13.1]), box b3 104 [.slice A47 r13.1.pages.length c47, .slice A48 r13.1.writes.length c48, .slice A49 ((z13 ++ [r13.1]).length) c49]] (by rfl) rfl (by kernel_rfl) (fun w' hw => exec_store (vs := [.slice A49 ((z13 ++ [r13.1]).length) c49]) rfl rfl rfl rfl (by kernel_rfl) (one_of rfl) (by simp) rfl hw) ?_)
                          refine TA.on (Hp.old (View.le_refl _) (View.le_trans (View.le_trans (View.le_trans (View.le_trans (View.le_trans (View.le_trans (View.le_trans hV1 hV2) hV4) hV6) hV9) hV12) hV15) hV19) (.cons _ (.cons _ (.cons _ List.Sublist.slnil))) OldAll.nil) ?_
                          refine TA.done (by kernel_rfl) ?_
                          exact fun a w' hf hh => Exists.intro A49 (Exists.intro c49 (And.intro (Fr.nil hf) (hh.sub (.cons _ (.cons_cons _ (.cons_cons _ List.Sublist.slnil))))))
                        ·
                          refine TA.br rfl (W1.new 25 [.slice A47 r13.1.pages.length c47, .slice A48 r13.1.writes.length c48] (fun b => .slice (some ⟨b, 0, none⟩) 1 1) (by kernel_rfl) (fun _ => by kernel_rfl) (fun b10 => ?_))
                          refine TA.on (Hp.old (View.le_refl _) (View.le_trans (View.le_trans (View.le_trans (View.le_trans (View.le_trans (View.le_trans (View.le_trans hV1 hV2) hV4) hV6) hV9) hV12) hV15) hV19) (.cons _ (.cons _ (.cons _ List.Sublist.slnil))) OldAll.nil) ?_
                          refine TA.all [4] (by kernel_rfl) rfl ⟨?_, trivial⟩
                          refine TA.br rfl (W1.look (.slice A34 z13.length c34) (by kernel_rfl) (fun w' hh => exec_load1 rfl rfl (by kernel_rfl) (hh.cellBox (i := 2) (by rfl) 2)) ?_)
                          refine TA.on (Hp.old (View.le_refl _) (View.le_trans (View.le_trans (View.le_trans (View.le_trans (View.le_trans (View.le_trans (View.le_trans hV1 hV2) hV4) hV6) hV9) hV12) hV15) hV19) (.cons _ (.cons _ (.cons _ List.Sublist.slnil))) OldAll.nil) ?_
                          refine TA.all [10] (by kernel_rfl) rfl ⟨?_, trivial⟩
                          obtain ⟨hb22_r, hb22_m, rfl⟩ := grow_some hb22
                          obtain ⟨ti, hti, hz1, hz2, hz3⟩ := info_parts (P := Try.prog) (e := 25) (z := .agg #[.slice none 0 0, .slice none 0 0]) (size := 2) (bytes := 48) (by kernel_rfl)
                          refine TA.br rfl (W1.append (E := (eAt w eDisk)) (l := z13) (m := [r13.1]) 1 _ _ 48 ti _ (by rfl) (by kernel_rfl) rfl (by kernel_rfl) hti hz1 hz2 hz3 rfl (Nat.le_of_ble_eq_true rfl) rfl rfl (fun w' hh => (src_one (E := (eAt w eDisk)) hh (i := 0) (by rfl) ⟨A47, c47, A48, c48, rfl, (SlOk.mono hs30 (made_mono (View.le_refl _))), (SlOk.mono hs31 (made_mono (View.le_refl _)))⟩)) hb22_r hb22_m (fun A49 c49 => ?_))
                          refine TA.on (Hp.old (View.le_refl _) (View.le_trans (View.le_trans (View.le_trans (View.le_trans (View.le_trans (View.le_trans (View.le_trans hV1 hV2) hV4) hV6) hV9) hV12) hV15) hV19) (.cons _ (.cons _ (.cons _ List.Sublist.slnil))) OldAll.nil) ?_
                          refine TA.take 11 (.pointer (some ⟨b3, 0, none⟩)) rfl (by kernel_rfl) (by kernel_rfl) (by kernel_rfl) (fun _ _ _ h => h) (Hp.old (View.le_refl _) (View.le_trans (View.le_trans (View.le_trans (View.le_trans (View.le_trans (View.le_trans (View.le_trans hV1 hV2) hV4) hV6) hV9) hV12) hV15) hV19) (.cons _ (.cons _ (.cons _ List.Sublist.slnil))) OldAll.nil) (by kernel_rfl) (fun _ _ => by kernel_rfl) ?_
                          refine TA.take 12 (.pointer (some ⟨b3, 2, none⟩)) rfl (by kernel_rfl) (by kernel_rfl) (by kernel_rfl) (fun _ _ _ h => h) (Hp.old (View.le_refl _) (View.le_trans (View.le_trans (View.le_trans (View.le_trans (View.le_trans (View.le_trans (View.le_trans hV1 hV2) hV4) hV6) hV9) hV12) hV15) hV19) (.cons _ (.cons _ (.cons _ List.Sublist.slnil))) OldAll.nil) (by kernel_rfl) (fun _ _ => by kernel_rfl) ?_
                          refine TA.all [13] (by kernel_rfl) rfl ⟨?_, trivial⟩
                          refine TA.br rfl (W1.store 2 [.slice A47 r13.1.pages.length c47, .slice A48 r13.1.writes.length c48, .slice A49 ((z13 ++ [r13.1]).length) c49] [box b10 25 [.slice A47 r13.1.pages.length c47, .slice A48 r13.1.writes.length c48], row 25 (eAt w eDisk) A49 c49 (z13 ++ [r13.1]), box b3 104 [.slice A47 r13.1.pages.length c47, .slice A48 r13.1.writes.length c48, .slice A49 ((z13 ++ [r13.1]).length) c49]] (by rfl) rfl (by kernel_rfl) (fun w' hw => exec_store (vs := [.slice A49 ((z13 ++ [r13.1]).length) c49]) rfl rfl rfl rfl (by kernel_rfl) (one_of rfl) (by simp) rfl hw) ?_)
                          refine TA.on (Hp.old (View.le_refl _) (View.le_trans (View.le_trans (View.le_trans (View.le_trans (View.le_trans (View.le_trans (View.le_trans hV1 hV2) hV4) hV6) hV9) hV12) hV15) hV19) (.cons _ (.cons _ (.cons _ List.Sublist.slnil))) OldAll.nil) ?_
                          refine TA.done (by kernel_rfl) ?_
                          exact fun a w' hf hh => Exists.intro A49 (Exists.intro c49 (And.intro (Fr.nil hf) (hh.sub (.cons _ (.cons_cons _ (.cons_cons _ List.Sublist.slnil))))))
                    ·
                      rintro a w' ⟨A50, c50, hf, hh⟩
                      refine (?_ : T 26 w V19 [row 25 (eAt w eDisk) A50 c50 (z13 ++ [r13.1]), box b3 104 [.slice A47 r13.1.pages.length c47, .slice A48 r13.1.writes.length c48, .slice A50 ((z13 ++ [r13.1]).length) c50]] [] _) a w' hf hh
                      clear hf hh
                      cases hX5
                      exact T.end0 rfl fun w' hh => ⟨_, rfl, Exists.intro (z13 ++ [r13.1]) (Exists.intro r13.1.pages (Exists.intro r13.1.writes (And.intro rfl (Exists.intro A50 (Exists.intro c50 (Exists.intro A47 (Exists.intro c47 (Exists.intro A48 (Exists.intro c48 (Exists.intro V19 (And.intro hV19 (And.intro (SlOk.mono hs30 (made_mono (View.le_refl _))) (And.intro (SlOk.mono hs31 (made_mono (View.le_refl _))) (And.intro rfl (hh.sub (.cons_cons _ (.cons_cons _ List.Sublist.slnil)))))))))))))))))⟩
                  ·
                    rintro v w' ⟨z19, z20, z21, rfl, A44, c44, A45, c45, A46, c46, V18, hV18, hs28, hs29, rfl, hh⟩
                    try dsimp only at hF
                    refine ⟨V18, [row 25 (eAt w eDisk) A44 c44 z19, box b3 104 [.slice A45 z20.length c45, .slice A46 z21.length c46, .slice A44 z19.length c44]], hh, ?_⟩
                    clear hh
                    refine T.nil ?_
                    refine T.seq ?_
                    refine T.region ?_
                    refine T.pure (.int .i64 r1.1) (by kernel_rfl) (fun _ => by kernel_rfl) ?_
                    refine T.pure (.int .i64 (IntKind.i64.wrap (r1.1 + 1))) (by kernel_rfl) (fun _ => by kernel_rfl) ?_
                    refine T.pure (.string p1) (by kernel_rfl) (fun _ => by kernel_rfl) ?_
                    obtain ⟨r14, hb23, hF⟩ := Option.bind_eq_some_iff.1 hF
                    refine T.step (W1.call (vT2 (vSc eStr) (vSc eInt)) r14 17 #[.int .i64 (IntKind.i64.wrap (r1.1 + 1)), .string p1] (by kernel_rfl) (fun _ => by kernel_rfl) (fun w' hh => undo_Head_l F (IntKind.i64.wrap (r1.1 + 1)) p1 r14 hb23 w' ) ?_)
                    intro u V20 hV20 hu
                    obtain rfl := (Sure.t2 sureStr sureInt) _ _ _ hu
                    refine T.pure (.tuple #[.string r14.1, .int .i64 r14.2]) (by kernel_rfl) (fun _ => by kernel_rfl) ?_
                    refine T.pure (.string r14.1) (by kernel_rfl) (fun _ => by kernel_rfl) ?_
                    refine T.pure (.int .i64 r14.2) (by kernel_rfl) (fun _ => by kernel_rfl) ?_
                    refine T.pure (.string r14.1) (by kernel_rfl) (fun _ => by kernel_rfl) ?_
                    refine T.pure (.int .i64 r14.2) (by kernel_rfl) (fun _ => by kernel_rfl) ?_
                    refine T.nil ?_
                    refine T.seq ?_
                    refine T.region ?_
                    refine T.pure (.pointer (some ⟨b3, 0, none⟩)) (by kernel_rfl) (fun _ => by kernel_rfl) ?_
                    refine T.pure (.string r14.1) (by kernel_rfl) (fun _ => by kernel_rfl) ?_
                    obtain ⟨q9, hX6, hF⟩ := Option.bind_eq_some_iff.1 hF
                    refine T.step (W1.within 53 [.pointer (some ⟨b3, 0, none⟩), .int .i64 0, .string r14.1] (fun v w' => ∃ (z22 : List DDisk) (z23 : List ByteArray) (z24 : List DWrite), q9 = (z22, z23, z24) ∧ ∃ (A51 : Option Addr) (c51 : Nat) (A52 : Option Addr) (c52 : Nat) (A53 : Option Addr) (c53 : Nat) (V21 : View), View.le V20 V21 ∧ SlOk (made w V21) eStr A52 c52 z23 ∧ SlOk (made w V21) eWrite A53 c53 z24 ∧ v = .tuple #[] ∧ Hp w V21 [row 25 (eAt w eDisk) A51 c51 z22, box b3 104 [.slice A52 z23.length c52, .slice A53 z24.length c53, .slice A51 z22.length c51]] w') Try.func53 rfl rfl (by kernel_rfl) (fun _ => by kernel_rfl) rfl ?_ ?_)
                    ·
                      refine T.seq ?_
                      refine T.region ?_
                      refine T.pure (.pointer (some ⟨b3, 0, none⟩)) (by kernel_rfl) (fun _ => by kernel_rfl) ?_
                      refine T.pure (.pointer (some ⟨b3, 0, none⟩)) (by kernel_rfl) (fun _ => by kernel_rfl) ?_
                      refine T.pure (.pointer (some ⟨b3, 0, none⟩)) (by kernel_rfl) (fun _ => by kernel_rfl) ?_
                      refine T.pure (.pointer (some ⟨b3, 0, none⟩)) (by kernel_rfl) (fun _ => by kernel_rfl) ?_
                      refine T.look (.agg #[.slice A45 z20.length c45, .slice A46 z21.length c46]) (by kernel_rfl) (fun w' hh => exec_loadN (cs := [.slice A45 z20.length c45, .slice A46 z21.length c46]) rfl rfl (by kernel_rfl) (by kernel_rfl) (fun j u hj => (hh.box_at (i := 1) (cs := [.slice A45 z20.length c45, .slice A46 z21.length c46, .slice A44 z19.length c44]) (by rfl) 0 j).trans (seg_at (n := 2) (by rfl) hj))) ?_
                      refine T.pure (.int .i64 0) (by kernel_rfl) (fun _ => by kernel_rfl) ?_
                      refine T.pure (.string r14.1) (by kernel_rfl) (fun _ => by kernel_rfl) ?_
                      obtain ⟨r15, hb24, hX6⟩ := Option.bind_eq_some_iff.1 hX6
                      refine T.step (W1.call (vT2 (vAg eDisk) (vSc eInt)) r15 83 #[.agg #[.slice A45 z20.length c45, .slice A46 z21.length c46], .int .i64 0, .string r14.1] (by kernel_rfl) (fun _ => by kernel_rfl) (fun w' hh => disk_Put_l F (DDisk.mk z20 z21) 0 r14.1 r15 hb24 w' A45 c45 (SlOk.mono (SlOk.mono hs28 (View.le_trans (made_le _ _) hV20)) hh.view) A46 c46 (SlOk.mono (SlOk.mono hs29 (View.le_trans (made_le _ _) hV20)) hh.view)) ?_)
                      intro u V22 hV22 hu
                      obtain ⟨u11, u12, rfl, hu11, hu12⟩ := vT2_elim hu
                      obtain ⟨cs6, rfl, hr9⟩ := vagg_elim hu11
                      obtain ⟨A54, c54, A55, c55, rfl, hs34, hs35⟩ := hr9
                      obtain rfl := sureInt _ _ _ hu12
                      refine T.pure (.tuple #[.agg #[.slice A54 r15.1.pages.length c54, .slice A55 r15.1.writes.length c55], .int .i64 r15.2]) (by kernel_rfl) (fun _ => by kernel_rfl) ?_
                      refine T.pure (.agg #[.slice A54 r15.1.pages.length c54, .slice A55 r15.1.writes.length c55]) (by kernel_rfl) (fun _ => by kernel_rfl) ?_
                      refine T.pure (.int .i64 r15.2) (by kernel_rfl) (fun _ => by kernel_rfl) ?_
                      refine T.pure (.pointer (some ⟨b3, 0, none⟩)) (by kernel_rfl) (fun _ => by kernel_rfl) ?_
                      refine T.pure (.pointer (some ⟨b3, 0, none⟩)) (by kernel_rfl) (fun _ => by kernel_rfl) ?_
                      refine T.step (W1.store 1 [.slice A54 r15.1.pages.length c54, .slice A55 r15.1.writes.length c55, .slice A44 z19.length c44] [row 25 (eAt w eDisk) A44 c44 z19, box b3 104 [.slice A54 r15.1.pages.length c54, .slice A55 r15.1.writes.length c55, .slice A44 z19.length c44]] (by rfl) rfl (by kernel_rfl) (fun w' hw => exec_store (vs := [.slice A54 r15.1.pages.length c54, .slice A55 r15.1.writes.length c55]) rfl rfl rfl rfl (by kernel_rfl) (one_of rfl) (by simp) rfl hw) ?_)
                      refine T.nil ?_
                      obtain ⟨y9, hb25, hX6⟩ := Option.bind_eq_some_iff.1 hX6
                      refine T.mid (fun a w' => ∃ (A57 : Option Addr) (c57 : Nat), Fr 32 [] a ∧ Hp w V22 [row 25 (eAt w eDisk) A57 c57 (z19 ++ [r15.1]), box b3 104 [.slice A54 r15.1.pages.length c54, .slice A55 r15.1.writes.length c55, .slice A57 ((z19 ++ [r15.1]).length) c57]] w') ?_ ?_
                      ·
                        refine T.held [] (by kernel_rfl) ?_
                        refine TA.take 0 (.pointer (some ⟨b3, 0, none⟩)) rfl (by kernel_rfl) (by kernel_rfl) (by kernel_rfl) (fun _ _ _ h => h) (Hp.old (View.le_refl _) (View.le_trans (View.le_trans (View.le_trans (View.le_trans (View.le_trans (View.le_trans (View.le_trans (View.le_trans (View.le_trans hV1 hV2) hV4) hV6) hV9) hV12) hV15) hV18) hV20) hV22) (.cons _ (.cons _ List.Sublist.slnil)) OldAll.nil) (by kernel_rfl) (fun _ _ => by kernel_rfl) ?_
                        refine TA.take 1 (.pointer (some ⟨b3, 0, none⟩)) rfl (by kernel_rfl) (by kernel_rfl) (by kernel_rfl) (fun _ _ _ h => h) (Hp.old (View.le_refl _) (View.le_trans (View.le_trans (View.le_trans (View.le_trans (View.le_trans (View.le_trans (View.le_trans (View.le_trans (View.le_trans hV1 hV2) hV4) hV6) hV9) hV12) hV15) hV18) hV20) hV22) (.cons _ (.cons _ List.Sublist.slnil)) OldAll.nil) (by kernel_rfl) (fun _ _ => by kernel_rfl) ?_
                        refine TA.take 2 (.pointer (some ⟨b3, 0, none⟩)) rfl (by kernel_rfl) (by kernel_rfl) (by kernel_rfl) (fun _ _ _ h => h) (Hp.old (View.le_refl _) (View.le_trans (View.le_trans (View.le_trans (View.le_trans (View.le_trans (View.le_trans (View.le_trans (View.le_trans (View.le_trans hV1 hV2) hV4) hV6) hV9) hV12) hV15) hV18) hV20) hV22) (.cons _ (.cons _ List.Sublist.slnil)) OldAll.nil) (by kernel_rfl) (fun _ _ => by kernel_rfl) ?_
                        refine TA.take 3 (.pointer (some ⟨b3, 2, none⟩)) rfl (by kernel_rfl) (by kernel_rfl) (by kernel_rfl) (fun _ _ _ h => h) (Hp.old (View.le_refl _) (View.le_trans (View.le_trans (View.le_trans (View.le_trans (View.le_trans (View.le_trans (View.le_trans (View.le_trans (View.le_trans hV1 hV2) hV4) hV6) hV9) hV12) hV15) hV18) hV20) hV22) (.cons _ (.cons _ List.Sublist.slnil)) OldAll.nil) (by kernel_rfl) (fun _ _ => by kernel_rfl) ?_
                        refine TA.take 5 (.pointer (some ⟨b3, 0, none⟩)) rfl (by kernel_rfl) (by kernel_rfl) (by kernel_rfl) (fun _ _ _ h => h) (Hp.old (View.le_refl _) (View.le_trans (View.le_trans (View.le_trans (View.le_trans (View.le_trans (View.le_trans (View.le_trans (View.le_trans (View.le_trans hV1 hV2) hV4) hV6) hV9) hV12) hV15) hV18) hV20) hV22) (.cons _ (.cons _ List.Sublist.slnil)) OldAll.nil) (by kernel_rfl) (fun _ _ => by kernel_rfl) ?_
                        refine TA.take 6 (.pointer (some ⟨b3, 0, none⟩)) rfl (by kernel_rfl) (by kernel_rfl) (by kernel_rfl) (fun _ _ _ h => h) (Hp.old (View.le_refl _) (View.le_trans (View.le_trans (View.le_trans (View.le_trans (View.le_trans (View.le_trans (View.le_trans (View.le_trans (View.le_trans hV1 hV2) hV4) hV6) hV9) hV12) hV15) hV18) hV20) hV22) (.cons _ (.cons _ List.Sublist.slnil)) OldAll.nil) (by kernel_rfl) (fun _ _ => by kernel_rfl) ?_
                        refine TA.take 7 (.pointer (some ⟨b3, 0, none⟩)) rfl (by kernel_rfl) (by kernel_rfl) (by kernel_rfl) (fun _ _ _ h => h) (Hp.old (View.le_refl _) (View.le_trans (View.le_trans (View.le_trans (View.le_trans (View.le_trans (View.le_trans (View.le_trans (View.le_trans (View.le_trans hV1 hV2) hV4) hV6) hV9) hV12) hV15) hV18) hV20) hV22) (.cons _ (.cons _ List.Sublist.slnil)) OldAll.nil) (by kernel_rfl) (fun _ _ => by kernel_rfl) ?_
                        refine TA.all [4, 8] (by kernel_rfl) rfl ⟨?_, ?_, trivial⟩
                        ·
                          refine TA.br rfl (W1.look (.slice A44 z19.length c44) (by kernel_rfl) (fun w' hh => exec_load1 rfl rfl (by kernel_rfl) (hh.cellBox (i := 1) (by rfl) 2)) ?_)
                          refine TA.on (Hp.old (View.le_refl _) (View.le_trans (View.le_trans (View.le_trans (View.le_trans (View.le_trans (View.le_trans (View.le_trans (View.le_trans (View.le_trans hV1 hV2) hV4) hV6) hV9) hV12) hV15) hV18) hV20) hV22) (.cons _ (.cons _ List.Sublist.slnil)) OldAll.nil) ?_
                          refine TA.all [8] (by kernel_rfl) rfl ⟨?_, trivial⟩
                          refine TA.br rfl (W1.look (.agg #[.slice A54 r15.1.pages.length c54, .slice A55 r15.1.writes.length c55]) (by kernel_rfl) (fun w' hh => exec_loadN (cs := [.slice A54 r15.1.pages.length c54, .slice A55 r15.1.writes.length c55]) rfl rfl (by kernel_rfl) (by kernel_rfl) (fun j u hj => (hh.box_at (i := 1) (cs := [.slice A54 r15.1.pages.length c54, .slice A55 r15.1.writes.length c55, .slice A44 z19.length c44]) (by rfl) 0 j).trans (seg_at (n := 2) (by rfl) hj))) ?_)
                          refine TA.on (Hp.old (View.le_refl _) (View.le_trans (View.le_trans (View.le_trans (View.le_trans (View.le_trans (View.le_trans (View.le_trans (View.le_trans (View.le_trans hV1 hV2) hV4) hV6) hV9) hV12) hV15) hV18) hV20) hV22) (.cons _ (.cons _ List.Sublist.slnil)) OldAll.nil) ?_
                          refine TA.all [9] (by kernel_rfl) rfl ⟨?_, trivial⟩
                          refine TA.br rfl (W1.new 25 [.slice A54 r15.1.pages.length c54, .slice A55 r15.1.writes.length c55] (fun b => .slice (some ⟨b, 0, none⟩) 1 1) (by kernel_rfl) (fun _ => by kernel_rfl) (fun b11 => ?_))
                          refine TA.on (Hp.old (View.le_refl _) (View.le_trans (View.le_trans (View.le_trans (View.le_trans (View.le_trans (View.le_trans (View.le_trans (View.le_trans (View.le_trans hV1 hV2) hV4) hV6) hV9) hV12) hV15) hV18) hV20) hV22) (.cons _ (.cons _ (.cons _ List.Sublist.slnil))) OldAll.nil) ?_
                          refine TA.all [10] (by kernel_rfl) rfl ⟨?_, trivial⟩
                          obtain ⟨hb25_r, hb25_m, rfl⟩ := grow_some hb25
                          obtain ⟨ti, hti, hz1, hz2, hz3⟩ := info_parts (P := Try.prog) (e := 25) (z := .agg #[.slice none 0 0, .slice none 0 0]) (size := 2) (bytes := 48) (by kernel_rfl)
                          refine TA.br rfl (W1.append (E := (eAt w eDisk)) (l := z19) (m := [r15.1]) 1 _ _ 48 ti _ (by rfl) (by kernel_rfl) rfl (by kernel_rfl) hti hz1 hz2 hz3 rfl (Nat.le_of_ble_eq_true rfl) rfl rfl (fun w' hh => (src_one (E := (eAt w eDisk)) hh (i := 0) (by rfl) ⟨A54, c54, A55, c55, rfl, (SlOk.mono hs34 (made_mono (View.le_refl _))), (SlOk.mono hs35 (made_mono (View.le_refl _)))⟩)) hb25_r hb25_m (fun A56 c56 => ?_))
                          refine TA.on (Hp.old (View.le_refl _) (View.le_trans (View.le_trans (View.le_trans (View.le_trans (View.le_trans (View.le_trans (View.le_trans (View.le_trans (View.le_trans hV1 hV2) hV4) hV6) hV9) hV12) hV15) hV18) hV20) hV22) (.cons _ (.cons _ (.cons _ List.Sublist.slnil))) OldAll.nil) ?_
                          refine TA.take 11 (.pointer (some ⟨b3, 0, none⟩)) rfl (by kernel_rfl) (by kernel_rfl) (by kernel_rfl) (fun _ _ _ h => h) (Hp.old (View.le_refl _) (View.le_trans (View.le_trans (View.le_trans (View.le_trans (View.le_trans (View.le_trans (View.le_trans (View.le_trans (View.le_trans hV1 hV2) hV4) hV6) hV9) hV12) hV15) hV18) hV20) hV22) (.cons _ (.cons _ (.cons _ List.Sublist.slnil))) OldAll.nil) (by kernel_rfl) (fun _ _ => by kernel_rfl) ?_
                          refine TA.take 12 (.pointer (some ⟨b3, 2, none⟩)) rfl (by kernel_rfl) (by kernel_rfl) (by kernel_rfl) (fun _ _ _ h => h) (Hp.old (View.le_refl _) (View.le_trans (View.le_trans (View.le_trans (View.le_trans (View.le_trans (View.le_trans (View.le_trans (View.le_trans (View.le_trans hV1 hV2) hV4) hV6) hV9) hV12) hV15) hV18) hV20) hV22) (.cons _ (.cons _ (.cons _ List.Sublist.slnil))) OldAll.nil) (by kernel_rfl) (fun _ _ => by kernel_rfl) ?_
                          refine TA.all [13] (by kernel_rfl) rfl ⟨?_, trivial⟩
                          refine TA.br rfl (W1.store 2 [.slice A54 r15.1.pages.length c54, .slice A55 r15.1.writes.length c55, .slice A56 ((z19 ++ [r15.1]).length) c56] [box b11 25 [.slice A54 r15.1.pages.length c54, .slice A55 r15.1.writes.length c55], row 25 (eAt w eDisk) A56 c56 (z19 ++ [r15.1]), box b3 104 [.slice A54 r15.1.pages.length c54, .slice A55 r15.1.writes.length c55, .slice A56 ((z19 ++ [r15.1]).length) c56]] (by rfl) rfl (by kernel_rfl) (fun w' hw => exec_store (vs := [.slice A56 ((z19 ++ [r15.1]).length) c56]) rfl rfl rfl rfl (by kernel_rfl) (one_of rfl) (by simp) rfl hw) ?_)
                          refine TA.on (Hp.old (View.le_refl _) (View.le_trans (View.le_trans (View.le_trans (View.le_trans (View.le_trans (View.le_trans (View.le_trans (View.le_trans (View.le_trans hV1 hV2) hV4) hV6) hV9) hV12) hV15) hV18) hV20) hV22) (.cons _ (.cons _ (.cons _ List.Sublist.slnil))) OldAll.nil) ?_
                          refine TA.done (by kernel_rfl) ?_
                          exact fun a w' hf hh => Exists.intro A56 (Exists.intro c56 (And.intro (Fr.nil hf) (hh.sub (.cons _ (.cons_cons _ (.cons_cons _ List.Sublist.slnil))))))
                        ·
                          refine TA.br rfl (W1.look (.agg #[.slice A54 r15.1.pages.length c54, .slice A55 r15.1.writes.length c55]) (by kernel_rfl) (fun w' hh => exec_loadN (cs := [.slice A54 r15.1.pages.length c54, .slice A55 r15.1.writes.length c55]) rfl rfl (by kernel_rfl) (by kernel_rfl) (fun j u hj => (hh.box_at (i := 1) (cs := [.slice A54 r15.1.pages.length c54, .slice A55 r15.1.writes.length c55, .slice A44 z19.length c44]) (by rfl) 0 j).trans (seg_at (n := 2) (by rfl) hj))) ?_)
                          refine TA.on (Hp.old (View.le_refl _) (View.le_trans (View.le_trans (View.le_trans (View.le_trans (View.le_trans (View.le_trans (View.le_trans (View.le_trans (View.le_trans hV1 hV2) hV4) hV6) hV9) hV12) hV15) hV18) hV20) hV22) (.cons _ (.cons _ List.Sublist.slnil)) OldAll.nil) ?_
                          refine TA.all [4, 9] (by kernel_rfl) rfl ⟨?_, ?_, trivial⟩
                          ·
                            refine TA.br rfl (W1.look (.slice A44 z19.length c44) (by kernel_rfl) (fun w' hh => exec_load1 rfl rfl (by kernel_rfl) (hh.cellBox (i := 1) (by rfl) 2)) ?_)
                            refine TA.on (Hp.old (View.le_refl _) (View.le_trans (View.le_trans (View.le_trans (View.le_trans (View.le_trans (View.le_trans (View.le_trans (View.le_trans (View.le_trans hV1 hV2) hV4) hV6) hV9) hV12) hV15) hV18) hV20) hV22) (.cons _ (.cons _ List.Sublist.slnil)) OldAll.nil) ?_
                            refine TA.all [9] (by kernel_rfl) rfl ⟨?_, trivial⟩
                            refine TA.br rfl (W1.new 25 [.slice A54 r15.1.pages.length c54, .slice A55 r15.1.writes.length c55] (fun b => .slice (some ⟨b, 0, none⟩) 1 1) (by kernel_rfl) (fun _ => by kernel_rfl) (fun b11 => ?_))
                            refine TA.on (Hp.old (View.le_refl _) (View.le_trans (View.le_trans (View.le_trans (View.le_trans (View.le_trans (View.le_trans (View.le_trans (View.le_trans (View.le_trans hV1 hV2) hV4) hV6) hV9) hV12) hV15) hV18) hV20) hV22) (.cons _ (.cons _ (.cons _ List.Sublist.slnil))) OldAll.nil) ?_
                            refine TA.all [10] (by kernel_rfl) rfl ⟨?_, trivial⟩
                            obtain ⟨hb25_r, hb25_m, rfl⟩ := grow_some hb25
                            obtain ⟨ti, hti, hz1, hz2, hz3⟩ := info_parts (P := Try.prog) (e := 25) (z := .agg #[.slice none 0 0, .slice none 0 0]) (size := 2) (bytes := 48) (by kernel_rfl)
                            refine TA.br rfl (W1.append (E := (eAt w eDisk)) (l := z19) (m := [r15.1]) 1 _ _ 48 ti _ (by rfl) (by kernel_rfl) rfl (by kernel_rfl) hti hz1 hz2 hz3 rfl (Nat.le_of_ble_eq_true rfl) rfl rfl (fun w' hh => (src_one (E := (eAt w eDisk)) hh (i := 0) (by rfl) ⟨A54, c54, A55, c55, rfl, (SlOk.mono hs34 (made_mono (View.le_refl _))), (SlOk.mono hs35 (made_mono (View.le_refl _)))⟩)) hb25_r hb25_m (fun A56 c56 => ?_))
                            refine TA.on (Hp.old (View.le_refl _) (View.le_trans (View.le_trans (View.le_trans (View.le_trans (View.le_trans (View.le_trans (View.le_trans (View.le_trans (View.le_trans hV1 hV2) hV4) hV6) hV9) hV12) hV15) hV18) hV20) hV22) (.cons _ (.cons _ (.cons _ List.Sublist.slnil))) OldAll.nil) ?_
                            refine TA.take 11 (.pointer (some ⟨b3, 0, none⟩)) rfl (by kernel_rfl) (by kernel_rfl) (by kernel_rfl) (fun _ _ _ h => h) (Hp.old (View.le_refl _) (View.le_trans (View.le_trans (View.le_trans (View.le_trans (View.le_trans (View.le_trans (View.le_trans (View.le_trans (View.le_trans hV1 hV2) hV4) hV6) hV9) hV12) hV15) hV18) hV20) hV22) (.cons _ (.cons _ (.cons _ List.Sublist.slnil))) OldAll.nil) (by kernel_rfl) (fun _ _ => by kernel_rfl) ?_
                            refine TA.take 12 (.pointer (some ⟨b3, 2, none⟩)) rfl (by kernel_rfl) (by kernel_rfl) (by kernel_rfl) (fun _ _ _ h => h) (Hp.old (View.le_refl _) (View.le_trans (View.le_trans (View.le_trans (View.le_trans (View.le_trans (View.le_trans (View.le_trans (View.le_trans (View.le_trans hV1 hV2) hV4) hV6) hV9) hV12) hV15) hV18) hV20) hV22) (.cons _ (.cons _ (.cons _ List.Sublist.slnil))) OldAll.nil) (by kernel_rfl) (fun _ _ => by kernel_rfl) ?_
                            refine TA.all [13] (by kernel_rfl) rfl ⟨?_, trivial⟩
                            refine TA.br rfl (W1.store 2 [.slice A54 r15.1.pages.length c54, .slice A55 r15.1.writes.length c55, .slice A56 ((z19 ++ [r15.1]).length) c56] [box b11 25 [.slice A54 r15.1.pages.length c54, .slice A55 r15.1.writes.length c55], row 25 (eAt w eDisk) A56 c56 (z19 ++ [r15.1]), box b3 104 [.slice A54 r15.1.pages.length c54, .slice A55 r15.1.writes.length c55, .slice A56 ((z19 ++ [r15.1]).length) c56]] (by rfl) rfl (by kernel_rfl) (fun w' hw => exec_store (vs := [.slice A56 ((z19 ++ [r15.1]).length) c56]) rfl rfl rfl rfl (by kernel_rfl) (one_of rfl) (by simp) rfl hw) ?_)
                            refine TA.on (Hp.old (View.le_refl _) (View.le_trans (View.le_trans (View.le_trans (View.le_trans (View.le_trans (View.le_trans (View.le_trans (View.le_trans (View.le_trans hV1 hV2) hV4) hV6) hV9) hV12) hV15) hV18) hV20) hV22) (.cons _ (.cons _ (.cons _ List.Sublist.slnil))) OldAll.nil) ?_
                            refine TA.done (by kernel_rfl) ?_
                            exact fun a w' hf hh => Exists.intro A56 (Exists.intro c56 (And.intro (Fr.nil hf) (hh.sub (.cons _ (.cons_cons _ (.cons_cons _ List.Sublist.slnil))))))
                          ·
                            refine TA.br rfl (W1.new 25 [.slice A54 r15.1.pages.length c54, .slice A55 r15.1.writes.length c55] (fun b => .slice (some ⟨b, 0, none⟩) 1 1) (by kernel_rfl) (fun _ => by kernel_rfl) (fun b11 => ?_))
                            refine TA.on (Hp.old (View.le_refl _) (View.le_trans (View.le_trans (View.le_trans (View.le_trans (View.le_trans (View.le_trans (View.le_trans (View.le_trans (View.le_trans hV1 hV2) hV4) hV6) hV9) hV12) hV15) hV18) hV20) hV22) (.cons _ (.cons _ (.cons _ List.Sublist.slnil))) OldAll.nil) ?_
                            refine TA.all [4] (by kernel_rfl) rfl ⟨?_, trivial⟩
                            refine TA.br rfl (W1.look (.slice A44 z19.length c44) (by kernel_rfl) (fun w' hh => exec_load1 rfl rfl (by kernel_rfl) (hh.cellBox (i := 2) (by rfl) 2)) ?_)
                            refine TA.on (Hp.old (View.le_refl _) (View.le_trans (View.le_trans (View.le_trans (View.le_trans (View.le_trans (View.le_trans (View.le_trans (View.le_trans (View.le_trans hV1 hV2) hV4) hV6) hV9) hV12) hV15) hV18) hV20) hV22) (.cons _ (.cons _ (.cons _ List.Sublist.slnil))) OldAll.nil) ?_
                            refine TA.all [10] (by kernel_rfl) rfl ⟨?_, trivial⟩
                            obtain ⟨hb25_r, hb25_m, rfl⟩ := grow_some hb25
                            obtain ⟨ti, hti, hz1, hz2, hz3⟩ := info_parts (P := Try.prog) (e := 25) (z := .agg #[.slice none 0 0, .slice none 0 0]) (size := 2) (bytes := 48) (by kernel_rfl)
                            refine TA.br rfl (W1.append (E := (eAt w eDisk)) (l := z19) (m := [r15.1]) 1 _ _ 48 ti _ (by rfl) (by kernel_rfl) rfl (by kernel_rfl) hti hz1 hz2 hz3 rfl (Nat.le_of_ble_eq_true rfl) rfl rfl (fun w' hh => (src_one (E := (eAt w eDisk)) hh (i := 0) (by rfl) ⟨A54, c54, A55, c55, rfl, (SlOk.mono hs34 (made_mono (View.le_refl _))), (SlOk.mono hs35 (made_mono (View.le_refl _)))⟩)) hb25_r hb25_m (fun A56 c56 => ?_))
                            refine TA.on (Hp.old (View.le_refl _) (View.le_trans (View.le_trans (View.le_trans (View.le_trans (View.le_trans (View.le_trans (View.le_trans (View.le_trans (View.le_trans hV1 hV2) hV4) hV6) hV9) hV12) hV15) hV18) hV20) hV22) (.cons _ (.cons _ (.cons _ List.Sublist.slnil))) OldAll.nil) ?_
                            refine TA.take 11 (.pointer (some ⟨b3, 0, none⟩)) rfl (by kernel_rfl) (by kernel_rfl) (by kernel_rfl) (fun _ _ _ h => h) (Hp.old (View.le_refl _) (View.le_trans (View.le_trans (View.le_trans (View.le_trans (View.le_trans (View.le_trans (View.le_trans (View.le_trans (View.le_trans hV1 hV2) hV4) hV6) hV9) hV12) hV15) hV18) hV20) hV22) (.cons _ (.cons _ (.cons _ List.Sublist.slnil))) OldAll.nil) (by kernel_rfl) (fun _ _ => by kernel_rfl) ?_
                            refine TA.take 12 (.pointer (some ⟨b3, 2, none⟩)) rfl (by kernel_rfl) (by kernel_rfl) (by kernel_rfl) (fun _ _ _ h => h) (Hp.old (View.le_refl _) (View.le_trans (View.le_trans (View.le_trans (View.le_trans (View.le_trans (View.le_trans (View.le_trans (View.le_trans (View.le_trans hV1 hV2) hV4) hV6) hV9) hV12) hV15) hV18) hV20) hV22) (.cons _ (.cons _ (.cons _ List.Sublist.slnil))) OldAll.nil) (by kernel_rfl) (fun _ _ => by kernel_rfl) ?_
                            refine TA.all [13] (by kernel_rfl) rfl ⟨?_, trivial⟩
                            refine TA.br rfl (W1.store 2 [.slice A54 r15.1.pages.length c54, .slice A55 r15.1.writes.length c55, .slice A56 ((z19 ++ [r15.1]).length) c56] [box b11 25 [.slice A54 r15.1.pages.length c54, .slice A55 r15.1.writes.length c55], row 25 (eAt w eDisk) A56 c56 (z19 ++ [r15.1]), box b3 104 [.slice A54 r15.1.pages.length c54, .slice A55 r15.1.writes.length c55, .slice A56 ((z19 ++ [r15.1]).length) c56]] (by rfl) rfl (by kernel_rfl) (fun w' hw => exec_store (vs := [.slice A56 ((z19 ++ [r15.1]).length) c56]) rfl rfl rfl rfl (by kernel_rfl) (one_of rfl) (by simp) rfl hw) ?_)
                            refine TA.on (Hp.old (View.le_refl _) (View.le_trans (View.le_trans (View.le_trans (View.le_trans (View.le_trans (View.le_trans (View.le_trans (View.le_trans (View.le_trans hV1 hV2) hV4) hV6) hV9) hV12) hV15) hV18) hV20) hV22) (.cons _ (.cons _ (.cons _ List.Sublist.slnil))) OldAll.nil) ?_
                            refine TA.done (by kernel_rfl) ?_
                            exact fun a w' hf hh => Exists.intro A56 (Exists.intro c56 (And.intro (Fr.nil hf) (hh.sub (.cons _ (.cons_cons _ (.cons_cons _ List.Sublist.slnil))))))
                      ·
                        rintro a w' ⟨A57, c57, hf, hh⟩
                        refine (?_ : T 32 w V22 [row 25 (eAt w eDisk) A57 c57 (z19 ++ [r15.1]), box b3 104 [.slice A54 r15.1.pages.length c54, .slice A55 r15.1.writes.length c55, .slice A57 ((z19 ++ [r15.1]).length) c57]] [] _) a w' hf hh
                        clear hf hh
                        cases hX6
                        exact T.end0 rfl fun w' hh => ⟨_, rfl, Exists.intro (z19 ++ [r15.1]) (Exists.intro r15.1.pages (Exists.intro r15.1.writes (And.intro rfl (Exists.intro A57 (Exists.intro c57 (Exists.intro A54 (Exists.intro c54 (Exists.intro A55 (Exists.intro c55 (Exists.intro V22 (And.intro hV22 (And.intro (SlOk.mono hs34 (made_mono (View.le_refl _))) (And.intro (SlOk.mono hs35 (made_mono (View.le_refl _))) (And.intro rfl (hh.sub (.cons_cons _ (.cons_cons _ List.Sublist.slnil)))))))))))))))))⟩
                    ·
                      rintro v w' ⟨z22, z23, z24, rfl, A51, c51, A52, c52, A53, c53, V21, hV21, hs32, hs33, rfl, hh⟩
                      try dsimp only at hF
                      refine ⟨V21, [row 25 (eAt w eDisk) A51 c51 z22, box b3 104 [.slice A52 z23.length c52, .slice A53 z24.length c53, .slice A51 z22.length c51]], hh, ?_⟩
                      clear hh
                      refine T.nil ?_
                      refine T.seq ?_
                      refine T.region ?_
                      refine T.pure (.pointer (some ⟨b3, 0, none⟩)) (by kernel_rfl) (fun _ => by kernel_rfl) ?_
                      obtain ⟨q10, hX7, hF⟩ := Option.bind_eq_some_iff.1 hF
                      refine T.step (W1.within 52 [.pointer (some ⟨b3, 0, none⟩)] (fun v w' => ∃ (z25 : List DDisk) (z26 : List ByteArray) (z27 : List DWrite), q10 = (z25, z26, z27) ∧ ∃ (A58 : Option Addr) (c58 : Nat) (A59 : Option Addr) (c59 : Nat) (A60 : Option Addr) (c60 : Nat) (V23 : View), View.le V21 V23 ∧ SlOk (made w V23) eStr A59 c59 z26 ∧ SlOk (made w V23) eWrite A60 c60 z27 ∧ v = .tuple #[] ∧ Hp w V23 [row 25 (eAt w eDisk) A58 c58 z25, box b3 104 [.slice A59 z26.length c59, .slice A60 z27.length c60, .slice A58 z25.length c58]] w') Try.func52 rfl rfl (by kernel_rfl) (fun _ => by kernel_rfl) rfl ?_ ?_)
                      ·
                        refine T.seq ?_
                        refine T.region ?_
                        refine T.pure (.pointer (some ⟨b3, 0, none⟩)) (by kernel_rfl) (fun _ => by kernel_rfl) ?_
                        refine T.pure (.pointer (some ⟨b3, 0, none⟩)) (by kernel_rfl) (fun _ => by kernel_rfl) ?_
                        refine T.pure (.pointer (some ⟨b3, 0, none⟩)) (by kernel_rfl) (fun _ => by kernel_rfl) ?_
                        refine T.pure (.pointer (some ⟨b3, 0, none⟩)) (by kernel_rfl) (fun _ => by kernel_rfl) ?_
                        refine T.look (.agg #[.slice A52 z23.length c52, .slice A53 z24.length c53]) (by kernel_rfl) (fun w' hh => exec_loadN (cs := [.slice A52 z23.length c52, .slice A53 z24.length c53]) rfl rfl (by kernel_rfl) (by kernel_rfl) (fun j u hj => (hh.box_at (i := 1) (cs := [.slice A52 z23.length c52, .slice A53 z24.length c53, .slice A51 z22.length c51]) (by rfl) 0 j).trans (seg_at (n := 2) (by rfl) hj))) ?_
                        obtain ⟨r16, hb26, hX7⟩ := Option.bind_eq_some_iff.1 hX7
                        refine T.step (W1.call (vT2 (vAg eDisk) (vSc eInt)) r16 20 #[.agg #[.slice A52 z23.length c52, .slice A53 z24.length c53]] (by kernel_rfl) (fun _ => by kernel_rfl) (fun w' hh => disk_Sync_l F (DDisk.mk z23 z24) r16 hb26 w' A52 c52 (SlOk.mono (SlOk.mono hs32 (View.le_trans (made_le _ _) (View.le_refl _))) hh.view) A53 c53 (SlOk.mono (SlOk.mono hs33 (View.le_trans (made_le _ _) (View.le_refl _))) hh.view)) ?_)
                        intro u V24 hV24 hu
                        obtain ⟨u13, u14, rfl, hu13, hu14⟩ := vT2_elim hu
                        obtain ⟨cs7, rfl, hr10⟩ := vagg_elim hu13
                        obtain ⟨A61, c61, A62, c62, rfl, hs38, hs39⟩ := hr10
                        obtain rfl := sureInt _ _ _ hu14
                        refine T.pure (.tuple #[.agg #[.slice A61 r16.1.pages.length c61, .slice A62 r16.1.writes.length c62], .int .i64 r16.2]) (by kernel_rfl) (fun _ => by kernel_rfl) ?_
                        refine T.pure (.agg #[.slice A61 r16.1.pages.length c61, .slice A62 r16.1.writes.length c62]) (by kernel_rfl) (fun _ => by kernel_rfl) ?_
                        refine T.pure (.int .i64 r16.2) (by kernel_rfl) (fun _ => by kernel_rfl) ?_
                        refine T.pure (.pointer (some ⟨b3, 0, none⟩)) (by kernel_rfl) (fun _ => by kernel_rfl) ?_
                        refine T.pure (.pointer (some ⟨b3, 0, none⟩)) (by kernel_rfl) (fun _ => by kernel_rfl) ?_
                        refine T.step (W1.store 1 [.slice A61 r16.1.pages.length c61, .slice A62 r16.1.writes.length c62, .slice A51 z22.length c51] [row 25 (eAt w eDisk) A51 c51 z22, box b3 104 [.slice A61 r16.1.pages.length c61, .slice A62 r16.1.writes.length c62, .slice A51 z22.length c51]] (by rfl) rfl (by kernel_rfl) (fun w' hw => exec_store (vs := [.slice A61 r16.1.pages.length c61, .slice A62 r16.1.writes.length c62]) rfl rfl rfl rfl (by kernel_rfl) (one_of rfl) (by simp) rfl hw) ?_)
                        refine T.nil ?_
                        obtain ⟨y10, hb27, hX7⟩ := Option.bind_eq_some_iff.1 hX7
                        refine T.mid (fun a w' => ∃ (A64 : Option Addr) (c64 : Nat), Fr 26 [] a ∧ Hp w V24 [row 25 (eAt w eDisk) A64 c64 (z22 ++ [r16.1]), box b3 104 [.slice A61 r16.1.pages.length c61, .slice A62 r16.1.writes.length c62, .slice A64 ((z22 ++ [r16.1]).length) c64]] w') ?_ ?_
                        ·
                          refine T.held [] (by kernel_rfl) ?_
                          refine TA.take 0 (.pointer (some ⟨b3, 0, none⟩)) rfl (by kernel_rfl) (by kernel_rfl) (by kernel_rfl) (fun _ _ _ h => h) (Hp.old (View.le_refl _) (View.le_trans (View.le_trans (View.le_trans (View.le_trans (View.le_trans (View.le_trans (View.le_trans (View.le_trans (View.le_trans (View.le_trans hV1 hV2) hV4) hV6) hV9) hV12) hV15) hV18) hV20) hV21) hV24) (.cons _ (.cons _ List.Sublist.slnil)) OldAll.nil) (by kernel_rfl) (fun _ _ => by kernel_rfl) ?_
                          refine TA.take 1 (.pointer (some ⟨b3, 0, none⟩)) rfl (by kernel_rfl) (by kernel_rfl) (by kernel_rfl) (fun _ _ _ h => h) (Hp.old (View.le_refl _) (View.le_trans (View.le_trans (View.le_trans (View.le_trans (View.le_trans (View.le_trans (View.le_trans (View.le_trans (View.le_trans (View.le_trans hV1 hV2) hV4) hV6) hV9) hV12) hV15) hV18) hV20) hV21) hV24) (.cons _ (.cons _ List.Sublist.slnil)) OldAll.nil) (by kernel_rfl) (fun _ _ => by kernel_rfl) ?_
                          refine TA.take 2 (.pointer (some ⟨b3, 0, none⟩)) rfl (by kernel_rfl) (by kernel_rfl) (by kernel_rfl) (fun _ _ _ h => h) (Hp.old (View.le_refl _) (View.le_trans (View.le_trans (View.le_trans (View.le_trans (View.le_trans (View.le_trans (View.le_trans (View.le_trans (View.le_trans (View.le_trans hV1 hV2) hV4) hV6) hV9) hV12) hV15) hV18) hV20) hV21) hV24) (.cons _ (.cons _ List.Sublist.slnil)) OldAll.nil) (by kernel_rfl) (fun _ _ => by kernel_rfl) ?_
                          refine TA.take 3 (.pointer (some ⟨b3, 2, none⟩)) rfl (by kernel_rfl) (by kernel_rfl) (by kernel_rfl) (fun _ _ _ h => h) (Hp.old (View.le_refl _) (View.le_trans (View.le_trans (View.le_trans (View.le_trans (View.le_trans (View.le_trans (View.le_trans (View.le_trans (View.le_trans (View.le_trans hV1 hV2) hV4) hV6) hV9) hV12) hV15) hV18) hV20) hV21) hV24) (.cons _ (.cons _ List.Sublist.slnil)) OldAll.nil) (by kernel_rfl) (fun _ _ => by kernel_rfl) ?_
                          refine TA.take 5 (.pointer (some ⟨b3, 0, none⟩)) rfl (by kernel_rfl) (by kernel_rfl) (by kernel_rfl) (fun _ _ _ h => h) (Hp.old (View.le_refl _) (View.le_trans (View.le_trans (View.le_trans (View.le_trans (View.le_trans (View.le_trans (View.le_trans (View.le_trans (View.le_trans (View.le_trans hV1 hV2) hV4) hV6) hV9) hV12) hV15) hV18) hV20) hV21) hV24) (.cons _ (.cons _ List.Sublist.slnil)) OldAll.nil) (by kernel_rfl) (fun _ _ => by kernel_rfl) ?_
                          refine TA.take 6 (.pointer (some ⟨b3, 0, none⟩)) rfl (by kernel_rfl) (by kernel_rfl) (by kernel_rfl) (fun _ _ _ h => h) (Hp.old (View.le_refl _) (View.le_trans (View.le_trans (View.le_trans (View.le_trans (View.le_trans (View.le_trans (View.le_trans (View.le_trans (View.le_trans (View.le_trans hV1 hV2) hV4) hV6) hV9) hV12) hV15) hV18) hV20) hV21) hV24) (.cons _ (.cons _ List.Sublist.slnil)) OldAll.nil) (by kernel_rfl) (fun _ _ => by kernel_rfl) ?_
                          refine TA.take 7 (.pointer (some ⟨b3, 0, none⟩)) rfl (by kernel_rfl) (by kernel_rfl) (by kernel_rfl) (fun _ _ _ h => h) (Hp.old (View.le_refl _) (View.le_trans (View.le_trans (View.le_trans (View.le_trans (View.le_trans (View.le_trans (View.le_trans (View.le_trans (View.le_trans (View.le_trans hV1 hV2) hV4) hV6) hV9) hV12) hV15) hV18) hV20) hV21) hV24) (.cons _ (.cons _ List.Sublist.slnil)) OldAll.nil) (by kernel_rfl) (fun _ _ => by kernel_rfl) ?_
                          refine TA.all [4, 8] (by kernel_rfl) rfl ⟨?_, ?_, trivial⟩
                          ·
                            refine TA.br rfl (W1.look (.slice A51 z22.length c51) (by kernel_rfl) (fun w' hh => exec_load1 rfl rfl (by kernel_rfl) (hh.cellBox (i := 1) (by rfl) 2)) ?_)
                            refine TA.on (Hp.old (View.le_refl _) (View.le_trans (View.le_trans (View.le_trans (View.le_trans (View.le_trans (View.le_trans (View.le_trans (View.le_trans (View.le_trans (View.le_trans hV1 hV2) hV4) hV6) hV9) hV12) hV15) hV18) hV20) hV21) hV24) (.cons _ (.cons _ List.Sublist.slnil)) OldAll.nil) ?_
                            refine TA.all [8] (by kernel_rfl) rfl ⟨?_, trivial⟩
                            refine TA.br rfl (W1.look (.agg #[.slice A61 r16.1.pages.length c61, .slice A62 r16.1.writes.length c62]) (by kernel_rfl) (fun w' hh => exec_loadN (cs := [.slice A61 r16.1.pages.length c61, .slice A62 r16.1.writes.length c62]) rfl rfl (by kernel_rfl) (by kernel_rfl) (fun j u hj => (hh.box_at (i := 1) (cs := [.slice A61 r16.1.pages.length c61, .slice A62 r16.1.writes.length c62, .slice A51 z22.length c51]) (by rfl) 0 j).trans (seg_at (n := 2) (by rfl) hj))) ?_)
                            refine TA.on (Hp.old (View.le_refl _) (View.le_trans (View.le_trans (View.le_trans (View.le_trans (View.le_trans (View.le_trans (View.le_trans (View.le_trans (View.le_trans (View.le_trans hV1 hV2) hV4) hV6) hV9) hV12) hV15) hV18) hV20) hV21) hV24) (.cons _ (.cons _ List.Sublist.slnil)) OldAll.nil) ?_
                            refine TA.all [9] (by kernel_rfl) rfl ⟨?_, trivial⟩
                            refine TA.br rfl (W1.new 25 [.slice A61 r16.1.pages.length c61, .slice A62 r16.1.writes.length c62] (fun b => .slice (some ⟨b, 0, none⟩) 1 1) (by kernel_rfl) (fun _ => by kernel_rfl) (fun b12 => ?_))
                            refine TA.on (Hp.old (View.le_refl _) (View.le_trans (View.le_trans (View.le_trans (View.le_trans (View.le_trans (View.le_trans (View.le_trans (View.le_trans (View.le_trans (View.le_trans hV1 hV2) hV4) hV6) hV9) hV12) hV15) hV18) hV20) hV21) hV24) (.cons _ (.cons _ (.cons _ List.Sublist.slnil))) OldAll.nil) ?_
                            refine TA.all [10] (by kernel_rfl) rfl ⟨?_, trivial⟩
                            obtain ⟨hb27_r, hb27_m, rfl⟩ := grow_some hb27
                            obtain ⟨ti, hti, hz1, hz2, hz3⟩ := info_parts (P := Try.prog) (e := 25) (z := .agg #[.slice none 0 0, .slice none 0 0]) (size := 2) (bytes := 48) (by kernel_rfl)
                            refine TA.br rfl (W1.append (E := (eAt w eDisk)) (l := z22) (m := [r16.1]) 1 _ _ 48 ti _ (by rfl) (by kernel_rfl) rfl (by kernel_rfl) hti hz1 hz2 hz3 rfl (Nat.le_of_ble_eq_true rfl) rfl rfl (fun w' hh => (src_one (E := (eAt w eDisk)) hh (i := 0) (by rfl) ⟨A61, c61, A62, c62, rfl, (SlOk.mono hs38 (made_mono (View.le_refl _))), (SlOk.mono hs39 (made_mono (View.le_refl _)))⟩)) hb27_r hb27_m (fun A63 c63 => ?_))
                            refine TA.on (Hp.old (View.le_refl _) (View.le_trans (View.le_trans (View.le_trans (View.le_trans (View.le_trans (View.le_trans (View.le_trans (View.le_trans (View.le_trans (View.le_trans hV1 hV2) hV4) hV6) hV9) hV12) hV15) hV18) hV20) hV21) hV24) (.cons _ (.cons _ (.cons _ List.Sublist.slnil))) OldAll.nil) ?_
                            refine TA.take 11 (.pointer (some ⟨b3, 0, none⟩)) rfl (by kernel_rfl) (by kernel_rfl) (by kernel_rfl) (fun _ _ _ h => h) (Hp.old (View.le_refl _) (View.le_trans (View.le_trans (View.le_trans (View.le_trans (View.le_trans (View.le_trans (View.le_trans (View.le_trans (View.le_trans (View.le_trans hV1 hV2) hV4) hV6) hV9) hV12) hV15) hV18) hV20) hV21) hV24) (.cons _ (.cons _ (.cons _ List.Sublist.slnil))) OldAll.nil) (by kernel_rfl) (fun _ _ => by kernel_rfl) ?_
                            refine TA.take 12 (.pointer (some ⟨b3, 2, none⟩)) rfl (by kernel_rfl) (by kernel_rfl) (by kernel_rfl) (fun _ _ _ h => h) (Hp.old (View.le_refl _) (View.le_trans (View.le_trans (View.le_trans (View.le_trans (View.le_trans (View.le_trans (View.le_trans (View.le_trans (View.le_trans (View.le_trans hV1 hV2) hV4) hV6) hV9) hV12) hV15) hV18) hV20) hV21) hV24) (.cons _ (.cons _ (.cons _ List.Sublist.slnil))) OldAll.nil) (by kernel_rfl) (fun _ _ => by kernel_rfl) ?_
                            refine TA.all [13] (by kernel_rfl) rfl ⟨?_, trivial⟩
                            refine TA.br rfl (W1.store 2 [.slice A61 r16.1.pages.length c61, .slice A62 r16.1.writes.length c62, .slice A63 ((z22 ++ [r16.1]).length) c63] [box b12 25 [.slice A61 r16.1.pages.length c61, .slice A62 r16.1.writes.length c62], row 25 (eAt w eDisk) A63 c63 (z22 ++ [r16.1]), box b3 104 [.slice A61 r16.1.pages.length c61, .slice A62 r16.1.writes.length c62, .slice A63 ((z22 ++ [r16.1]).length) c63]] (by rfl) rfl (by kernel_rfl) (fun w' hw => exec_store (vs := [.slice A63 ((z22 ++ [r16.1]).length) c63]) rfl rfl rfl rfl (by kernel_rfl) (one_of rfl) (by simp) rfl hw) ?_)
                            refine TA.on (Hp.old (View.le_refl _) (View.le_trans (View.le_trans (View.le_trans (View.le_trans (View.le_trans (View.le_trans (View.le_trans (View.le_trans (View.le_trans (View.le_trans hV1 hV2) hV4) hV6) hV9) hV12) hV15) hV18) hV20) hV21) hV24) (.cons _ (.cons _ (.cons _ List.Sublist.slnil))) OldAll.nil) ?_
                            refine TA.done (by kernel_rfl) ?_
                            exact fun a w' hf hh => Exists.intro A63 (Exists.intro c63 (And.intro (Fr.nil hf) (hh.sub (.cons _ (.cons_cons _ (.cons_cons _ List.Sublist.slnil))))))
                          ·
                            refine TA.br rfl (W1.look (.agg #[.slice A61 r16.1.pages.length c61, .slice A62 r16.1.writes.length c62]) (by kernel_rfl) (fun w' hh => exec_loadN (cs := [.slice A61 r16.1.pages.length c61, .slice A62 r16.1.writes.length c62]) rfl rfl (by kernel_rfl) (by kernel_rfl) (fun j u hj => (hh.box_at (i := 1) (cs := [.slice A61 r16.1.pages.length c61, .slice A62 r16.1.writes.length c62, .slice A51 z22.length c51]) (by rfl) 0 j).trans (seg_at (n := 2) (by rfl) hj))) ?_)
                            refine TA.on (Hp.old (View.le_refl _) (View.le_trans (View.le_trans (View.le_trans (View.le_trans (View.le_trans (View.le_trans (View.le_trans (View.le_trans (View.le_trans (View.le_trans hV1 hV2) hV4) hV6) hV9) hV12) hV15) hV18) hV20) hV21) hV24) (.cons _ (.cons _ List.Sublist.slnil)) OldAll.nil) ?_
                            refine TA.all [4, 9] (by kernel_rfl) rfl ⟨?_, ?_, trivial⟩
                            ·
                              refine TA.br rfl (W1.look (.slice A51 z22.length c51) (by kernel_rfl) (fun w' hh => exec_load1 rfl rfl (by kernel_rfl) (hh.cellBox (i := 1) (by rfl) 2)) ?_)
                              refine TA.on (Hp.old (View.le_refl _) (View.le_trans (View.le_trans (View.le_trans (View.le_trans (View.le_trans (View.le_trans (View.le_trans (View.le_trans (View.le_trans (View.le_trans hV1 hV2) hV4) hV6) hV9) hV12) hV15) hV18) hV20) hV21) hV24) (.cons _ (.cons _ List.Sublist.slnil)) OldAll.nil) ?_
                              refine TA.all [9] (by kernel_rfl) rfl ⟨?_, trivial⟩
                              refine TA.br rfl (W1.new 25 [.slice A61 r16.1.pages.length c61, .slice A62 r16.1.writes.length c62] (fun b => .slice (some ⟨b, 0, none⟩) 1 1) (by kernel_rfl) (fun _ => by kernel_rfl) (fun b12 => ?_))
                              refine TA.on (Hp.old (View.le_refl _) (View.le_trans (View.le_trans (View.le_trans (View.le_trans (View.le_trans (View.le_trans (View.le_trans (View.le_trans (View.le_trans (View.le_trans hV1 hV2) hV4) hV6) hV9) hV12) hV15) hV18) hV20) hV21) hV24) (.cons _ (.cons _ (.cons _ List.Sublist.slnil))) OldAll.nil) ?_
                              refine TA.all [10] (by kernel_rfl) rfl ⟨?_, trivial⟩
                              obtain ⟨hb27_r, hb27_m, rfl⟩ := grow_some hb27
                              obtain ⟨ti, hti, hz1, hz2, hz3⟩ := info_parts (P := Try.prog) (e := 25) (z := .agg #[.slice none 0 0, .slice none 0 0]) (size := 2) (bytes := 48) (by kernel_rfl)
                              refine TA.br rfl (W1.append (E := (eAt w eDisk)) (l := z22) (m := [r16.1]) 1 _ _ 48 ti _ (by rfl) (by kernel_rfl) rfl (by kernel_rfl) hti hz1 hz2 hz3 rfl (Nat.le_of_ble_eq_true rfl) rfl rfl (fun w' hh => (src_one (E := (eAt w eDisk)) hh (i := 0) (by rfl) ⟨A61, c61, A62, c62, rfl, (SlOk.mono hs38 (made_mono (View.le_refl _))), (SlOk.mono hs39 (made_mono (View.le_refl _)))⟩)) hb27_r hb27_m (fun A63 c63 => ?_))
                              refine TA.on (Hp.old (View.le_refl _) (View.le_trans (View.le_trans (View.le_trans (View.le_trans (View.le_trans (View.le_trans (View.le_trans (View.le_trans (View.le_trans (View.le_trans hV1 hV2) hV4) hV6) hV9) hV12) hV15) hV18) hV20) hV21) hV24) (.cons _ (.cons _ (.cons _ List.Sublist.slnil))) OldAll.nil) ?_
                              refine TA.take 11 (.pointer (some ⟨b3, 0, none⟩)) rfl (by kernel_rfl) (by kernel_rfl) (by kernel_rfl) (fun _ _ _ h => h) (Hp.old (View.le_refl _) (View.le_trans (View.le_trans (View.le_trans (View.le_trans (View.le_trans (View.le_trans (View.le_trans (View.le_trans (View.le_trans (View.le_trans hV1 hV2) hV4) hV6) hV9) hV12) hV15) hV18) hV20) hV21) hV24) (.cons _ (.cons _ (.cons _ List.Sublist.slnil))) OldAll.nil) (by kernel_rfl) (fun _ _ => by kernel_rfl) ?_
                              refine TA.take 12 (.pointer (some ⟨b3, 2, none⟩)) rfl (by kernel_rfl) (by kernel_rfl) (by kernel_rfl) (fun _ _ _ h => h) (Hp.old (View.le_refl _) (View.le_trans (View.le_trans (View.le_trans (View.le_trans (View.le_trans (View.le_trans (View.le_trans (View.le_trans (View.le_trans (View.le_trans hV1 hV2) hV4) hV6) hV9) hV12) hV15) hV18) hV20) hV21) hV24) (.cons _ (.cons _ (.cons _ List.Sublist.slnil))) OldAll.nil) (by kernel_rfl) (fun _ _ => by kernel_rfl) ?_
                              refine TA.all [13] (by kernel_rfl) rfl ⟨?_, trivial⟩
                              refine TA.br rfl (W1.store 2 [.slice A61 r16.1.pages.length c61, .slice A62 r16.1.writes.length c62, .slice A63 ((z22 ++ [r16.1]).length) c63] [box b12 25 [.slice A61 r16.1.pages.length c61, .slice A62 r16.1.writes.length c62], row 25 (eAt w eDisk) A63 c63 (z22 ++ [r16.1]), box b3 104 [.slice A61 r16.1.pages.length c61, .slice A62 r16.1.writes.length c62, .slice A63 ((z22 ++ [r16.1]).length) c63]] (by rfl) rfl (by kernel_rfl) (fun w' hw => exec_store (vs := [.slice A63 ((z22 ++ [r16.1]).length) c63]) rfl rfl rfl rfl (by kernel_rfl) (one_of rfl) (by simp) rfl hw) ?_)
                              refine TA.on (Hp.old (View.le_refl _) (View.le_trans (View.le_trans (View.le_trans (View.le_trans (View.le_trans (View.le_trans (View.le_trans (View.le_trans (View.le_trans (View.le_trans hV1 hV2) hV4) hV6) hV9) hV12) hV15) hV18) hV20) hV21) hV24) (.cons _ (.cons _ (.cons _ List.Sublist.slnil))) OldAll.nil) ?_
                              refine TA.done (by kernel_rfl) ?_
                              exact fun a w' hf hh => Exists.intro A63 (Exists.intro c63 (And.intro (Fr.nil hf) (hh.sub (.cons _ (.cons_cons _ (.cons_cons _ List.Sublist.slnil))))))
                            ·
                              refine TA.br rfl (W1.new 25 [.slice A61 r16.1.pages.length c61, .slice A62 r16.1.writes.length c62] (fun b => .slice (some ⟨b, 0, none⟩) 1 1) (by kernel_rfl) (fun _ => by kernel_rfl) (fun b12 => ?_))
                              refine TA.on (Hp.old (View.le_refl _) (View.le_trans (View.le_trans (View.le_trans (View.le_trans (View.le_trans (View.le_trans (View.le_trans (View.le_trans (View.le_trans (View.le_trans hV1 hV2) hV4) hV6) hV9) hV12) hV15) hV18) hV20) hV21) hV24) (.cons _ (.cons _ (.cons _ List.Sublist.slnil))) OldAll.nil) ?_
                              refine TA.all [4] (by kernel_rfl) rfl ⟨?_, trivial⟩
                              refine TA.br rfl (W1.look (.slice A51 z22.length c51) (by kernel_rfl) (fun w' hh => exec_load1 rfl rfl (by kernel_rfl) (hh.cellBox (i := 2) (by rfl) 2)) ?_)
                              refine TA.on (Hp.old (View.le_refl _) (View.le_trans (View.le_trans (View.le_trans (View.le_trans (View.le_trans (View.le_trans (View.le_trans (View.le_trans (View.le_trans (View.le_trans hV1 hV2) hV4) hV6) hV9) hV12) hV15) hV18) hV20) hV21) hV24) (.cons _ (.cons _ (.cons _ List.Sublist.slnil))) OldAll.nil) ?_
                              refine TA.all [10] (by kernel_rfl) rfl ⟨?_, trivial⟩
                              obtain ⟨hb27_r, hb27_m, rfl⟩ := grow_some hb27
                              obtain ⟨ti, hti, hz1, hz2, hz3⟩ := info_parts (P := Try.prog) (e := 25) (z := .agg #[.slice none 0 0, .slice none 0 0]) (size := 2) (bytes := 48) (by kernel_rfl)
                              refine TA.br rfl (W1.append (E := (eAt w eDisk)) (l := z22) (m := [r16.1]) 1 _ _ 48 ti _ (by rfl) (by kernel_rfl) rfl (by kernel_rfl) hti hz1 hz2 hz3 rfl (Nat.le_of_ble_eq_true rfl) rfl rfl (fun w' hh => (src_one (E := (eAt w eDisk)) hh (i := 0) (by rfl) ⟨A61, c61, A62, c62, rfl, (SlOk.mono hs38 (made_mono (View.le_refl _))), (SlOk.mono hs39 (made_mono (View.le_refl _)))⟩)) hb27_r hb27_m (fun A63 c63 => ?_))
                              refine TA.on (Hp.old (View.le_refl _) (View.le_trans (View.le_trans (View.le_trans (View.le_trans (View.le_trans (View.le_trans (View.le_trans (View.le_trans (View.le_trans (View.le_trans hV1 hV2) hV4) hV6) hV9) hV12) hV15) hV18) hV20) hV21) hV24) (.cons _ (.cons _ (.cons _ List.Sublist.slnil))) OldAll.nil) ?_
                              refine TA.take 11 (.pointer (some ⟨b3, 0, none⟩)) rfl (by kernel_rfl) (by kernel_rfl) (by kernel_rfl) (fun _ _ _ h => h) (Hp.old (View.le_refl _) (View.le_trans (View.le_trans (View.le_trans (View.le_trans (View.le_trans (View.le_trans (View.le_trans (View.le_trans (View.le_trans (View.le_trans hV1 hV2) hV4) hV6) hV9) hV12) hV15) hV18) hV20) hV21) hV24) (.cons _ (.cons _ (.cons _ List.Sublist.slnil))) OldAll.nil) (by kernel_rfl) (fun _ _ => by kernel_rfl) ?_
                              refine TA.take 12 (.pointer (some ⟨b3, 2, none⟩)) rfl (by kernel_rfl) (by kernel_rfl) (by kernel_rfl) (fun _ _ _ h => h) (Hp.old (View.le_refl _) (View.le_trans (View.le_trans (View.le_trans (View.le_trans (View.le_trans (View.le_trans (View.le_trans (View.le_trans (View.le_trans (View.le_trans hV1 hV2) hV4) hV6) hV9) hV12) hV15) hV18) hV20) hV21) hV24) (.cons _ (.cons _ (.cons _ List.Sublist.slnil))) OldAll.nil) (by kernel_rfl) (fun _ _ => by kernel_rfl) ?_
                              refine TA.all [13] (by kernel_rfl) rfl ⟨?_, trivial⟩
                              refine TA.br rfl (W1.store 2 [.slice A61 r16.1.pages.length c61, .slice A62 r16.1.writes.length c62, .slice A63 ((z22 ++ [r16.1]).length) c63] [box b12 25 [.slice A61 r16.1.pages.length c61, .slice A62 r16.1.writes.length c62], row 25 (eAt w eDisk) A63 c63 (z22 ++ [r16.1]), box b3 104 [.slice A61 r16.1.pages.length c61, .slice A62 r16.1.writes.length c62, .slice A63 ((z22 ++ [r16.1]).length) c63]] (by rfl) rfl (by kernel_rfl) (fun w' hw => exec_store (vs := [.slice A63 ((z22 ++ [r16.1]).length) c63]) rfl rfl rfl rfl (by kernel_rfl) (one_of rfl) (by simp) rfl hw) ?_)
                              refine TA.on (Hp.old (View.le_refl _) (View.le_trans (View.le_trans (View.le_trans (View.le_trans (View.le_trans (View.le_trans (View.le_trans (View.le_trans (View.le_trans (View.le_trans hV1 hV2) hV4) hV6) hV9) hV12) hV15) hV18) hV20) hV21) hV24) (.cons _ (.cons _ (.cons _ List.Sublist.slnil))) OldAll.nil) ?_
                              refine TA.done (by kernel_rfl) ?_
                              exact fun a w' hf hh => Exists.intro A63 (Exists.intro c63 (And.intro (Fr.nil hf) (hh.sub (.cons _ (.cons_cons _ (.cons_cons _ List.Sublist.slnil))))))
                        ·
                          rintro a w' ⟨A64, c64, hf, hh⟩
                          refine (?_ : T 26 w V24 [row 25 (eAt w eDisk) A64 c64 (z22 ++ [r16.1]), box b3 104 [.slice A61 r16.1.pages.length c61, .slice A62 r16.1.writes.length c62, .slice A64 ((z22 ++ [r16.1]).length) c64]] [] _) a w' hf hh
                          clear hf hh
                          cases hX7
                          exact T.end0 rfl fun w' hh => ⟨_, rfl, Exists.intro (z22 ++ [r16.1]) (Exists.intro r16.1.pages (Exists.intro r16.1.writes (And.intro rfl (Exists.intro A64 (Exists.intro c64 (Exists.intro A61 (Exists.intro c61 (Exists.intro A62 (Exists.intro c62 (Exists.intro V24 (And.intro hV24 (And.intro (SlOk.mono hs38 (made_mono (View.le_refl _))) (And.intro (SlOk.mono hs39 (made_mono (View.le_refl _))) (And.intro rfl (hh.sub (.cons_cons _ (.cons_cons _ List.Sublist.slnil)))))))))))))))))⟩
                      ·
                        rintro v w' ⟨z25, z26, z27, rfl, A58, c58, A59, c59, A60, c60, V23, hV23, hs36, hs37, rfl, hh⟩
                        try dsimp only at hF
                        refine ⟨V23, [row 25 (eAt w eDisk) A58 c58 z25, box b3 104 [.slice A59 z26.length c59, .slice A60 z27.length c60, .slice A58 z25.length c58]], hh, ?_⟩
                        clear hh
                        refine T.nil ?_
                        refine T.seq ?_
                        refine T.region ?_
                        refine T.pure (.pointer (some ⟨b3, 0, none⟩)) (by kernel_rfl) (fun _ => by kernel_rfl) ?_
                        refine T.pure (.pointer (some ⟨b3, 0, none⟩)) (by kernel_rfl) (fun _ => by kernel_rfl) ?_
                        refine T.pure (.pointer (some ⟨b3, 2, none⟩)) (by kernel_rfl) (fun _ => by kernel_rfl) ?_
                        refine T.look (.slice A58 z25.length c58) (by kernel_rfl) (fun w' hh => exec_load1 rfl rfl (by kernel_rfl) (hh.cellBox (i := 1) (by rfl) 2)) ?_
                        refine T.pure (.slice A58 z25.length c58) (by kernel_rfl) (fun _ => by kernel_rfl) ?_
                        refine T.pure (.int .i64 0) (by kernel_rfl) (fun _ => by kernel_rfl) ?_
                        refine T.nil ?_
                        cases hF
                        refine T.freezeM (E := eDisk) (H' := [box b3 104 [.slice A59 z26.length c59, .slice A60 z27.length c60, .slice A58 z25.length c58]]) 0 (by rfl) rfl (fun V25 hV25 hs40 => ?_)
                        refine T.ret rfl ?_
                        exact T.ret2 rfl (ResIs.tmp rfl) (ResIs.tmp rfl) fun w' hh => ⟨_, rfl, hh.below, (vT2.mk ⟨_, _, rfl, (SlOk.mono hs40 (View.le_trans (made_mono (View.le_refl _)) (made_fresh hh)))⟩ (show _ from rfl))⟩

end Go.Proofs.Ytomgholekojenaa
