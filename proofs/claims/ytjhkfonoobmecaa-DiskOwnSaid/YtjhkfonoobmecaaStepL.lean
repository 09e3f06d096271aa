/- The Go functions of group Step compute the pure functions of that group: written by walkgen.py. Condition of each: the pure function yields a result. -/
import Derived.Test.YtjhkfonoobmecaaUndoL
import Derived.Test.YtjhkfonoobmecaaStepF
import Derived.Test.YtjhkfonoobmecaaEqL
namespace Go.Proofs.Ytjhkfonoobmecaa
set_option linter.unusedVariables false

set_option maxRecDepth 100000 in
set_option maxHeartbeats 4000000 in
theorem undo_fit_l (F : Nat) (p0 : ByteArray) (p1 : (List DWrite)) (r : Int) (hF : undo_fit F p0 p1 = some r) (w : World) (A1 : Option Addr) (c1 : Nat) (hs1 : SlOk (vw w) eWrite A1 c1 p1) :
    Calls Try.prog 30 #[.string p0, .slice A1 p1.length c1] w (Post (vSc eInt) r w) := by
 unfold undo_fit at hF
 refine T.start (l := [.string p0, .slice A1 p1.length c1]) Try.func30 rfl rfl rfl ?_
 refine T.seq ?_
 refine T.region ?_
 refine T.pure (.int .i64 0) (by kernel_rfl) (fun _ => by kernel_rfl) ?_
 refine T.nil ?_
 refine T.seq ?_
 refine T.cut (fun a w' => Fr 42 [(1, .slice A1 p1.length c1), (15, .bool ((decide ((2900 : Int) < (p0.size : Int))) || (decide ((100 : Int) < (p1.length : Int)))))] a ∧ Hp w (vw w) [] w') ?_ ?_
 ·
  refine T.region ?_
  refine T.pure (.string p0) (by kernel_rfl) (fun _ => by kernel_rfl) ?_
  refine T.pure (.int .i64 (p0.size : Int)) (by kernel_rfl) (fun _ => by kernel_rfl) ?_
  refine T.pure (.bool (decide ((2900 : Int) < (p0.size : Int)))) (by kernel_rfl) (fun _ => by kernel_rfl) ?_
  refine T.pure (.bool (decide ((2900 : Int) < (p0.size : Int)))) (by kernel_rfl) (fun _ => by kernel_rfl) ?_
  cases hg1 : decide ((2900 : Int) < (p0.size : Int))
  ·
   skip
   refine T.pure (.slice A1 p1.length c1) (by kernel_rfl) (fun _ => by kernel_rfl) ?_
   refine T.pure (.int .i64 (p1.length : Int)) (by kernel_rfl) (fun _ => by kernel_rfl) ?_
   refine T.pure (.bool (decide ((100 : Int) < (p1.length : Int)))) (by kernel_rfl) (fun _ => by kernel_rfl) ?_
   refine T.pure (.bool (decide ((100 : Int) < (p1.length : Int)))) (by kernel_rfl) (fun _ => by kernel_rfl) ?_
   refine T.nil ?_
   exact fun a w' hf hh => And.intro (((Fr.nil hf).pick hf 15 rfl).pick hf 1 rfl) (hh.sub List.Sublist.slnil)
  ·
   skip
   refine T.pass (by kernel_rfl) (by kernel_rfl) ?_
   refine T.pass (by kernel_rfl) (by kernel_rfl) ?_
   refine T.pass (by kernel_rfl) (by kernel_rfl) ?_
   refine T.pure (.bool true) (by kernel_rfl) (fun _ => by kernel_rfl) ?_
   refine T.nil ?_
   exact fun a w' hf hh => And.intro (((Fr.nil hf).pick hf 15 rfl).pick hf 1 rfl) (hh.sub List.Sublist.slnil)
 ·
  rintro a w' ⟨hf, hh⟩
  refine (?_ : T 42 w (vw w) [] [(1, .slice A1 p1.length c1), (15, .bool ((decide ((2900 : Int) < (p0.size : Int))) || (decide ((100 : Int) < (p1.length : Int)))))] _) a w' hf hh
  clear hf hh
  refine T.cond ((decide ((2900 : Int) < (p0.size : Int))) || (decide ((100 : Int) < (p1.length : Int)))) (by kernel_rfl) (by kernel_rfl) (fun hc1 => ?_) (fun hc1 => ?_)
  ·
   rw [hc1, cond_true] at hF
   refine T.seq ?_
   refine T.region ?_
   refine T.pure (.int .i64 2) (by kernel_rfl) (fun _ => by kernel_rfl) ?_
   refine T.nil ?_
   cases hF
   refine T.ret rfl ?_
   exact T.ret1 rfl (ResIs.tmp rfl) fun w' hh => ⟨_, rfl, hh.below, (show _ from rfl)⟩
  ·
   rw [hc1, cond_false] at hF
   refine T.skip_code ?_
   refine T.seq ?_
   refine T.region ?_
   refine T.step (W1.new 76 (List.replicate 201 (.bool false)) (fun b => .pointer (some ⟨b, 0, none⟩)) (by kernel_rfl) (fun _ => by kernel_rfl) (fun b1 => ?_))
   refine T.boxrow (E := eBool) (x := false) (fun _ => rfl) rfl (by decide) (by decide) ?_
   refine T.nil ?_
   refine T.seq ?_
   refine T.seq ?_
   refine T.region ?_
   refine T.pure (.slice A1 p1.length c1) (by kernel_rfl) (fun _ => by kernel_rfl) ?_
   refine T.pure (.int .i64 (p1.length : Int)) (by kernel_rfl) (fun _ => by kernel_rfl) ?_
   refine T.pure (.int .i64 0) (by kernel_rfl) (fun _ => by kernel_rfl) ?_
   refine T.nil ?_
   obtain ⟨q1, hz1, hF⟩ := Option.bind_eq_some_iff.1 hF
   refine T.mid (fun a w' => q1 = Sum.inl () ∧ Fr 42 [] a ∧ Hp w (vw w) [] w') ?_ ?_
   ·
    refine T.block ?_
    refine T.iter (fun s1 a w' => ∃ (x1 : List Bool) (x2 : Int), s1 = (x1, x2) ∧ Fr 42 [(5, .pointer (some ⟨b1, 0, none⟩)), (16, .slice A1 p1.length c1), (17, .int .i64 (p1.length : Int)), (18, .int .i64 x2)] a ∧ Hp w (vw w) [row 76 eBool (some ⟨b1, 0, none⟩) 201 x1] w') hz1 ?_ ?_
    ·
     exact fun a w' hf hh => Exists.intro (List.replicate 201 false) (Exists.intro 0 (And.intro rfl (And.intro (((((Fr.nil hf).pick hf 18 rfl).pick hf 17 rfl).pick hf 16 rfl).pick hf 5 rfl) (hh.sub (.cons_cons _ List.Sublist.slnil)))))
    ·
     rintro s1 y1 hY1 hr1 a w' ⟨x1, x2, rfl, hf, hh⟩
     refine (?_ : T 42 w (vw w) [row 76 eBool (some ⟨b1, 0, none⟩) 201 x1] [(5, .pointer (some ⟨b1, 0, none⟩)), (16, .slice A1 p1.length c1), (17, .int .i64 (p1.length : Int)), (18, .int .i64 x2)] _) a w' hf hh
     clear hf hh
     try dsimp only at hY1
     refine T.seq ?_
     refine T.region ?_
     refine T.pure (.bool (decide (x2 < (p1.length : Int)))) (by kernel_rfl) (fun _ => by kernel_rfl) ?_
     refine T.nil ?_
     refine T.seq ?_
     refine T.cond (decide (x2 < (p1.length : Int))) (by kernel_rfl) (by kernel_rfl) (fun hc2 => ?_) (fun hc2 => ?_)
     ·
      rw [hc2, cond_true] at hY1
      refine T.skip_code ?_
      refine T.seq ?_
      refine T.block ?_
      refine T.seq ?_
      refine T.region ?_
      obtain ⟨e1, hb1, hY1⟩ := Option.bind_eq_some_iff.1 hY1
      obtain ⟨hi1, hi2, hi3⟩ := idx_some hb1
      refine T.look (.pointer (some ((sadr A1).add (x2.toNat * 2)))) (by kernel_rfl) (fun w' hh => exec_indexAddr (e := 29) (s := 2) rfl rfl rfl (by kernel_rfl) (by kernel_rfl) hi1 hi2 (hs1.some_ hi3 (by decide))) ?_
      refine T.look (.agg #[.int .i64 e1.page, .string e1.text]) (by kernel_rfl) (fun w' hh => exec_loadN (cs := [.int .i64 e1.page, .string e1.text]) rfl rfl (by kernel_rfl) (by kernel_rfl) (fun j u hj => (hh.cell_view (SlOk.cellF (E := eWrite) hs1 hi3 j (fun _ _ _ h => h) hj)))) ?_
      refine T.step (W1.new 29 [.int .i64 0, .string (ByteArray.mk #[])] (fun b => .pointer (some ⟨b, 0, none⟩)) (by kernel_rfl) (fun _ => by kernel_rfl) (fun b2 => ?_))
      refine T.step (W1.store 0 [.int .i64 e1.page, .string e1.text] [box b2 29 [.int .i64 e1.page, .string e1.text], row 76 eBool (some ⟨b1, 0, none⟩) 201 x1] (by rfl) rfl (by kernel_rfl) (fun w' hw => exec_store (vs := [.int .i64 e1.page, .string e1.text]) rfl rfl rfl rfl (by kernel_rfl) (one_of rfl) (by simp) rfl hw) ?_)
      refine T.nil ?_
      refine T.seq ?_
      refine T.cut (fun a w' => Fr 42 [(5, .pointer (some ⟨b1, 0, none⟩)), (7, .pointer (some ⟨b2, 0, none⟩)), (16, .slice A1 p1.length c1), (17, .int .i64 (p1.length : Int)), (18, .int .i64 x2), (29, .bool ((decide (e1.page < 1)) || (decide ((101 : Int) ≤ e1.page))))] a ∧ Hp w (vw w) [box b2 29 [.int .i64 e1.page, .string e1.text], row 76 eBool (some ⟨b1, 0, none⟩) 201 x1] w') ?_ ?_
      ·
       refine T.region ?_
       refine T.pure (.pointer (some ⟨b2, 0, none⟩)) (by kernel_rfl) (fun _ => by kernel_rfl) ?_
       refine T.look (.int .i64 e1.page) (by kernel_rfl) (fun w' hh => exec_load1 rfl rfl (by kernel_rfl) (hh.cellBox (i := 0) (by rfl) 0)) ?_
       refine T.pure (.bool (decide (e1.page < 1))) (by kernel_rfl) (fun _ => by kernel_rfl) ?_
       refine T.pure (.bool (decide (e1.page < 1))) (by kernel_rfl) (fun _ => by kernel_rfl) ?_
       cases hg2 : decide (e1.page < 1)
       ·
        skip
        refine T.pure (.pointer (some ⟨b2, 0, none⟩)) (by kernel_rfl) (fun _ => by kernel_rfl) ?_
        refine T.look (.int .i64 e1.page) (by kernel_rfl) (fun w' hh => exec_load1 rfl rfl (by kernel_rfl) (hh.cellBox (i := 0) (by rfl) 0)) ?_
        refine T.pure (.bool (decide ((101 : Int) ≤ e1.page))) (by kernel_rfl) (fun _ => by kernel_rfl) ?_
        refine T.pure (.bool (decide ((101 : Int) ≤ e1.page))) (by kernel_rfl) (fun _ => by kernel_rfl) ?_
        refine T.nil ?_
        exact fun a w' hf hh => And.intro (((((((Fr.nil hf).pick hf 29 rfl).pick hf 18 rfl).pick hf 17 rfl).pick hf 16 rfl).pick hf 7 rfl).pick hf 5 rfl) (hh.sub (.cons_cons _ (.cons_cons _ List.Sublist.slnil)))
       ·
        skip
        refine T.pass (by kernel_rfl) (by kernel_rfl) ?_
        refine T.pass (by kernel_rfl) (by kernel_rfl) ?_
        refine T.pass (by kernel_rfl) (by kernel_rfl) ?_
        refine T.pure (.bool true) (by kernel_rfl) (fun _ => by kernel_rfl) ?_
        refine T.nil ?_
        exact fun a w' hf hh => And.intro (((((((Fr.nil hf).pick hf 29 rfl).pick hf 18 rfl).pick hf 17 rfl).pick hf 16 rfl).pick hf 7 rfl).pick hf 5 rfl) (hh.sub (.cons_cons _ (.cons_cons _ List.Sublist.slnil)))
      ·
       rintro a w' ⟨hf, hh⟩
       refine (?_ : T 42 w (vw w) [box b2 29 [.int .i64 e1.page, .string e1.text], row 76 eBool (some ⟨b1, 0, none⟩) 201 x1] [(5, .pointer (some ⟨b1, 0, none⟩)), (7, .pointer (some ⟨b2, 0, none⟩)), (16, .slice A1 p1.length c1), (17, .int .i64 (p1.length : Int)), (18, .int .i64 x2), (29, .bool ((decide (e1.page < 1)) || (decide ((101 : Int) ≤ e1.page))))] _) a w' hf hh
       clear hf hh
       refine T.cond ((decide (e1.page < 1)) || (decide ((101 : Int) ≤ e1.page))) (by kernel_rfl) (by kernel_rfl) (fun hc3 => ?_) (fun hc3 => ?_)
       ·
        rw [hc3, cond_true] at hY1
        refine T.seq ?_
        refine T.region ?_
        refine T.pure (.int .i64 1) (by kernel_rfl) (fun _ => by kernel_rfl) ?_
        refine T.nil ?_
        cases hY1
        cases (hr1 _ rfl)
        try dsimp only at hF
        cases hF
        refine T.ret rfl ?_
        exact T.ret1 rfl (ResIs.tmp rfl) fun w' hh => ⟨_, rfl, hh.below, (show _ from rfl)⟩
       ·
        rw [hc3, cond_false] at hY1
        refine T.skip_code ?_
        refine T.seq ?_
        refine T.seq ?_
        refine T.region ?_
        refine T.pure (.pointer (some ⟨b2, 1, none⟩)) (by kernel_rfl) (fun _ => by kernel_rfl) ?_
        refine T.look (.string e1.text) (by kernel_rfl) (fun w' hh => exec_load1 rfl rfl (by kernel_rfl) (hh.cellBox (i := 0) (by rfl) 1)) ?_
        refine T.pure (.int .i64 (e1.text.size : Int)) (by kernel_rfl) (fun _ => by kernel_rfl) ?_
        refine T.pure (.bool (decide ((2900 : Int) < (e1.text.size : Int)))) (by kernel_rfl) (fun _ => by kernel_rfl) ?_
        refine T.nil ?_
        refine T.cond (decide ((2900 : Int) < (e1.text.size : Int))) (by kernel_rfl) (by kernel_rfl) (fun hc4 => ?_) (fun hc4 => ?_)
        ·
         rw [hc4, cond_true] at hY1
         refine T.seq ?_
         refine T.region ?_
         refine T.pure (.int .i64 2) (by kernel_rfl) (fun _ => by kernel_rfl) ?_
         refine T.nil ?_
         cases hY1
         cases (hr1 _ rfl)
         try dsimp only at hF
         cases hF
         refine T.ret rfl ?_
         exact T.ret1 rfl (ResIs.tmp rfl) fun w' hh => ⟨_, rfl, hh.below, (show _ from rfl)⟩
        ·
         rw [hc4, cond_false] at hY1
         refine T.skip_code ?_
         refine T.seq ?_
         refine T.seq ?_
         refine T.region ?_
         refine T.pure (.pointer (some ⟨b2, 0, none⟩)) (by kernel_rfl) (fun _ => by kernel_rfl) ?_
         refine T.look (.int .i64 e1.page) (by kernel_rfl) (fun w' hh => exec_load1 rfl rfl (by kernel_rfl) (hh.cellBox (i := 0) (by rfl) 0)) ?_
         obtain ⟨e2, hb2, hY1⟩ := Option.bind_eq_some_iff.1 hY1
         obtain ⟨hi4, hi5, hi6⟩ := idx_some hb2
         refine T.look (.pointer (some ((sadr (some ⟨b1, 0, none⟩)).add (e1.page.toNat * 1)))) (by kernel_rfl) (fun w' hh => exec_arrRow (e := 4) (s := 1) (n := 201) rfl rfl rfl (by kernel_rfl) (by kernel_rfl) hi4 hi5 (hh.row_len (i := 1) (by rfl))) ?_
         refine T.look (.bool e2) (by kernel_rfl) (fun w' hh => exec_load1 rfl rfl (by kernel_rfl) (SlOk.wcellF0 (E := eBool) (hh.row_slOk (i := 1) (by rfl)) hi6 (fun _ _ _ h => h) rfl)) ?_
         refine T.nil ?_
         refine T.cond e2 (by kernel_rfl) (by kernel_rfl) (fun hc5 => ?_) (fun hc5 => ?_)
         ·
          rw [hc5, cond_true] at hY1
          refine T.seq ?_
          refine T.region ?_
          refine T.pure (.int .i64 5) (by kernel_rfl) (fun _ => by kernel_rfl) ?_
          refine T.nil ?_
          cases hY1
          cases (hr1 _ rfl)
          try dsimp only at hF
          cases hF
          refine T.ret rfl ?_
          exact T.ret1 rfl (ResIs.tmp rfl) fun w' hh => ⟨_, rfl, hh.below, (show _ from rfl)⟩
         ·
          rw [hc5, cond_false] at hY1
          refine T.skip_code ?_
          refine T.region ?_
          refine T.pure (.pointer (some ⟨b2, 0, none⟩)) (by kernel_rfl) (fun _ => by kernel_rfl) ?_
          refine T.look (.int .i64 e1.page) (by kernel_rfl) (fun w' hh => exec_load1 rfl rfl (by kernel_rfl) (hh.cellBox (i := 0) (by rfl) 0)) ?_
          obtain ⟨e3, hb3, hY1⟩ := Option.bind_eq_some_iff.1 hY1
          obtain ⟨hi7, hi8, hi9⟩ := idx_some hb3
          refine T.look (.pointer (some ((sadr (some ⟨b1, 0, none⟩)).add (e1.page.toNat * 1)))) (by kernel_rfl) (fun w' hh => exec_arrRow (e := 4) (s := 1) (n := 201) rfl rfl rfl (by kernel_rfl) (by kernel_rfl) hi7 hi8 (hh.row_len (i := 1) (by rfl))) ?_
          refine T.step (W1.storeRow (E := eBool) 1 (e1.page.toNat) 0 e3 true _ (vs := [.bool true]) (by rfl) (by kernel_rfl) rfl rfl (addr_add0 _).symm rfl rfl (fun _ => by kernel_rfl) (one_of rfl) hi9 (Nat.le_of_ble_eq_true (by kernel_rfl)) (fun _ _ h => by cases h; rfl) ?_)
          refine T.nil ?_
          refine T.region ?_
          refine T.pure (.int .i64 (IntKind.i64.wrap (x2 + 1))) (by kernel_rfl) (fun _ => by kernel_rfl) ?_
          refine T.pure (.int .i64 (IntKind.i64.wrap (x2 + 1))) (by kernel_rfl) (fun _ => by kernel_rfl) ?_
          refine T.nil ?_
          cases hY1
          exact fun a w' hf hh => Exists.intro ((x1.set e1.page.toNat true), IntKind.i64.wrap (x2 + 1)) (And.intro rfl (Exists.intro (x1.set e1.page.toNat true) (Exists.intro (IntKind.i64.wrap (x2 + 1)) (And.intro rfl (And.intro (((((Fr.nil hf).pick hf 18 rfl).pick hf 17 rfl).pick hf 16 rfl).pick hf 5 rfl) (hh.sub (.cons _ (.cons_cons _ List.Sublist.slnil))))))))
     ·
      rw [hc2, cond_false] at hY1
      refine T.exit ?_
      cases hY1
      cases (hr1 _ rfl)
      exact fun a w' hf hh => And.intro rfl (And.intro (Fr.nil hf) (hh.sub (.cons _ List.Sublist.slnil)))
   ·
    rintro a w' ⟨rfl, hf, hh⟩
    try dsimp only at hF
    refine (?_ : T 42 w (vw w) [] [] _) a w' hf hh
    clear hf hh
    refine T.seq ?_
    refine T.region ?_
    refine T.pure (.int .i64 0) (by kernel_rfl) (fun _ => by kernel_rfl) ?_
    refine T.nil ?_
    cases hF
    refine T.ret rfl ?_
    exact T.ret1 rfl (ResIs.tmp rfl) fun w' hh => ⟨_, rfl, hh.below, (show _ from rfl)⟩

end Go.Proofs.Ytjhkfonoobmecaa
