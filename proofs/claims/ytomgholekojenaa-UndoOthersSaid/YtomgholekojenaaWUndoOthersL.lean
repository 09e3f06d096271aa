/- The Go functions of group WUndoOthers compute the pure functions of that group: written by walkgen.py. Condition of each: the pure function yields a result. -/
import Derived.Test.YtomgholekojenaaStepL
import Derived.Test.YtomgholekojenaaWUndoOthersF
import Derived.Test.YtomgholekojenaaEqL
namespace Go.Proofs.Ytomgholekojenaa
set_option linter.unusedVariables false

set_option maxRecDepth 100000 in
set_option maxHeartbeats 4000000 in
theorem annalkeep_UndoOthers_l (F : Nat) (p0 : DDisk) (p1 : ByteArray) (p2 : (List DWrite)) (p3 : Int) (r : Bool) (hF : annalkeep_UndoOthers F p0 p1 p2 p3 = some r) (w : World) (A1 : Option Addr) (c1 : Nat) (hs1 : SlOk (vw w) eStr A1 c1 p0.pages) (A2 : Option Addr) (c2 : Nat) (hs2 : SlOk (vw w) eWrite A2 c2 p0.writes) (A3 : Option Addr) (c3 : Nat) (hs3 : SlOk (vw w) eWrite A3 c3 p2) :
    Calls Try.prog 5 #[.agg #[.slice A1 p0.pages.length c1, .slice A2 p0.writes.length c2], .string p1, .slice A3 p2.length c3, .int .i64 p3] w (Post (vSc eBool) r w) := by
  unfold annalkeep_UndoOthers at hF
  refine T.start (l := [.agg #[.slice A1 p0.pages.length c1, .slice A2 p0.writes.length c2], .string p1, .slice A3 p2.length c3, .int .i64 p3]) Try.func5 rfl rfl rfl ?_
  refine T.seq ?_
  refine T.region ?_
  refine T.step (W1.new 25 [.slice A1 p0.pages.length c1, .slice A2 p0.writes.length c2] (fun b => .pointer (some ⟨b, 0, none⟩)) (by kernel_rfl) (fun _ => by kernel_rfl) (fun b1 => ?_))
  refine T.pure (.bool false) (by kernel_rfl) (fun _ => by kernel_rfl) ?_
  refine T.nil ?_
  refine T.seq ?_
  refine T.region ?_
  obtain ⟨r1, hb1, hF⟩ := Option.bind_eq_some_iff.1 hF
  refine T.step (W1.call (vT2 (vSc eStr) (vSc eInt)) r1 17 #[.int .i64 3, .string (ByteArray.mk #[97, 98])] (by kernel_rfl) (fun _ => by kernel_rfl) (fun w' hh => undo_Head_l F 3 (ByteArray.mk #[97, 98]) r1 hb1 w' ) ?_)
  intro u V1 hV1 hu
  obtain rfl := (Sure.t2 sureStr sureInt) _ _ _ hu
  refine T.pure (.tuple #[.string r1.1, .int .i64 r1.2]) (by kernel_rfl) (fun _ => by kernel_rfl) ?_
  refine T.pure (.string r1.1) (by kernel_rfl) (fun _ => by kernel_rfl) ?_
  refine T.pure (.int .i64 r1.2) (by kernel_rfl) (fun _ => by kernel_rfl) ?_
  refine T.pure (.string r1.1) (by kernel_rfl) (fun _ => by kernel_rfl) ?_
  refine T.pure (.int .i64 r1.2) (by kernel_rfl) (fun _ => by kernel_rfl) ?_
  refine T.nil ?_
  refine T.seq ?_
  refine T.region ?_
  obtain ⟨u1, hb2, hF⟩ := Option.bind_eq_some_iff.1 hF
  obtain ⟨ti, hti, hz1, hz2, hz3⟩ := info_parts (P := Try.prog) (e := 9) (z := .string (ByteArray.mk #[])) (size := 1) (bytes := 16) (by kernel_rfl)
  obtain ⟨hb2_n, hb2_r, hb2_m⟩ := makes_some hb2
  refine T.step (W1.make (E := eStr) ((201 : Int).toNat) ((ByteArray.mk #[]) : ByteArray) _ _ .i64 .i64 16 ti _ (by kernel_rfl) rfl (by kernel_rfl) hti hz1 hz2 hz3 (congrArg (Value.int _) hb2_n.symm) (congrArg (Value.int _) hb2_n.symm) (fun _ => rfl) rfl hb2_r hb2_m (fun A4 => ?_))
  refine T.pure (.agg #[.slice A4 ((List.replicate ((201 : Int).toNat) ((ByteArray.mk #[]) : ByteArray)).length) ((201 : Int).toNat), .slice none 0 0]) (by kernel_rfl) (fun _ => by kernel_rfl) ?_
  refine T.step (W1.new 25 [.slice none 0 0, .slice none 0 0] (fun b => .pointer (some ⟨b, 0, none⟩)) (by kernel_rfl) (fun _ => by kernel_rfl) (fun b2 => ?_))
  refine T.step (W1.store 0 [.slice A4 ((List.replicate ((201 : Int).toNat) ((ByteArray.mk #[]) : ByteArray)).length) ((201 : Int).toNat), .slice none 0 0] [box b2 25 [.slice A4 ((List.replicate ((201 : Int).toNat) ((ByteArray.mk #[]) : ByteArray)).length) ((201 : Int).toNat), .slice none 0 0], row 9 eStr A4 ((201 : Int).toNat) (List.replicate ((201 : Int).toNat) ((ByteArray.mk #[]) : ByteArray)), box b1 25 [.slice A1 p0.pages.length c1, .slice A2 p0.writes.length c2]] (by rfl) rfl (by kernel_rfl) (fun w' hw => exec_store (vs := [.slice A4 ((List.replicate ((201 : Int).toNat) ((ByteArray.mk #[]) : ByteArray)).length) ((201 : Int).toNat), .slice none 0 0]) rfl rfl rfl rfl (by kernel_rfl) (one_of rfl) (by simp) rfl hw) ?_)
  refine T.nil ?_
  refine T.seq ?_
  refine T.region ?_
  refine T.pure (.pointer (some ⟨b2, 0, none⟩)) (by kernel_rfl) (fun _ => by kernel_rfl) ?_
  refine T.look (.slice A4 ((List.replicate ((201 : Int).toNat) ((ByteArray.mk #[]) : ByteArray)).length) ((201 : Int).toNat)) (by kernel_rfl) (fun w' hh => exec_load1 rfl rfl (by kernel_rfl) (hh.cellBox (i := 0) (by rfl) 0)) ?_
  refine T.pure (.string r1.1) (by kernel_rfl) (fun _ => by kernel_rfl) ?_
  obtain ⟨e1, hb3, hF⟩ := Option.bind_eq_some_iff.1 hF
  obtain ⟨hi1, hi2, hi3⟩ := idx_some hb3
  refine T.look (.pointer (some ((sadr A4).add (((0 : Int).toNat) * 1)))) (by kernel_rfl) (fun w' hh => exec_indexAddr (e := 9) (s := 1) rfl rfl rfl (by kernel_rfl) (by kernel_rfl) hi1 hi2 ((hh.row_slOk (i := 1) (by rfl)).some_ hi3 (by decide))) ?_
  refine T.step (W1.storeRow (E := eStr) 1 ((0 : Int).toNat) 0 e1 r1.1 _ (vs := [.string r1.1]) (by rfl) (by kernel_rfl) rfl rfl (addr_add0 _).symm rfl rfl (fun _ => by kernel_rfl) (one_of rfl) hi3 (Nat.le_of_ble_eq_true (by kernel_rfl)) (fun _ _ h => by cases h; rfl) ?_)
  refine T.reslot 25 (.slice A4 (((List.replicate ((201 : Int).toNat) ((ByteArray.mk #[]) : ByteArray)).set ((0 : Int).toNat) r1.1).length) ((201 : Int).toNat)) rfl (by simp only [List.length_set]) ?_
  refine T.reslot 26 (.agg #[.slice A4 (((List.replicate ((201 : Int).toNat) ((ByteArray.mk #[]) : ByteArray)).set ((0 : Int).toNat) r1.1).length) ((201 : Int).toNat), .slice none 0 0]) rfl (by simp only [List.length_set]) ?_
  refine T.reslot 28 (.slice A4 (((List.replicate ((201 : Int).toNat) ((ByteArray.mk #[]) : ByteArray)).set ((0 : Int).toNat) r1.1).length) ((201 : Int).toNat)) rfl (by simp only [List.length_set]) ?_
  refine T.reH (H' := [box b2 25 [.slice A4 (((List.replicate ((201 : Int).toNat) ((ByteArray.mk #[]) : ByteArray)).set ((0 : Int).toNat) r1.1).length) ((201 : Int).toNat), .slice none 0 0], row 9 eStr A4 ((201 : Int).toNat) ((List.replicate ((201 : Int).toNat) ((ByteArray.mk #[]) : ByteArray)).set ((0 : Int).toNat) r1.1), box b1 25 [.slice A1 p0.pages.length c1, .slice A2 p0.writes.length c2]]) (by first | (simp only [List.length_set]; done) | (simp only [List.length_set]; rfl)) ?_
  refine T.nil ?_
  refine T.seq ?_
  refine T.seq ?_
  refine T.region ?_
  refine T.look (.agg #[.slice A4 (((List.replicate ((201 : Int).toNat) ((ByteArray.mk #[]) : ByteArray)).set ((0 : Int).toNat) r1.1).length) ((201 : Int).toNat), .slice none 0 0]) (by kernel_rfl) (fun w' hh => exec_loadN (cs := [.slice A4 (((List.replicate ((201 : Int).toNat) ((ByteArray.mk #[]) : ByteArray)).set ((0 : Int).toNat) r1.1).length) ((201 : Int).toNat), .slice none 0 0]) rfl rfl (by kernel_rfl) (by kernel_rfl) (fun j u hj => (hh.box_at (i := 0) (cs := [.slice A4 (((List.replicate ((201 : Int).toNat) ((ByteArray.mk #[]) : ByteArray)).set ((0 : Int).toNat) r1.1).length) ((201 : Int).toNat), .slice none 0 0]) (by rfl) 0 j).trans (seg_at (n := 2) (by rfl) hj))) ?_
  refine T.pure (.agg #[.int .i64 2, .string (ByteArray.mk #[98])]) (by kernel_rfl) (fun _ => by kernel_rfl) ?_
  refine T.step (W1.new 52 [.int .i64 2, .string (ByteArray.mk #[98])] (fun b => .slice (some ⟨b, 0, none⟩) 1 1) (by kernel_rfl) (fun _ => by kernel_rfl) (fun b3 => ?_))
  obtain ⟨r3, hb4, hF⟩ := Option.bind_eq_some_iff.1 hF
  refine T.step (W1.call (vT2 (vSc (eList eDisk)) (vSc eInt)) r3 18 #[.agg #[.slice A4 (((List.replicate ((201 : Int).toNat) ((ByteArray.mk #[]) : ByteArray)).set ((0 : Int).toNat) r1.1).length) ((201 : Int).toNat), .slice none 0 0], .string (ByteArray.mk #[]), .slice (some ⟨b3, 0, none⟩) 1 1] (by kernel_rfl) (fun _ => by kernel_rfl) (fun w' hh => undo_Steps_l F (DDisk.mk ((List.replicate ((201 : Int).toNat) ((ByteArray.mk #[]) : ByteArray)).set ((0 : Int).toNat) r1.1) []) (ByteArray.mk #[]) [(DWrite.mk 2 (ByteArray.mk #[98]))] r3 hb4 w' A4 ((201 : Int).toNat) (hh.row_slOk (i := 2) (by rfl)) none 0 (SlOk.nil _ _) (some ⟨b3, 0, none⟩) 1 (slok_lit (E := eWrite) (f := DWrite.cells) [(DWrite.mk 2 (ByteArray.mk #[98]))] (fun _ _ => rfl) (Nat.le_of_ble_eq_true (by rfl)) (fun j => hh.cellBox (i := 0) (by rfl) j))) ?_)
  intro u V2 hV2 hu
  obtain ⟨u2, u3, rfl, hu1, hu2⟩ := vT2_elim hu
  obtain ⟨A5, c4, rfl, hs4⟩ := vlist_elim hu1
  obtain rfl := sureInt _ _ _ hu2
  refine T.pure (.tuple #[.slice A5 r3.1.length c4, .int .i64 r3.2]) (by kernel_rfl) (fun _ => by kernel_rfl) ?_
  refine T.pure (.slice A5 r3.1.length c4) (by kernel_rfl) (fun _ => by kernel_rfl) ?_
  refine T.pure (.int .i64 r3.2) (by kernel_rfl) (fun _ => by kernel_rfl) ?_
  refine T.pure (.slice A5 r3.1.length c4) (by kernel_rfl) (fun _ => by kernel_rfl) ?_
  refine T.pure (.int .i64 r3.2) (by kernel_rfl) (fun _ => by kernel_rfl) ?_
  refine T.nil ?_
  obtain ⟨z1, hX1, hF⟩ := Option.bind_eq_some_iff.1 hF
  refine T.cut (fun a w' => Fr 134 [(1, .string p1), (2, .slice A3 p2.length c3), (3, .int .i64 p3), (4, .pointer (some ⟨b1, 0, none⟩)), (57, .bool z1)] a ∧ Hp w V2 [box b1 25 [.slice A1 p0.pages.length c1, .slice A2 p0.writes.length c2]] w') ?_ ?_
  ·
    refine T.region ?_
    refine T.pure (.int .i64 r1.2) (by kernel_rfl) (fun _ => by kernel_rfl) ?_
    refine T.pure (.bool (r1.2 != 0)) (by kernel_rfl) (fun _ => by kernel_rfl) ?_
    refine T.pure (.bool (r1.2 != 0)) (by kernel_rfl) (fun _ => by kernel_rfl) ?_
    cases hg1 : (r1.2 != 0)
    ·
      skip
      rw [hg1, cond_false] at hX1
      refine T.pure (.int .i64 r3.2) (by kernel_rfl) (fun _ => by kernel_rfl) ?_
      refine T.pure (.bool (r3.2 != 0)) (by kernel_rfl) (fun _ => by kernel_rfl) ?_
      refine T.pure (.bool (r3.2 != 0)) (by kernel_rfl) (fun _ => by kernel_rfl) ?_
      refine T.pure (.bool (r3.2 != 0)) (by kernel_rfl) (fun _ => by kernel_rfl) ?_
      cases hg2 : (r3.2 != 0)
      ·
        skip
        rw [hg2, cond_false] at hX1
        refine T.pure (.slice A5 r3.1.length c4) (by kernel_rfl) (fun _ => by kernel_rfl) ?_
        refine T.pure (.int .i64 (r3.1.length : Int)) (by kernel_rfl) (fun _ => by kernel_rfl) ?_
        refine T.pure (.bool ((r3.1.length : Int) != 7)) (by kernel_rfl) (fun _ => by kernel_rfl) ?_
        refine T.pure (.bool ((r3.1.length : Int) != 7)) (by kernel_rfl) (fun _ => by kernel_rfl) ?_
        refine T.pure (.bool ((r3.1.length : Int) != 7)) (by kernel_rfl) (fun _ => by kernel_rfl) ?_
        cases hg3 : ((r3.1.length : Int) != 7)
        ·
          skip
          rw [hg3, cond_false] at hX1
          refine T.pure (.slice A5 r3.1.length c4) (by kernel_rfl) (fun _ => by kernel_rfl) ?_
          obtain ⟨e2, hb5, hX1⟩ := Option.bind_eq_some_iff.1 hX1
          obtain ⟨hi4, hi5, hi6⟩ := idx_some hb5
          obtain ⟨cs1, hr1, hc1⟩ := SlOk.elem (SlOk.mono hs4 (View.le_trans (made_le _ _) (View.le_refl _))) hi6
          obtain ⟨A6, c5, A7, c6, rfl, hs5, hs6⟩ := hr1
          refine T.look (.pointer (some ((sadr A5).add (((6 : Int).toNat) * 2)))) (by kernel_rfl) (fun w' hh => exec_indexAddr (e := 25) (s := 2) rfl rfl rfl (by kernel_rfl) (by kernel_rfl) hi4 hi5 ((SlOk.mono hs4 (View.le_trans (made_le _ _) (View.le_refl _))).some_ hi6 (by decide))) ?_
          refine T.pure (.pointer (some ((sadr A5).add (((6 : Int).toNat) * 2)))) (by kernel_rfl) (fun _ => by kernel_rfl) ?_
          refine T.look (.slice A6 e2.pages.length c5) (by kernel_rfl) (fun w' hh => exec_load1 rfl rfl (by kernel_rfl) (hh.cell_view (View.cell_mono (View.le_refl _) (hc1 0 _ rfl).2))) ?_
          obtain ⟨e3, hb6, hX1⟩ := Option.bind_eq_some_iff.1 hX1
          obtain ⟨hi7, hi8, hi9⟩ := idx_some hb6
          refine T.look (.pointer (some ((sadr A6).add (((2 : Int).toNat) * 1)))) (by kernel_rfl) (fun w' hh => exec_indexAddr (e := 9) (s := 1) rfl rfl rfl (by kernel_rfl) (by kernel_rfl) hi7 hi8 (hs5.some_ hi9 (by decide))) ?_
          refine T.look (.string e3) (by kernel_rfl) (fun w' hh => exec_load1 rfl rfl (by kernel_rfl) (hh.cell_view (SlOk.cellF0 (E := eStr) hs5 hi9 (fun _ _ _ h => h) rfl))) ?_
          refine T.pure (.bool (!(seq e3 (ByteArray.mk #[98])))) (by kernel_rfl) (fun _ => by kernel_rfl) ?_
          refine T.pure (.bool (!(seq e3 (ByteArray.mk #[98])))) (by kernel_rfl) (fun _ => by kernel_rfl) ?_
          refine T.nil ?_
          cases hX1
          exact fun a w' hf hh => And.intro ((((((Fr.nil hf).pick hf 57 rfl).pick hf 4 rfl).pick hf 3 rfl).pick hf 2 rfl).pick hf 1 rfl) (hh.sub (.cons _ (.cons _ (.cons _ (.cons_cons _ List.Sublist.slnil)))))
        ·
          skip
          rw [hg3, cond_true] at hX1
          refine T.pass (by kernel_rfl) (by kernel_rfl) ?_
          refine T.pass (by kernel_rfl) (by kernel_rfl) ?_
          refine T.pass (by kernel_rfl) (by kernel_rfl) ?_
          refine T.pass (by kernel_rfl) (by kernel_rfl) ?_
          refine T.pass (by kernel_rfl) (by kernel_rfl) ?_
          refine T.pass (by kernel_rfl) (by kernel_rfl) ?_
          refine T.pass (by kernel_rfl) (by kernel_rfl) ?_
          refine T.pure (.bool true) (by kernel_rfl) (fun _ => by kernel_rfl) ?_
          refine T.nil ?_
          cases hX1
          exact fun a w' hf hh => And.intro ((((((Fr.nil hf).pick hf 57 rfl).pick hf 4 rfl).pick hf 3 rfl).pick hf 2 rfl).pick hf 1 rfl) (hh.sub (.cons _ (.cons _ (.cons _ (.cons_cons _ List.Sublist.slnil)))))
      ·
        skip
        rw [hg2, cond_true] at hX1
        refine T.pass (by kernel_rfl) (by kernel_rfl) ?_
        refine T.pass (by kernel_rfl) (by kernel_rfl) ?_
        refine T.pass (by kernel_rfl) (by kernel_rfl) ?_
        refine T.pure (.bool true) (by kernel_rfl) (fun _ => by kernel_rfl) ?_
        refine T.pure (.bool true) (by kernel_rfl) (fun _ => by kernel_rfl) ?_
        refine T.pass (by kernel_rfl) (by kernel_rfl) ?_
        refine T.pass (by kernel_rfl) (by kernel_rfl) ?_
        refine T.pass (by kernel_rfl) (by kernel_rfl) ?_
        refine T.pass (by kernel_rfl) (by kernel_rfl) ?_
        refine T.pass (by kernel_rfl) (by kernel_rfl) ?_
        refine T.pass (by kernel_rfl) (by kernel_rfl) ?_
        refine T.pass (by kernel_rfl) (by kernel_rfl) ?_
        refine T.pure (.bool true) (by kernel_rfl) (fun _ => by kernel_rfl) ?_
        refine T.nil ?_
        cases hX1
        exact fun a w' hf hh => And.intro ((((((Fr.nil hf).pick hf 57 rfl).pick hf 4 rfl).pick hf 3 rfl).pick hf 2 rfl).pick hf 1 rfl) (hh.sub (.cons _ (.cons _ (.cons _ (.cons_cons _ List.Sublist.slnil)))))
    ·
      skip
      rw [hg1, cond_true] at hX1
      refine T.pass (by kernel_rfl) (by kernel_rfl) ?_
      refine T.pass (by kernel_rfl) (by kernel_rfl) ?_
      refine T.pure (.bool true) (by kernel_rfl) (fun _ => by kernel_rfl) ?_
      refine T.pure (.bool true) (by kernel_rfl) (fun _ => by kernel_rfl) ?_
      refine T.pass (by kernel_rfl) (by kernel_rfl) ?_
      refine T.pass (by kernel_rfl) (by kernel_rfl) ?_
      refine T.pass (by kernel_rfl) (by kernel_rfl) ?_
      refine T.pure (.bool true) (by kernel_rfl) (fun _ => by kernel_rfl) ?_
      refine T.pure (.bool true) (by kernel_rfl) (fun _ => by kernel_rfl) ?_
      refine T.pass (by kernel_rfl) (by kernel_rfl) ?_
      refine T.pass (by kernel_rfl) (by kernel_rfl) ?_
      refine T.pass (by kernel_rfl) (by kernel_rfl) ?_
      refine T.pass (by kernel_rfl) (by kernel_rfl) ?_
      refine T.pass (by kernel_rfl) (by kernel_rfl) ?_
      refine T.pass (by kernel_rfl) (by kernel_rfl) ?_
      refine T.pass (by kernel_rfl) (by kernel_rfl) ?_
      refine T.pure (.bool true) (by kernel_rfl) (fun _ => by kernel_rfl) ?_
      refine T.nil ?_
      cases hX1
      exact fun a w' hf hh => And.intro ((((((Fr.nil hf).pick hf 57 rfl).pick hf 4 rfl).pick hf 3 rfl).pick hf 2 rfl).pick hf 1 rfl) (hh.sub (.cons _ (.cons _ (.cons _ (.cons_cons _ List.Sublist.slnil)))))
  ·
    rintro a w' ⟨hf, hh⟩
    refine (?_ : T 134 w V2 [box b1 25 [.slice A1 p0.pages.length c1, .slice A2 p0.writes.length c2]] [(1, .string p1), (2, .slice A3 p2.length c3), (3, .int .i64 p3), (4, .pointer (some ⟨b1, 0, none⟩)), (57, .bool z1)] _) a w' hf hh
    clear hf hh
    refine T.cond z1 (by kernel_rfl) (by kernel_rfl) (fun hc2 => ?_) (fun hc2 => ?_)
    ·
      rw [hc2, cond_true] at hF
      refine T.seq ?_
      refine T.region ?_
      refine T.pure (.bool false) (by kernel_rfl) (fun _ => by kernel_rfl) ?_
      refine T.nil ?_
      cases hF
      refine T.ret rfl ?_
      exact T.ret1 rfl (ResIs.tmp rfl) fun w' hh => ⟨_, rfl, hh.below, (show _ from rfl)⟩
    ·
      rw [hc2, cond_false] at hF
      refine T.skip_code ?_
      refine T.seq ?_
      refine T.region ?_
      refine T.look (.agg #[.slice A1 p0.pages.length c1, .slice A2 p0.writes.length c2]) (by kernel_rfl) (fun w' hh => exec_loadN (cs := [.slice A1 p0.pages.length c1, .slice A2 p0.writes.length c2]) rfl rfl (by kernel_rfl) (by kernel_rfl) (fun j u hj => (hh.box_at (i := 0) (cs := [.slice A1 p0.pages.length c1, .slice A2 p0.writes.length c2]) (by rfl) 0 j).trans (seg_at (n := 2) (by rfl) hj))) ?_
      refine T.pure (.string p1) (by kernel_rfl) (fun _ => by kernel_rfl) ?_
      refine T.pure (.slice A3 p2.length c3) (by kernel_rfl) (fun _ => by kernel_rfl) ?_
      obtain ⟨r4, hb7, hF⟩ := Option.bind_eq_some_iff.1 hF
      refine T.step (W1.call (vT2 (vSc (eList eDisk)) (vSc eInt)) r4 18 #[.agg #[.slice A1 p0.pages.length c1, .slice A2 p0.writes.length c2], .string p1, .slice A3 p2.length c3] (by kernel_rfl) (fun _ => by kernel_rfl) (fun w' hh => undo_Steps_l F p0 p1 p2 r4 hb7 w' A1 c1 (SlOk.mono (SlOk.mono hs1 (View.le_trans hV1 hV2)) hh.view) A2 c2 (SlOk.mono (SlOk.mono hs2 (View.le_trans hV1 hV2)) hh.view) A3 c3 (SlOk.mono (SlOk.mono hs3 (View.le_trans hV1 hV2)) hh.view)) ?_)
      intro u V3 hV3 hu
      obtain ⟨u4, u5, rfl, hu3, hu4⟩ := vT2_elim hu
      obtain ⟨A8, c7, rfl, hs7⟩ := vlist_elim hu3
      obtain rfl := sureInt _ _ _ hu4
      refine T.pure (.tuple #[.slice A8 r4.1.length c7, .int .i64 r4.2]) (by kernel_rfl) (fun _ => by kernel_rfl) ?_
      refine T.pure (.slice A8 r4.1.length c7) (by kernel_rfl) (fun _ => by kernel_rfl) ?_
      refine T.pure (.int .i64 r4.2) (by kernel_rfl) (fun _ => by kernel_rfl) ?_
      refine T.pure (.slice A8 r4.1.length c7) (by kernel_rfl) (fun _ => by kernel_rfl) ?_
      refine T.pure (.int .i64 r4.2) (by kernel_rfl) (fun _ => by kernel_rfl) ?_
      refine T.nil ?_
      refine T.seq ?_
      refine T.cut (fun a w' => Fr 134 [(2, .slice A3 p2.length c3), (3, .int .i64 p3), (4, .pointer (some ⟨b1, 0, none⟩)), (10, .int .i64 r4.2), (14, .slice A8 r4.1.length c7), (71, .bool ((r4.2 != 0) || ((r4.1.length : Int) == 0)))] a ∧ Hp w V3 [box b1 25 [.slice A1 p0.pages.length c1, .slice A2 p0.writes.length c2]] w') ?_ ?_
      ·
        refine T.region ?_
        refine T.pure (.int .i64 r4.2) (by kernel_rfl) (fun _ => by kernel_rfl) ?_
        refine T.pure (.bool (r4.2 != 0)) (by kernel_rfl) (fun _ => by kernel_rfl) ?_
        refine T.pure (.bool (r4.2 != 0)) (by kernel_rfl) (fun _ => by kernel_rfl) ?_
        cases hg4 : (r4.2 != 0)
        ·
          skip
          refine T.pure (.slice A8 r4.1.length c7) (by kernel_rfl) (fun _ => by kernel_rfl) ?_
          refine T.pure (.int .i64 (r4.1.length : Int)) (by kernel_rfl) (fun _ => by kernel_rfl) ?_
          refine T.pure (.bool ((r4.1.length : Int) == 0)) (by kernel_rfl) (fun _ => by kernel_rfl) ?_
          refine T.pure (.bool ((r4.1.length : Int) == 0)) (by kernel_rfl) (fun _ => by kernel_rfl) ?_
          refine T.nil ?_
          exact fun a w' hf hh => And.intro (((((((Fr.nil hf).pick hf 71 rfl).pick hf 14 rfl).pick hf 10 rfl).pick hf 4 rfl).pick hf 3 rfl).pick hf 2 rfl) (hh.sub (.cons_cons _ List.Sublist.slnil))
        ·
          skip
          refine T.pass (by kernel_rfl) (by kernel_rfl) ?_
          refine T.pass (by kernel_rfl) (by kernel_rfl) ?_
          refine T.pass (by kernel_rfl) (by kernel_rfl) ?_
          refine T.pure (.bool true) (by kernel_rfl) (fun _ => by kernel_rfl) ?_
          refine T.nil ?_
          exact fun a w' hf hh => And.intro (((((((Fr.nil hf).pick hf 71 rfl).pick hf 14 rfl).pick hf 10 rfl).pick hf 4 rfl).pick hf 3 rfl).pick hf 2 rfl) (hh.sub (.cons_cons _ List.Sublist.slnil))
      ·
        rintro a w' ⟨hf, hh⟩
        refine (?_ : T 134 w V3 [box b1 25 [.slice A1 p0.pages.length c1, .slice A2 p0.writes.length c2]] [(2, .slice A3 p2.length c3), (3, .int .i64 p3), (4, .pointer (some ⟨b1, 0, none⟩)), (10, .int .i64 r4.2), (14, .slice A8 r4.1.length c7), (71, .bool ((r4.2 != 0) || ((r4.1.length : Int) == 0)))] _) a w' hf hh
        clear hf hh
        refine T.cond ((r4.2 != 0) || ((r4.1.length : Int) == 0)) (by kernel_rfl) (by kernel_rfl) (fun hc3 => ?_) (fun hc3 => ?_)
        ·
          rw [hc3, cond_true] at hF
          refine T.seq ?_
          refine T.region ?_
          refine T.pure (.int .i64 r4.2) (by kernel_rfl) (fun _ => by kernel_rfl) ?_
          refine T.pure (.bool (r4.2 != 0)) (by kernel_rfl) (fun _ => by kernel_rfl) ?_
          refine T.pure (.bool (r4.2 != 0)) (by kernel_rfl) (fun _ => by kernel_rfl) ?_
          refine T.nil ?_
          cases hF
          refine T.ret rfl ?_
          exact T.ret1 rfl (ResIs.tmp rfl) fun w' hh => ⟨_, rfl, hh.below, (show _ from rfl)⟩
        ·
          rw [hc3, cond_false] at hF
          refine T.skip_code ?_
          refine T.seq ?_
          refine T.region ?_
          refine T.pure (.slice A8 r4.1.length c7) (by kernel_rfl) (fun _ => by kernel_rfl) ?_
          refine T.pure (.slice A8 r4.1.length c7) (by kernel_rfl) (fun _ => by kernel_rfl) ?_
          refine T.pure (.int .i64 (r4.1.length : Int)) (by kernel_rfl) (fun _ => by kernel_rfl) ?_
          refine T.pure (.int .i64 (IntKind.i64.wrap ((r4.1.length : Int) - 1))) (by kernel_rfl) (fun _ => by kernel_rfl) ?_
          obtain ⟨e4, hb8, hF⟩ := Option.bind_eq_some_iff.1 hF
          obtain ⟨hi10, hi11, hi12⟩ := idx_some hb8
          obtain ⟨cs2, hr2, hc4⟩ := SlOk.elem (SlOk.mono hs7 (View.le_trans (made_le _ _) (View.le_refl _))) hi12
          obtain ⟨A9, c8, A10, c9, rfl, hs8, hs9⟩ := hr2
          refine T.look (.pointer (some ((sadr A8).add (((IntKind.i64.wrap ((r4.1.length : Int) - 1)).toNat) * 2)))) (by kernel_rfl) (fun w' hh => exec_indexAddr (e := 25) (s := 2) rfl rfl rfl (by kernel_rfl) (by kernel_rfl) hi10 hi11 ((SlOk.mono hs7 (View.le_trans (made_le _ _) (View.le_refl _))).some_ hi12 (by decide))) ?_
          refine T.look (.agg #[.slice A9 e4.pages.length c8, .slice A10 e4.writes.length c9]) (by kernel_rfl) (fun w' hh => exec_loadN (cs := [.slice A9 e4.pages.length c8, .slice A10 e4.writes.length c9]) rfl rfl (by kernel_rfl) (by kernel_rfl) (fun j u hj => hh.cell_view (View.cell_mono (View.le_refl _) (hc4 j u hj).2))) ?_
          refine T.step (W1.new 25 [.slice none 0 0, .slice none 0 0] (fun b => .pointer (some ⟨b, 0, none⟩)) (by kernel_rfl) (fun _ => by kernel_rfl) (fun b4 => ?_))
          refine T.step (W1.store 0 [.slice A9 e4.pages.length c8, .slice A10 e4.writes.length c9] [box b4 25 [.slice A9 e4.pages.length c8, .slice A10 e4.writes.length c9], box b1 25 [.slice A1 p0.pages.length c1, .slice A2 p0.writes.length c2]] (by rfl) rfl (by kernel_rfl) (fun w' hw => exec_store (vs := [.slice A9 e4.pages.length c8, .slice A10 e4.writes.length c9]) rfl rfl rfl rfl (by kernel_rfl) (one_of rfl) (by simp) rfl hw) ?_)
          refine T.nil ?_
          refine T.seq ?_
          refine T.region ?_
          refine T.pure (.int .i64 p3) (by kernel_rfl) (fun _ => by kernel_rfl) ?_
          obtain ⟨r5, hb9, hF⟩ := Option.bind_eq_some_iff.1 hF
          refine T.step (W1.call (vSc eInt) r5 15 #[.int .i64 p3, .int .i64 100] (by kernel_rfl) (fun _ => by kernel_rfl) (fun w' hh => annalkeep_Within_l p3 100 r5 hb9 w' ) ?_)
          intro u V4 hV4 hu
          obtain rfl := sureInt _ _ _ hu
          refine T.pure (.int .i64 (IntKind.i64.wrap (1 + r5))) (by kernel_rfl) (fun _ => by kernel_rfl) ?_
          refine T.pure (.int .i64 (IntKind.i64.wrap (1 + r5))) (by kernel_rfl) (fun _ => by kernel_rfl) ?_
          refine T.nil ?_
          refine T.seq ?_
          refine T.seq ?_
          refine T.region ?_
          refine T.pure (.slice A3 p2.length c3) (by kernel_rfl) (fun _ => by kernel_rfl) ?_
          refine T.pure (.int .i64 (p2.length : Int)) (by kernel_rfl) (fun _ => by kernel_rfl) ?_
          refine T.pure (.int .i64 0) (by kernel_rfl) (fun _ => by kernel_rfl) ?_
          refine T.nil ?_
          obtain ⟨q1, hz1, hF⟩ := Option.bind_eq_some_iff.1 hF
          refine T.mid (fun a w' => q1 = Sum.inl () ∧ Fr 134 [(3, .int .i64 (IntKind.i64.wrap (1 + r5))), (4, .pointer (some ⟨b1, 0, none⟩)), (15, .pointer (some ⟨b4, 0, none⟩))] a ∧ Hp w V4 [box b4 25 [.slice A9 e4.pages.length c8, .slice A10 e4.writes.length c9], box b1 25 [.slice A1 p0.pages.length c1, .slice A2 p0.writes.length c2]] w') ?_ ?_
          ·
            refine T.block ?_
            refine T.iter (fun x1 a w' => Fr 134 [(3, .int .i64 (IntKind.i64.wrap (1 + r5))), (4, .pointer (some ⟨b1, 0, none⟩)), (15, .pointer (some ⟨b4, 0, none⟩)), (83, .slice A3 p2.length c3), (84, .int .i64 (p2.length : Int)), (85, .int .i64 x1)] a ∧ Hp w V4 [box b4 25 [.slice A9 e4.pages.length c8, .slice A10 e4.writes.length c9], box b1 25 [.slice A1 p0.pages.length c1, .slice A2 p0.writes.length c2]] w') hz1 ?_ ?_
            ·
              exact fun a w' hf hh => And.intro (((((((Fr.nil hf).pick hf 85 rfl).pick hf 84 rfl).pick hf 83 rfl).pick hf 15 rfl).pick hf 4 rfl).pick hf 3 rfl) (hh.sub (.cons_cons _ (.cons_cons _ List.Sublist.slnil)))
            ·
              rintro x1 y1 hY1 hr3 a w' ⟨hf, hh⟩
              refine (?_ : T 134 w V4 [box b4 25 [.slice A9 e4.pages.length c8, .slice A10 e4.writes.length c9], box b1 25 [.slice A1 p0.pages.length c1, .slice A2 p0.writes.length c2]] [(3, .int .i64 (IntKind.i64.wrap (1 + r5))), (4, .pointer (some ⟨b1, 0, none⟩)), (15, .pointer (some ⟨b4, 0, none⟩)), (83, .slice A3 p2.length c3), (84, .int .i64 (p2.length : Int)), (85, .int .i64 x1)] _) a w' hf hh
              clear hf hh
              try dsimp only at hY1
              refine T.seq ?_
              refine T.region ?_
              refine T.pure (.bool (decide (x1 < (p2.length : Int)))) (by kernel_rfl) (fun _ => by kernel_rfl) ?_
              refine T.nil ?_
              refine T.seq ?_
              refine T.cond (decide (x1 < (p2.length : Int))) (by kernel_rfl) (by kernel_rfl) (fun hc5 => ?_) (fun hc5 => ?_)
              ·
                rw [hc5, cond_true] at hY1
                refine T.skip_code ?_
                refine T.seq ?_
                refine T.block ?_
                refine T.seq ?_
                refine T.region ?_
                obtain ⟨e5, hb10, hY1⟩ := Option.bind_eq_some_iff.1 hY1
                obtain ⟨hi13, hi14, hi15⟩ := idx_some hb10
                refine T.look (.pointer (some ((sadr A3).add (x1.toNat * 2)))) (by kernel_rfl) (fun w' hh => exec_indexAddr (e := 52) (s := 2) rfl rfl rfl (by kernel_rfl) (by kernel_rfl) hi13 hi14 ((SlOk.mono hs3 (View.le_trans (View.le_trans (View.le_trans hV1 hV2) hV3) hV4)).some_ hi15 (by decide))) ?_
                refine T.look (.agg #[.int .i64 e5.page, .string e5.text]) (by kernel_rfl) (fun w' hh => exec_loadN (cs := [.int .i64 e5.page, .string e5.text]) rfl rfl (by kernel_rfl) (by kernel_rfl) (fun j u hj => (hh.cell_view (SlOk.cellF (E := eWrite) (SlOk.mono hs3 (View.le_trans (View.le_trans (View.le_trans hV1 hV2) hV3) hV4)) hi15 j (fun _ _ _ h => h) hj)))) ?_
                refine T.step (W1.new 52 [.int .i64 0, .string (ByteArray.mk #[])] (fun b => .pointer (some ⟨b, 0, none⟩)) (by kernel_rfl) (fun _ => by kernel_rfl) (fun b5 => ?_))
                refine T.step (W1.store 0 [.int .i64 e5.page, .string e5.text] [box b5 52 [.int .i64 e5.page, .string e5.text], box b4 25 [.slice A9 e4.pages.length c8, .slice A10 e4.writes.length c9], box b1 25 [.slice A1 p0.pages.length c1, .slice A2 p0.writes.length c2]] (by rfl) rfl (by kernel_rfl) (fun w' hw => exec_store (vs := [.int .i64 e5.page, .string e5.text]) rfl rfl rfl rfl (by kernel_rfl) (one_of rfl) (by simp) rfl hw) ?_)
                refine T.nil ?_
                refine T.seq ?_
                refine T.region ?_
                refine T.pure (.pointer (some ⟨b5, 0, none⟩)) (by kernel_rfl) (fun _ => by kernel_rfl) ?_
                refine T.look (.int .i64 e5.page) (by kernel_rfl) (fun w' hh => exec_load1 rfl rfl (by kernel_rfl) (hh.cellBox (i := 0) (by rfl) 0)) ?_
                refine T.pure (.int .i64 (IntKind.i64.wrap (1 + r5))) (by kernel_rfl) (fun _ => by kernel_rfl) ?_
                refine T.pure (.bool (e5.page == (IntKind.i64.wrap (1 + r5)))) (by kernel_rfl) (fun _ => by kernel_rfl) ?_
                refine T.nil ?_
                refine T.cond (e5.page == (IntKind.i64.wrap (1 + r5))) (by kernel_rfl) (by kernel_rfl) (fun hc6 => ?_) (fun hc6 => ?_)
                ·
                  rw [hc6, cond_true] at hY1
                  refine T.seq ?_
                  refine T.quiet (by kernel_rfl) (by kernel_rfl) ?_
                  refine TQ.pure (.pointer (some ⟨b4, 0, none⟩)) (by kernel_rfl) (fun _ => by kernel_rfl) ?_
                  refine TQ.look (.slice A9 e4.pages.length c8) (by kernel_rfl) (fun w' hh => exec_load1 rfl rfl (by kernel_rfl) (hh.cellBox (i := 1) (by rfl) 0)) ?_
                  refine TQ.pure (.int .i64 (IntKind.i64.wrap (1 + r5))) (by kernel_rfl) (fun _ => by kernel_rfl) ?_
                  obtain ⟨e6, hb11, hY1⟩ := Option.bind_eq_some_iff.1 hY1
                  obtain ⟨hi16, hi17, hi18⟩ := idx_some hb11
                  refine TQ.look (.pointer (some ((sadr A9).add (((IntKind.i64.wrap (1 + r5)).toNat) * 1)))) (by kernel_rfl) (fun w' hh => exec_indexAddr (e := 9) (s := 1) rfl rfl rfl (by kernel_rfl) (by kernel_rfl) hi16 hi17 ((SlOk.mono hs8 hV4).some_ hi18 (by decide))) ?_
                  refine TQ.look (.string e6) (by kernel_rfl) (fun w' hh => exec_load1 rfl rfl (by kernel_rfl) (hh.cell_view (SlOk.cellF0 (E := eStr) (SlOk.mono hs8 hV4) hi18 (fun _ _ _ h => h) rfl))) ?_
                  refine TQ.pure (.pointer (some ⟨b5, 1, none⟩)) (by kernel_rfl) (fun _ => by kernel_rfl) ?_
                  refine TQ.look (.string e5.text) (by kernel_rfl) (fun w' hh => exec_load1 rfl rfl (by kernel_rfl) (hh.cellBox (i := 0) (by rfl) 1)) ?_
                  refine TQ.pure (.bool (seq e6 e5.text)) (by kernel_rfl) (fun _ => by kernel_rfl) ?_
                  refine TQ.pure (.bool (seq e6 e5.text)) (by kernel_rfl) (fun _ => by kernel_rfl) ?_
                  refine TQ.nil ?_
                  cases hY1
                  cases (hr3 _ rfl)
                  try dsimp only at hF
                  cases hF
                  refine T.ret rfl ?_
                  exact T.ret1 rfl (ResIs.tmp rfl) fun w' hh => ⟨_, rfl, hh.below, (show _ from rfl)⟩
                ·
                  rw [hc6, cond_false] at hY1
                  refine T.skip_code ?_
                  refine T.region ?_
                  refine T.pure (.int .i64 (IntKind.i64.wrap (x1 + 1))) (by kernel_rfl) (fun _ => by kernel_rfl) ?_
                  refine T.pure (.int .i64 (IntKind.i64.wrap (x1 + 1))) (by kernel_rfl) (fun _ => by kernel_rfl) ?_
                  refine T.nil ?_
                  cases hY1
                  exact fun a w' hf hh => Exists.intro (IntKind.i64.wrap (x1 + 1)) (And.intro rfl (And.intro (((((((Fr.nil hf).pick hf 85 rfl).pick hf 84 rfl).pick hf 83 rfl).pick hf 15 rfl).pick hf 4 rfl).pick hf 3 rfl) (hh.sub (.cons _ (.cons_cons _ (.cons_cons _ List.Sublist.slnil))))))
              ·
                rw [hc5, cond_false] at hY1
                refine T.exit ?_
                cases hY1
                cases (hr3 _ rfl)
                exact fun a w' hf hh => And.intro rfl (And.intro ((((Fr.nil hf).pick hf 15 rfl).pick hf 4 rfl).pick hf 3 rfl) (hh.sub (.cons_cons _ (.cons_cons _ List.Sublist.slnil))))
          ·
            rintro a w' ⟨rfl, hf, hh⟩
            try dsimp only at hF
            refine (?_ : T 134 w V4 [box b4 25 [.slice A9 e4.pages.length c8, .slice A10 e4.writes.length c9], box b1 25 [.slice A1 p0.pages.length c1, .slice A2 p0.writes.length c2]] [(3, .int .i64 (IntKind.i64.wrap (1 + r5))), (4, .pointer (some ⟨b1, 0, none⟩)), (15, .pointer (some ⟨b4, 0, none⟩))] _) a w' hf hh
            clear hf hh
            refine T.seq ?_
            refine T.region ?_
            refine T.pure (.pointer (some ⟨b1, 0, none⟩)) (by kernel_rfl) (fun _ => by kernel_rfl) ?_
            refine T.look (.slice A1 p0.pages.length c1) (by kernel_rfl) (fun w' hh => exec_load1 rfl rfl (by kernel_rfl) (hh.cellBox (i := 1) (by rfl) 0)) ?_
            refine T.pure (.int .i64 (IntKind.i64.wrap (1 + r5))) (by kernel_rfl) (fun _ => by kernel_rfl) ?_
            obtain ⟨e7, hb12, hF⟩ := Option.bind_eq_some_iff.1 hF
            obtain ⟨hi19, hi20, hi21⟩ := idx_some hb12
            refine T.look (.pointer (some ((sadr A1).add (((IntKind.i64.wrap (1 + r5)).toNat) * 1)))) (by kernel_rfl) (fun w' hh => exec_indexAddr (e := 9) (s := 1) rfl rfl rfl (by kernel_rfl) (by kernel_rfl) hi19 hi20 ((SlOk.mono hs1 (View.le_trans (View.le_trans (View.le_trans hV1 hV2) hV3) hV4)).some_ hi21 (by decide))) ?_
            refine T.look (.string e7) (by kernel_rfl) (fun w' hh => exec_load1 rfl rfl (by kernel_rfl) (hh.cell_view (SlOk.cellF0 (E := eStr) (SlOk.mono hs1 (View.le_trans (View.le_trans (View.le_trans hV1 hV2) hV3) hV4)) hi21 (fun _ _ _ h => h) rfl))) ?_
            refine T.pure (.string e7) (by kernel_rfl) (fun _ => by kernel_rfl) ?_
            refine T.nil ?_
            refine T.seq ?_
            refine T.seq ?_
            refine T.region ?_
            refine T.pure (.pointer (some ⟨b1, 1, none⟩)) (by kernel_rfl) (fun _ => by kernel_rfl) ?_
            refine T.look (.slice A2 p0.writes.length c2) (by kernel_rfl) (fun w' hh => exec_load1 rfl rfl (by kernel_rfl) (hh.cellBox (i := 1) (by rfl) 1)) ?_
            refine T.pure (.int .i64 (p0.writes.length : Int)) (by kernel_rfl) (fun _ => by kernel_rfl) ?_
            refine T.pure (.int .i64 0) (by kernel_rfl) (fun _ => by kernel_rfl) ?_
            refine T.nil ?_
            obtain ⟨z2, hz2, hF⟩ := Option.bind_eq_some_iff.1 hF
            refine T.mid (fun a w' => Fr 134 [(3, .int .i64 (IntKind.i64.wrap (1 + r5))), (15, .pointer (some ⟨b4, 0, none⟩)), (18, .string z2)] a ∧ Hp w V4 [box b4 25 [.slice A9 e4.pages.length c8, .slice A10 e4.writes.length c9]] w') ?_ ?_
            ·
              refine T.block ?_
              refine T.iter (fun s1 a w' => ∃ (x2 : ByteArray) (x3 : Int), s1 = (x2, x3) ∧ Fr 134 [(3, .int .i64 (IntKind.i64.wrap (1 + r5))), (15, .pointer (some ⟨b4, 0, none⟩)), (18, .string x2), (108, .slice A2 p0.writes.length c2), (109, .int .i64 (p0.writes.length : Int)), (110, .int .i64 x3)] a ∧ Hp w V4 [box b4 25 [.slice A9 e4.pages.length c8, .slice A10 e4.writes.length c9]] w') hz2 ?_ ?_
              ·
                exact fun a w' hf hh => Exists.intro e7 (Exists.intro 0 (And.intro rfl (And.intro (((((((Fr.nil hf).pick hf 110 rfl).pick hf 109 rfl).pick hf 108 rfl).pick hf 18 rfl).pick hf 15 rfl).pick hf 3 rfl) (hh.sub (.cons_cons _ (.cons _ List.Sublist.slnil))))))
              ·
                rintro s1 y2 hY2 hr4 a w' ⟨x2, x3, rfl, hf, hh⟩
                refine (?_ : T 134 w V4 [box b4 25 [.slice A9 e4.pages.length c8, .slice A10 e4.writes.length c9]] [(3, .int .i64 (IntKind.i64.wrap (1 + r5))), (15, .pointer (some ⟨b4, 0, none⟩)), (18, .string x2), (108, .slice A2 p0.writes.length c2), (109, .int .i64 (p0.writes.length : Int)), (110, .int .i64 x3)] _) a w' hf hh
                clear hf hh
                try dsimp only at hY2
                refine T.seq ?_
                refine T.region ?_
                refine T.pure (.bool (decide (x3 < (p0.writes.length : Int)))) (by kernel_rfl) (fun _ => by kernel_rfl) ?_
                refine T.nil ?_
                refine T.seq ?_
                refine T.cond (decide (x3 < (p0.writes.length : Int))) (by kernel_rfl) (by kernel_rfl) (fun hc7 => ?_) (fun hc7 => ?_)
                ·
                  rw [hc7, cond_true] at hY2
                  refine T.skip_code ?_
                  obtain ⟨z3, hX2, hY2⟩ := Option.bind_eq_some_iff.1 hY2
                  refine T.cut (fun a w' => Fr 134 [(3, .int .i64 (IntKind.i64.wrap (1 + r5))), (15, .pointer (some ⟨b4, 0, none⟩)), (18, .string z3), (108, .slice A2 p0.writes.length c2), (109, .int .i64 (p0.writes.length : Int)), (110, .int .i64 x3)] a ∧ Hp w V4 [box b4 25 [.slice A9 e4.pages.length c8, .slice A10 e4.writes.length c9]] w') ?_ ?_
                  ·
                    refine T.block ?_
                    refine T.seq ?_
                    refine T.region ?_
                    obtain ⟨e8, hb13, hX2⟩ := Option.bind_eq_some_iff.1 hX2
                    obtain ⟨hi22, hi23, hi24⟩ := idx_some hb13
                    refine T.look (.pointer (some ((sadr A2).add (x3.toNat * 2)))) (by kernel_rfl) (fun w' hh => exec_indexAddr (e := 52) (s := 2) rfl rfl rfl (by kernel_rfl) (by kernel_rfl) hi22 hi23 ((SlOk.mono hs2 (View.le_trans (View.le_trans (View.le_trans hV1 hV2) hV3) hV4)).some_ hi24 (by decide))) ?_
                    refine T.look (.agg #[.int .i64 e8.page, .string e8.text]) (by kernel_rfl) (fun w' hh => exec_loadN (cs := [.int .i64 e8.page, .string e8.text]) rfl rfl (by kernel_rfl) (by kernel_rfl) (fun j u hj => (hh.cell_view (SlOk.cellF (E := eWrite) (SlOk.mono hs2 (View.le_trans (View.le_trans (View.le_trans hV1 hV2) hV3) hV4)) hi24 j (fun _ _ _ h => h) hj)))) ?_
                    refine T.step (W1.new 52 [.int .i64 0, .string (ByteArray.mk #[])] (fun b => .pointer (some ⟨b, 0, none⟩)) (by kernel_rfl) (fun _ => by kernel_rfl) (fun b6 => ?_))
                    refine T.step (W1.store 0 [.int .i64 e8.page, .string e8.text] [box b6 52 [.int .i64 e8.page, .string e8.text], box b4 25 [.slice A9 e4.pages.length c8, .slice A10 e4.writes.length c9]] (by rfl) rfl (by kernel_rfl) (fun w' hw => exec_store (vs := [.int .i64 e8.page, .string e8.text]) rfl rfl rfl rfl (by kernel_rfl) (one_of rfl) (by simp) rfl hw) ?_)
                    refine T.nil ?_
                    refine T.seq ?_
                    refine T.region ?_
                    refine T.pure (.pointer (some ⟨b6, 0, none⟩)) (by kernel_rfl) (fun _ => by kernel_rfl) ?_
                    refine T.look (.int .i64 e8.page) (by kernel_rfl) (fun w' hh => exec_load1 rfl rfl (by kernel_rfl) (hh.cellBox (i := 0) (by rfl) 0)) ?_
                    refine T.pure (.int .i64 (IntKind.i64.wrap (1 + r5))) (by kernel_rfl) (fun _ => by kernel_rfl) ?_
                    refine T.pure (.bool (e8.page == (IntKind.i64.wrap (1 + r5)))) (by kernel_rfl) (fun _ => by kernel_rfl) ?_
                    refine T.nil ?_
                    refine T.cond (e8.page == (IntKind.i64.wrap (1 + r5))) (by kernel_rfl) (by kernel_rfl) (fun hc8 => ?_) (fun hc8 => ?_)
                    ·
                      rw [hc8, cond_true] at hX2
                      refine T.region ?_
                      refine T.pure (.pointer (some ⟨b6, 1, none⟩)) (by kernel_rfl) (fun _ => by kernel_rfl) ?_
                      refine T.look (.string e8.text) (by kernel_rfl) (fun w' hh => exec_load1 rfl rfl (by kernel_rfl) (hh.cellBox (i := 0) (by rfl) 1)) ?_
                      refine T.pure (.string e8.text) (by kernel_rfl) (fun _ => by kernel_rfl) ?_
                      refine T.nil ?_
                      cases hX2
                      exact fun a w' hf hh => And.intro (((((((Fr.nil hf).pick hf 110 rfl).pick hf 109 rfl).pick hf 108 rfl).pick hf 18 rfl).pick hf 15 rfl).pick hf 3 rfl) (hh.sub (.cons _ (.cons_cons _ List.Sublist.slnil)))
                    ·
                      rw [hc8, cond_false] at hX2
                      refine T.skip_code ?_
                      cases hX2
                      exact fun a w' hf hh => And.intro (((((((Fr.nil hf).pick hf 110 rfl).pick hf 109 rfl).pick hf 108 rfl).pick hf 18 rfl).pick hf 15 rfl).pick hf 3 rfl) (hh.sub (.cons _ (.cons_cons _ List.Sublist.slnil)))
                  ·
                    rintro a w' ⟨hf, hh⟩
                    refine (?_ : T 134 w V4 [box b4 25 [.slice A9 e4.pages.length c8, .slice A10 e4.writes.length c9]] [(3, .int .i64 (IntKind.i64.wrap (1 + r5))), (15, .pointer (some ⟨b4, 0, none⟩)), (18, .string z3), (108, .slice A2 p0.writes.length c2), (109, .int .i64 (p0.writes.length : Int)), (110, .int .i64 x3)] _) a w' hf hh
                    clear hf hh
                    refine T.region ?_
                    refine T.pure (.int .i64 (IntKind.i64.wrap (x3 + 1))) (by kernel_rfl) (fun _ => by kernel_rfl) ?_
                    refine T.pure (.int .i64 (IntKind.i64.wrap (x3 + 1))) (by kernel_rfl) (fun _ => by kernel_rfl) ?_
                    refine T.nil ?_
                    cases hY2
                    exact fun a w' hf hh => Exists.intro (z3, IntKind.i64.wrap (x3 + 1)) (And.intro rfl (Exists.intro z3 (Exists.intro (IntKind.i64.wrap (x3 + 1)) (And.intro rfl (And.intro (((((((Fr.nil hf).pick hf 110 rfl).pick hf 109 rfl).pick hf 108 rfl).pick hf 18 rfl).pick hf 15 rfl).pick hf 3 rfl) (hh.sub (.cons_cons _ List.Sublist.slnil)))))))
                ·
                  rw [hc7, cond_false] at hY2
                  refine T.exit ?_
                  cases hY2
                  cases (hr4 _ rfl)
                  exact fun a w' hf hh => And.intro ((((Fr.nil hf).pick hf 18 rfl).pick hf 15 rfl).pick hf 3 rfl) (hh.sub (.cons_cons _ List.Sublist.slnil))
            ·
              rintro a w' ⟨hf, hh⟩
              refine (?_ : T 134 w V4 [box b4 25 [.slice A9 e4.pages.length c8, .slice A10 e4.writes.length c9]] [(3, .int .i64 (IntKind.i64.wrap (1 + r5))), (15, .pointer (some ⟨b4, 0, none⟩)), (18, .string z2)] _) a w' hf hh
              clear hf hh
              obtain ⟨z4, hX3, hF⟩ := Option.bind_eq_some_iff.1 hF
              refine T.cut (fun a w' => Fr 134 [(8, .bool z4)] a ∧ Hp w V4 [] w') ?_ ?_
              ·
                refine T.region ?_
                refine T.pure (.pointer (some ⟨b4, 0, none⟩)) (by kernel_rfl) (fun _ => by kernel_rfl) ?_
                refine T.look (.slice A9 e4.pages.length c8) (by kernel_rfl) (fun w' hh => exec_load1 rfl rfl (by kernel_rfl) (hh.cellBox (i := 0) (by rfl) 0)) ?_
                refine T.pure (.int .i64 (IntKind.i64.wrap (1 + r5))) (by kernel_rfl) (fun _ => by kernel_rfl) ?_
                obtain ⟨e9, hb14, hX3⟩ := Option.bind_eq_some_iff.1 hX3
                obtain ⟨hi25, hi26, hi27⟩ := idx_some hb14
                refine T.look (.pointer (some ((sadr A9).add (((IntKind.i64.wrap (1 + r5)).toNat) * 1)))) (by kernel_rfl) (fun w' hh => exec_indexAddr (e := 9) (s := 1) rfl rfl rfl (by kernel_rfl) (by kernel_rfl) hi25 hi26 ((SlOk.mono hs8 hV4).some_ hi27 (by decide))) ?_
                refine T.look (.string e9) (by kernel_rfl) (fun w' hh => exec_load1 rfl rfl (by kernel_rfl) (hh.cell_view (SlOk.cellF0 (E := eStr) (SlOk.mono hs8 hV4) hi27 (fun _ _ _ h => h) rfl))) ?_
                refine T.pure (.string z2) (by kernel_rfl) (fun _ => by kernel_rfl) ?_
                refine T.pure (.bool (seq e9 z2)) (by kernel_rfl) (fun _ => by kernel_rfl) ?_
                refine T.pure (.bool (seq e9 z2)) (by kernel_rfl) (fun _ => by kernel_rfl) ?_
                cases hg5 : (seq e9 z2)
                ·
                  skip
                  rw [hg5, cond_false] at hX3
                  refine T.pass (by kernel_rfl) (by kernel_rfl) ?_
                  refine T.pass (by kernel_rfl) (by kernel_rfl) ?_
                  refine T.pass (by kernel_rfl) (by kernel_rfl) ?_
                  refine T.pass (by kernel_rfl) (by kernel_rfl) ?_
                  refine T.pure (.bool false) (by kernel_rfl) (fun _ => by kernel_rfl) ?_
                  refine T.pure (.bool false) (by kernel_rfl) (fun _ => by kernel_rfl) ?_
                  refine T.nil ?_
                  cases hX3
                  exact fun a w' hf hh => And.intro ((Fr.nil hf).pick hf 8 rfl) (hh.sub (.cons _ List.Sublist.slnil))
                ·
                  skip
                  rw [hg5, cond_true] at hX3
                  refine T.pure (.pointer (some ⟨b4, 1, none⟩)) (by kernel_rfl) (fun _ => by kernel_rfl) ?_
                  refine T.look (.slice A10 e4.writes.length c9) (by kernel_rfl) (fun w' hh => exec_load1 rfl rfl (by kernel_rfl) (hh.cellBox (i := 0) (by rfl) 1)) ?_
                  refine T.pure (.int .i64 (e4.writes.length : Int)) (by kernel_rfl) (fun _ => by kernel_rfl) ?_
                  refine T.pure (.bool ((e4.writes.length : Int) == 0)) (by kernel_rfl) (fun _ => by kernel_rfl) ?_
                  refine T.pure (.bool ((e4.writes.length : Int) == 0)) (by kernel_rfl) (fun _ => by kernel_rfl) ?_
                  refine T.pure (.bool ((e4.writes.length : Int) == 0)) (by kernel_rfl) (fun _ => by kernel_rfl) ?_
                  refine T.nil ?_
                  cases hX3
                  exact fun a w' hf hh => And.intro ((Fr.nil hf).pick hf 8 rfl) (hh.sub (.cons _ List.Sublist.slnil))
              ·
                rintro a w' ⟨hf, hh⟩
                refine (?_ : T 134 w V4 [] [(8, .bool z4)] _) a w' hf hh
                clear hf hh
                cases hF
                refine T.ret rfl ?_
                exact T.ret1 rfl (ResIs.tmp rfl) fun w' hh => ⟨_, rfl, hh.below, (show _ from rfl)⟩

end Go.Proofs.Ytomgholekojenaa
