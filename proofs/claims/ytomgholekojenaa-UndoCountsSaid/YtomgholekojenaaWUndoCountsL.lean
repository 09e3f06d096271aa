/- The Go functions of group WUndoCounts compute the pure functions of that group: written by walkgen.py. Condition of each: the pure function yields a result. -/
import Derived.Test.YtomgholekojenaaStepL
import Derived.Test.YtomgholekojenaaWUndoCountsF
import Derived.Test.YtomgholekojenaaEqL
namespace Go.Proofs.Ytomgholekojenaa
set_option linter.unusedVariables false

set_option maxRecDepth 100000 in
set_option maxHeartbeats 4000000 in
theorem annalkeep_UndoCounts_l (F : Nat) (p0 : DDisk) (p1 : ByteArray) (p2 : (List DWrite)) (r : Bool) (hF : annalkeep_UndoCounts F p0 p1 p2 = some r) (w : World) (A1 : Option Addr) (c1 : Nat) (hs1 : SlOk (vw w) eStr A1 c1 p0.pages) (A2 : Option Addr) (c2 : Nat) (hs2 : SlOk (vw w) eWrite A2 c2 p0.writes) (A3 : Option Addr) (c3 : Nat) (hs3 : SlOk (vw w) eWrite A3 c3 p2) :
    Calls Try.prog 6 #[.agg #[.slice A1 p0.pages.length c1, .slice A2 p0.writes.length c2], .string p1, .slice A3 p2.length c3] w (Post (vSc eBool) r w) := by
  unfold annalkeep_UndoCounts at hF
  refine T.start (l := [.agg #[.slice A1 p0.pages.length c1, .slice A2 p0.writes.length c2], .string p1, .slice A3 p2.length c3]) Try.func6 rfl rfl rfl ?_
  refine T.seq ?_
  refine T.region ?_
  refine T.step (W1.new 25 [.slice A1 p0.pages.length c1, .slice A2 p0.writes.length c2] (fun b => .pointer (some ⟨b, 0, none⟩)) (by kernel_rfl) (fun _ => by kernel_rfl) (fun b1 => ?_))
  refine T.pure (.bool false) (by kernel_rfl) (fun _ => by kernel_rfl) ?_
  refine T.nil ?_
  refine T.seq ?_
  refine T.region ?_
  obtain ⟨r1, hb1, hF⟩ := Option.bind_eq_some_iff.1 hF
  refine T.step (W1.call (vT2 (vSc eStr) (vSc eInt)) r1 17 #[.int .i64 3, .string (ByteArray.mk #[97, 98])] (by kernel_rfl) (fun _ => by kernel_rfl) (fun w' hh => undo_Head_l F 3 (ByteArray.mk #[97, 98]) r1 hb1 w' ) ?_)
  intro u V1 hV1 hu
  obtain rfl := (Sure.t2 sureStr sureInt) _ _ _ hu
  refine T.pure (.tuple #[.string r1.1, .int .i64 r1.2]) (by kernel_rfl) (fun _ => by kernel_rfl) ?_
  refine T.pure (.string r1.1) (by kernel_rfl) (fun _ => by kernel_rfl) ?_
  refine T.pure (.int .i64 r1.2) (by kernel_rfl) (fun _ => by kernel_rfl) ?_
  refine T.pure (.string r1.1) (by kernel_rfl) (fun _ => by kernel_rfl) ?_
  refine T.pure (.int .i64 r1.2) (by kernel_rfl) (fun _ => by kernel_rfl) ?_
  refine T.nil ?_
  refine T.seq ?_
  refine T.region ?_
  obtain ⟨u1, hb2, hF⟩ := Option.bind_eq_some_iff.1 hF
  obtain ⟨ti, hti, hz1, hz2, hz3⟩ := info_parts (P := Try.prog) (e := 9) (z := .string (ByteArray.mk #[])) (size := 1) (bytes := 16) (by kernel_rfl)
  obtain ⟨hb2_n, hb2_r, hb2_m⟩ := makes_some hb2
  refine T.step (W1.make (E := eStr) ((201 : Int).toNat) ((ByteArray.mk #[]) : ByteArray) _ _ .i64 .i64 16 ti _ (by kernel_rfl) rfl (by kernel_rfl) hti hz1 hz2 hz3 (congrArg (Value.int _) hb2_n.symm) (congrArg (Value.int _) hb2_n.symm) (fun _ => rfl) rfl hb2_r hb2_m (fun A4 => ?_))
  refine T.pure (.agg #[.slice A4 ((List.replicate ((201 : Int).toNat) ((ByteArray.mk #[]) : ByteArray)).length) ((201 : Int).toNat), .slice none 0 0]) (by kernel_rfl) (fun _ => by kernel_rfl) ?_
  refine T.step (W1.new 25 [.slice none 0 0, .slice none 0 0] (fun b => .pointer (some ⟨b, 0, none⟩)) (by kernel_rfl) (fun _ => by kernel_rfl) (fun b2 => ?_))
  refine T.step (W1.store 0 [.slice A4 ((List.replicate ((201 : Int).toNat) ((ByteArray.mk #[]) : ByteArray)).length) ((201 : Int).toNat), .slice none 0 0] [box b2 25 [.slice A4 ((List.replicate ((201 : Int).toNat) ((ByteArray.mk #[]) : ByteArray)).length) ((201 : Int).toNat), .slice none 0 0], row 9 eStr A4 ((201 : Int).toNat) (List.replicate ((201 : Int).toNat) ((ByteArray.mk #[]) : ByteArray)), box b1 25 [.slice A1 p0.pages.length c1, .slice A2 p0.writes.length c2]] (by rfl) rfl (by kernel_rfl) (fun w' hw => exec_store (vs := [.slice A4 ((List.replicate ((201 : Int).toNat) ((ByteArray.mk #[]) : ByteArray)).length) ((201 : Int).toNat), .slice none 0 0]) rfl rfl rfl rfl (by kernel_rfl) (one_of rfl) (by simp) rfl hw) ?_)
  refine T.nil ?_
  refine T.seq ?_
  refine T.region ?_
  refine T.pure (.pointer (some ⟨b2, 0, none⟩)) (by kernel_rfl) (fun _ => by kernel_rfl) ?_
  refine T.look (.slice A4 ((List.replicate ((201 : Int).toNat) ((ByteArray.mk #[]) : ByteArray)).length) ((201 : Int).toNat)) (by kernel_rfl) (fun w' hh => exec_load1 rfl rfl (by kernel_rfl) (hh.cellBox (i := 0) (by rfl) 0)) ?_
  refine T.pure (.string r1.1) (by kernel_rfl) (fun _ => by kernel_rfl) ?_
  obtain ⟨e1, hb3, hF⟩ := Option.bind_eq_some_iff.1 hF
  obtain ⟨hi1, hi2, hi3⟩ := idx_some hb3
  refine T.look (.pointer (some ((sadr A4).add (((0 : Int).toNat) * 1)))) (by kernel_rfl) (fun w' hh => exec_indexAddr (e := 9) (s := 1) rfl rfl rfl (by kernel_rfl) (by kernel_rfl) hi1 hi2 ((hh.row_slOk (i := 1) (by rfl)).some_ hi3 (by decide))) ?_
  refine T.step (W1.storeRow (E := eStr) 1 ((0 : Int).toNat) 0 e1 r1.1 _ (vs := [.string r1.1]) (by rfl) (by kernel_rfl) rfl rfl (addr_add0 _).symm rfl rfl (fun _ => by kernel_rfl) (one_of rfl) hi3 (Nat.le_of_ble_eq_true (by kernel_rfl)) (fun _ _ h => by cases h; rfl) ?_)
  refine T.reslot 28 (.slice A4 (((List.replicate ((201 : Int).toNat) ((ByteArray.mk #[]) : ByteArray)).set ((0 : Int).toNat) r1.1).length) ((201 : Int).toNat)) rfl (by simp only [List.length_set]) ?_
  refine T.reslot 29 (.agg #[.slice A4 (((List.replicate ((201 : Int).toNat) ((ByteArray.mk #[]) : ByteArray)).set ((0 : Int).toNat) r1.1).length) ((201 : Int).toNat), .slice none 0 0]) rfl (by simp only [List.length_set]) ?_
  refine T.reslot 31 (.slice A4 (((List.replicate ((201 : Int).toNat) ((ByteArray.mk #[]) : ByteArray)).set ((0 : Int).toNat) r1.1).length) ((201 : Int).toNat)) rfl (by simp only [List.length_set]) ?_
  refine T.reH (H' := [box b2 25 [.slice A4 (((List.replicate ((201 : Int).toNat) ((ByteArray.mk #[]) : ByteArray)).set ((0 : Int).toNat) r1.1).length) ((201 : Int).toNat), .slice none 0 0], row 9 eStr A4 ((201 : Int).toNat) ((List.replicate ((201 : Int).toNat) ((ByteArray.mk #[]) : ByteArray)).set ((0 : Int).toNat) r1.1), box b1 25 [.slice A1 p0.pages.length c1, .slice A2 p0.writes.length c2]]) (by first | (simp only [List.length_set]; done) | (simp only [List.length_set]; rfl)) ?_
  refine T.nil ?_
  refine T.seq ?_
  refine T.seq ?_
  refine T.region ?_
  refine T.look (.agg #[.slice A4 (((List.replicate ((201 : Int).toNat) ((ByteArray.mk #[]) : ByteArray)).set ((0 : Int).toNat) r1.1).length) ((201 : Int).toNat), .slice none 0 0]) (by kernel_rfl) (fun w' hh => exec_loadN (cs := [.slice A4 (((List.replicate ((201 : Int).toNat) ((ByteArray.mk #[]) : ByteArray)).set ((0 : Int).toNat) r1.1).length) ((201 : Int).toNat), .slice none 0 0]) rfl rfl (by kernel_rfl) (by kernel_rfl) (fun j u hj => (hh.box_at (i := 0) (cs := [.slice A4 (((List.replicate ((201 : Int).toNat) ((ByteArray.mk #[]) : ByteArray)).set ((0 : Int).toNat) r1.1).length) ((201 : Int).toNat), .slice none 0 0]) (by rfl) 0 j).trans (seg_at (n := 2) (by rfl) hj))) ?_
  obtain ⟨r3, hb4, hF⟩ := Option.bind_eq_some_iff.1 hF
  refine T.step (W1.call (vT3 (vSc eInt) (vSc eStr) (vSc eInt)) r3 19 #[.agg #[.slice A4 (((List.replicate ((201 : Int).toNat) ((ByteArray.mk #[]) : ByteArray)).set ((0 : Int).toNat) r1.1).length) ((201 : Int).toNat), .slice none 0 0]] (by kernel_rfl) (fun _ => by kernel_rfl) (fun w' hh => undo_Seq_l F (DDisk.mk ((List.replicate ((201 : Int).toNat) ((ByteArray.mk #[]) : ByteArray)).set ((0 : Int).toNat) r1.1) []) r3 hb4 w' A4 ((201 : Int).toNat) (hh.row_slOk (i := 1) (by rfl)) none 0 (SlOk.nil _ _)) ?_)
  intro u V2 hV2 hu
  obtain rfl := (Sure.t3 sureInt sureStr sureInt) _ _ _ hu
  refine T.pure (.tuple #[.int .i64 r3.1, .string r3.2.1, .int .i64 r3.2.2]) (by kernel_rfl) (fun _ => by kernel_rfl) ?_
  refine T.pure (.int .i64 r3.1) (by kernel_rfl) (fun _ => by kernel_rfl) ?_
  refine T.pure (.string r3.2.1) (by kernel_rfl) (fun _ => by kernel_rfl) ?_
  refine T.pure (.int .i64 r3.2.2) (by kernel_rfl) (fun _ => by kernel_rfl) ?_
  refine T.pure (.int .i64 r3.1) (by kernel_rfl) (fun _ => by kernel_rfl) ?_
  refine T.pure (.string r3.2.1) (by kernel_rfl) (fun _ => by kernel_rfl) ?_
  refine T.pure (.int .i64 r3.2.2) (by kernel_rfl) (fun _ => by kernel_rfl) ?_
  refine T.nil ?_
  refine T.cut (fun a w' => Fr 175 [(1, .string p1), (2, .slice A3 p2.length c3), (3, .pointer (some ⟨b1, 0, none⟩)), (53, .bool ((r1.2 != 0) || ((r3.2.2 != 0) || ((r3.1 != 3) || (!(seq r3.2.1 (ByteArray.mk #[97, 98])))))))] a ∧ Hp w V2 [box b1 25 [.slice A1 p0.pages.length c1, .slice A2 p0.writes.length c2]] w') ?_ ?_
  ·
    refine T.region ?_
    refine T.pure (.int .i64 r1.2) (by kernel_rfl) (fun _ => by kernel_rfl) ?_
    refine T.pure (.bool (r1.2 != 0)) (by kernel_rfl) (fun _ => by kernel_rfl) ?_
    refine T.pure (.bool (r1.2 != 0)) (by kernel_rfl) (fun _ => by kernel_rfl) ?_
    cases hg1 : (r1.2 != 0)
    ·
      skip
      refine T.pure (.int .i64 r3.2.2) (by kernel_rfl) (fun _ => by kernel_rfl) ?_
      refine T.pure (.bool (r3.2.2 != 0)) (by kernel_rfl) (fun _ => by kernel_rfl) ?_
      refine T.pure (.bool (r3.2.2 != 0)) (by kernel_rfl) (fun _ => by kernel_rfl) ?_
      refine T.pure (.bool (r3.2.2 != 0)) (by kernel_rfl) (fun _ => by kernel_rfl) ?_
      cases hg2 : (r3.2.2 != 0)
      ·
        skip
        refine T.pure (.int .i64 r3.1) (by kernel_rfl) (fun _ => by kernel_rfl) ?_
        refine T.pure (.bool (r3.1 != 3)) (by kernel_rfl) (fun _ => by kernel_rfl) ?_
        refine T.pure (.bool (r3.1 != 3)) (by kernel_rfl) (fun _ => by kernel_rfl) ?_
        refine T.pure (.bool (r3.1 != 3)) (by kernel_rfl) (fun _ => by kernel_rfl) ?_
        cases hg3 : (r3.1 != 3)
        ·
          skip
          refine T.pure (.string r3.2.1) (by kernel_rfl) (fun _ => by kernel_rfl) ?_
          refine T.pure (.bool (!(seq r3.2.1 (ByteArray.mk #[97, 98])))) (by kernel_rfl) (fun _ => by kernel_rfl) ?_
          refine T.pure (.bool (!(seq r3.2.1 (ByteArray.mk #[97, 98])))) (by kernel_rfl) (fun _ => by kernel_rfl) ?_
          refine T.nil ?_
          exact fun a w' hf hh => And.intro (((((Fr.nil hf).pick hf 53 rfl).pick hf 3 rfl).pick hf 2 rfl).pick hf 1 rfl) (hh.sub (.cons _ (.cons _ (.cons_cons _ List.Sublist.slnil))))
        ·
          skip
          refine T.pass (by kernel_rfl) (by kernel_rfl) ?_
          refine T.pass (by kernel_rfl) (by kernel_rfl) ?_
          refine T.pure (.bool true) (by kernel_rfl) (fun _ => by kernel_rfl) ?_
          refine T.nil ?_
          exact fun a w' hf hh => And.intro (((((Fr.nil hf).pick hf 53 rfl).pick hf 3 rfl).pick hf 2 rfl).pick hf 1 rfl) (hh.sub (.cons _ (.cons _ (.cons_cons _ List.Sublist.slnil))))
      ·
        skip
        refine T.pass (by kernel_rfl) (by kernel_rfl) ?_
        refine T.pass (by kernel_rfl) (by kernel_rfl) ?_
        refine T.pure (.bool true) (by kernel_rfl) (fun _ => by kernel_rfl) ?_
        refine T.pure (.bool true) (by kernel_rfl) (fun _ => by kernel_rfl) ?_
        refine T.pass (by kernel_rfl) (by kernel_rfl) ?_
        refine T.pass (by kernel_rfl) (by kernel_rfl) ?_
        refine T.pure (.bool true) (by kernel_rfl) (fun _ => by kernel_rfl) ?_
        refine T.nil ?_
        exact fun a w' hf hh => And.intro (((((Fr.nil hf).pick hf 53 rfl).pick hf 3 rfl).pick hf 2 rfl).pick hf 1 rfl) (hh.sub (.cons _ (.cons _ (.cons_cons _ List.Sublist.slnil))))
    ·
      skip
      refine T.pass (by kernel_rfl) (by kernel_rfl) ?_
      refine T.pass (by kernel_rfl) (by kernel_rfl) ?_
      refine T.pure (.bool true) (by kernel_rfl) (fun _ => by kernel_rfl) ?_
      refine T.pure (.bool true) (by kernel_rfl) (fun _ => by kernel_rfl) ?_
      refine T.pass (by kernel_rfl) (by kernel_rfl) ?_
      refine T.pass (by kernel_rfl) (by kernel_rfl) ?_
      refine T.pure (.bool true) (by kernel_rfl) (fun _ => by kernel_rfl) ?_
      refine T.pure (.bool true) (by kernel_rfl) (fun _ => by kernel_rfl) ?_
      refine T.pass (by kernel_rfl) (by kernel_rfl) ?_
      refine T.pass (by kernel_rfl) (by kernel_rfl) ?_
      refine T.pure (.bool true) (by kernel_rfl) (fun _ => by kernel_rfl) ?_
      refine T.nil ?_
      exact fun a w' hf hh => And.intro (((((Fr.nil hf).pick hf 53 rfl).pick hf 3 rfl).pick hf 2 rfl).pick hf 1 rfl) (hh.sub (.cons _ (.cons _ (.cons_cons _ List.Sublist.slnil))))
  ·
    rintro a w' ⟨hf, hh⟩
    refine (?_ : T 175 w V2 [box b1 25 [.slice A1 p0.pages.length c1, .slice A2 p0.writes.length c2]] [(1, .string p1), (2, .slice A3 p2.length c3), (3, .pointer (some ⟨b1, 0, none⟩)), (53, .bool ((r1.2 != 0) || ((r3.2.2 != 0) || ((r3.1 != 3) || (!(seq r3.2.1 (ByteArray.mk #[97, 98])))))))] _) a w' hf hh
    clear hf hh
    refine T.cond ((r1.2 != 0) || ((r3.2.2 != 0) || ((r3.1 != 3) || (!(seq r3.2.1 (ByteArray.mk #[97, 98])))))) (by kernel_rfl) (by kernel_rfl) (fun hc1 => ?_) (fun hc1 => ?_)
    ·
      rw [hc1, cond_true] at hF
      refine T.seq ?_
      refine T.region ?_
      refine T.pure (.bool false) (by kernel_rfl) (fun _ => by kernel_rfl) ?_
      refine T.nil ?_
      cases hF
      refine T.ret rfl ?_
      exact T.ret1 rfl (ResIs.tmp rfl) fun w' hh => ⟨_, rfl, hh.below, (show _ from rfl)⟩
    ·
      rw [hc1, cond_false] at hF
      refine T.skip_code ?_
      refine T.seq ?_
      refine T.region ?_
      refine T.look (.agg #[.slice A1 p0.pages.length c1, .slice A2 p0.writes.length c2]) (by kernel_rfl) (fun w' hh => exec_loadN (cs := [.slice A1 p0.pages.length c1, .slice A2 p0.writes.length c2]) rfl rfl (by kernel_rfl) (by kernel_rfl) (fun j u hj => (hh.box_at (i := 0) (cs := [.slice A1 p0.pages.length c1, .slice A2 p0.writes.length c2]) (by rfl) 0 j).trans (seg_at (n := 2) (by rfl) hj))) ?_
      obtain ⟨r4, hb5, hF⟩ := Option.bind_eq_some_iff.1 hF
      refine T.step (W1.call (vT3 (vSc eInt) (vSc eStr) (vSc eInt)) r4 19 #[.agg #[.slice A1 p0.pages.length c1, .slice A2 p0.writes.length c2]] (by kernel_rfl) (fun _ => by kernel_rfl) (fun w' hh => undo_Seq_l F p0 r4 hb5 w' A1 c1 (SlOk.mono (SlOk.mono hs1 (View.le_trans hV1 hV2)) hh.view) A2 c2 (SlOk.mono (SlOk.mono hs2 (View.le_trans hV1 hV2)) hh.view)) ?_)
      intro u V3 hV3 hu
      obtain rfl := (Sure.t3 sureInt sureStr sureInt) _ _ _ hu
      refine T.pure (.tuple #[.int .i64 r4.1, .string r4.2.1, .int .i64 r4.2.2]) (by kernel_rfl) (fun _ => by kernel_rfl) ?_
      refine T.pure (.int .i64 r4.1) (by kernel_rfl) (fun _ => by kernel_rfl) ?_
      refine T.pure (.string r4.2.1) (by kernel_rfl) (fun _ => by kernel_rfl) ?_
      refine T.pure (.int .i64 r4.2.2) (by kernel_rfl) (fun _ => by kernel_rfl) ?_
      refine T.pure (.int .i64 r4.1) (by kernel_rfl) (fun _ => by kernel_rfl) ?_
      refine T.pure (.string r4.2.1) (by kernel_rfl) (fun _ => by kernel_rfl) ?_
      refine T.pure (.int .i64 r4.2.2) (by kernel_rfl) (fun _ => by kernel_rfl) ?_
      refine T.nil ?_
      refine T.seq ?_
      refine T.region ?_
      refine T.look (.agg #[.slice A1 p0.pages.length c1, .slice A2 p0.writes.length c2]) (by kernel_rfl) (fun w' hh => exec_loadN (cs := [.slice A1 p0.pages.length c1, .slice A2 p0.writes.length c2]) rfl rfl (by kernel_rfl) (by kernel_rfl) (fun j u hj => (hh.box_at (i := 0) (cs := [.slice A1 p0.pages.length c1, .slice A2 p0.writes.length c2]) (by rfl) 0 j).trans (seg_at (n := 2) (by rfl) hj))) ?_
      refine T.pure (.string p1) (by kernel_rfl) (fun _ => by kernel_rfl) ?_
      refine T.pure (.slice A3 p2.length c3) (by kernel_rfl) (fun _ => by kernel_rfl) ?_
      obtain ⟨r5, hb6, hF⟩ := Option.bind_eq_some_iff.1 hF
      refine T.step (W1.call (vT2 (vSc (eList eDisk)) (vSc eInt)) r5 18 #[.agg #[.slice A1 p0.pages.length c1, .slice A2 p0.writes.length c2], .string p1, .slice A3 p2.length c3] (by kernel_rfl) (fun _ => by kernel_rfl) (fun w' hh => undo_Steps_l F p0 p1 p2 r5 hb6 w' A1 c1 (SlOk.mono (SlOk.mono hs1 (View.le_trans (View.le_trans hV1 hV2) hV3)) hh.view) A2 c2 (SlOk.mono (SlOk.mono hs2 (View.le_trans (View.le_trans hV1 hV2) hV3)) hh.view) A3 c3 (SlOk.mono (SlOk.mono hs3 (View.le_trans (View.le_trans hV1 hV2) hV3)) hh.view)) ?_)
      intro u V4 hV4 hu
      obtain ⟨u2, u3, rfl, hu1, hu2⟩ := vT2_elim hu
      obtain ⟨A5, c4, rfl, hs4⟩ := vlist_elim hu1
      obtain rfl := sureInt _ _ _ hu2
      refine T.pure (.tuple #[.slice A5 r5.1.length c4, .int .i64 r5.2]) (by kernel_rfl) (fun _ => by kernel_rfl) ?_
      refine T.pure (.slice A5 r5.1.length c4) (by kernel_rfl) (fun _ => by kernel_rfl) ?_
      refine T.pure (.int .i64 r5.2) (by kernel_rfl) (fun _ => by kernel_rfl) ?_
      refine T.pure (.slice A5 r5.1.length c4) (by kernel_rfl) (fun _ => by kernel_rfl) ?_
      refine T.pure (.int .i64 r5.2) (by kernel_rfl) (fun _ => by kernel_rfl) ?_
      refine T.nil ?_
      refine T.seq ?_
      refine T.region ?_
      refine T.look (.agg #[.slice A1 p0.pages.length c1, .slice A2 p0.writes.length c2]) (by kernel_rfl) (fun w' hh => exec_loadN (cs := [.slice A1 p0.pages.length c1, .slice A2 p0.writes.length c2]) rfl rfl (by kernel_rfl) (by kernel_rfl) (fun j u hj => (hh.box_at (i := 0) (cs := [.slice A1 p0.pages.length c1, .slice A2 p0.writes.length c2]) (by rfl) 0 j).trans (seg_at (n := 2) (by rfl) hj))) ?_
      refine T.pure (.string p1) (by kernel_rfl) (fun _ => by kernel_rfl) ?_
      obtain ⟨r6, hb7, hF⟩ := Option.bind_eq_some_iff.1 hF
      refine T.step (W1.call (vT2 (vSc (eList eDisk)) (vSc eInt)) r6 18 #[.agg #[.slice A1 p0.pages.length c1, .slice A2 p0.writes.length c2], .string p1, .slice none 0 0] (by kernel_rfl) (fun _ => by kernel_rfl) (fun w' hh => undo_Steps_l F p0 p1 ([] : List DWrite) r6 hb7 w' A1 c1 (SlOk.mono (SlOk.mono hs1 (View.le_trans (View.le_trans (View.le_trans hV1 hV2) hV3) hV4)) hh.view) A2 c2 (SlOk.mono (SlOk.mono hs2 (View.le_trans (View.le_trans (View.le_trans hV1 hV2) hV3) hV4)) hh.view) none 0 (SlOk.nil _ _)) ?_)
      intro u V5 hV5 hu
      obtain ⟨u4, u5, rfl, hu3, hu4⟩ := vT2_elim hu
      obtain ⟨A6, c5, rfl, hs5⟩ := vlist_elim hu3
      obtain rfl := sureInt _ _ _ hu4
      refine T.pure (.tuple #[.slice A6 r6.1.length c5, .int .i64 r6.2]) (by kernel_rfl) (fun _ => by kernel_rfl) ?_
      refine T.pure (.slice A6 r6.1.length c5) (by kernel_rfl) (fun _ => by kernel_rfl) ?_
      refine T.pure (.int .i64 r6.2) (by kernel_rfl) (fun _ => by kernel_rfl) ?_
      refine T.pure (.slice A6 r6.1.length c5) (by kernel_rfl) (fun _ => by kernel_rfl) ?_
      refine T.pure (.int .i64 r6.2) (by kernel_rfl) (fun _ => by kernel_rfl) ?_
      refine T.nil ?_
      refine T.seq ?_
      refine T.cut (fun a w' => Fr 175 [(1, .string p1), (3, .pointer (some ⟨b1, 0, none⟩)), (8, .int .i64 r4.2.2), (13, .int .i64 r4.1), (15, .slice A5 r5.1.length c4), (16, .int .i64 r5.2), (17, .slice A6 r6.1.length c5), (18, .int .i64 r6.2), (92, .bool ((r4.2.2 != 0) || ((r5.2 != 0) || ((r6.2 != 0) || (((r5.1.length : Int) == 0) || ((r6.1.length : Int) == 0))))))] a ∧ Hp w V5 [box b1 25 [.slice A1 p0.pages.length c1, .slice A2 p0.writes.length c2]] w') ?_ ?_
      ·
        refine T.region ?_
        refine T.pure (.int .i64 r4.2.2) (by kernel_rfl) (fun _ => by kernel_rfl) ?_
        refine T.pure (.bool (r4.2.2 != 0)) (by kernel_rfl) (fun _ => by kernel_rfl) ?_
        refine T.pure (.bool (r4.2.2 != 0)) (by kernel_rfl) (fun _ => by kernel_rfl) ?_
        cases hg4 : (r4.2.2 != 0)
        ·
          skip
          refine T.pure (.int .i64 r5.2) (by kernel_rfl) (fun _ => by kernel_rfl) ?_
          refine T.pure (.bool (r5.2 != 0)) (by kernel_rfl) (fun _ => by kernel_rfl) ?_
          refine T.pure (.bool (r5.2 != 0)) (by kernel_rfl) (fun _ => by kernel_rfl) ?_
          refine T.pure (.bool (r5.2 != 0)) (by kernel_rfl) (fun _ => by kernel_rfl) ?_
          cases hg5 : (r5.2 != 0)
          ·
            skip
            refine T.pure (.int .i64 r6.2) (by kernel_rfl) (fun _ => by kernel_rfl) ?_
            refine T.pure (.bool (r6.2 != 0)) (by kernel_rfl) (fun _ => by kernel_rfl) ?_
            refine T.pure (.bool (r6.2 != 0)) (by kernel_rfl) (fun _ => by kernel_rfl) ?_
            refine T.pure (.bool (r6.2 != 0)) (by kernel_rfl) (fun _ => by kernel_rfl) ?_
            cases hg6 : (r6.2 != 0)
            ·
              skip
              refine T.pure (.slice A5 r5.1.length c4) (by kernel_rfl) (fun _ => by kernel_rfl) ?_
              refine T.pure (.int .i64 (r5.1.length : Int)) (by kernel_rfl) (fun _ => by kernel_rfl) ?_
              refine T.pure (.bool ((r5.1.length : Int) == 0)) (by kernel_rfl) (fun _ => by kernel_rfl) ?_
              refine T.pure (.bool ((r5.1.length : Int) == 0)) (by kernel_rfl) (fun _ => by kernel_rfl) ?_
              refine T.pure (.bool ((r5.1.length : Int) == 0)) (by kernel_rfl) (fun _ => by kernel_rfl) ?_
              cases hg7 : ((r5.1.length : Int) == 0)
              ·
                skip
                refine T.pure (.slice A6 r6.1.length c5) (by kernel_rfl) (fun _ => by kernel_rfl) ?_
                refine T.pure (.int .i64 (r6.1.length : Int)) (by kernel_rfl) (fun _ => by kernel_rfl) ?_
                refine T.pure (.bool ((r6.1.length : Int) == 0)) (by kernel_rfl) (fun _ => by kernel_rfl) ?_
                refine T.pure (.bool ((r6.1.length : Int) == 0)) (by kernel_rfl) (fun _ => by kernel_rfl) ?_
                refine T.nil ?_
                exact fun a w' hf hh => And.intro ((((((((((Fr.nil hf).pick hf 92 rfl).pick hf 18 rfl).pick hf 17 rfl).pick hf 16 rfl).pick hf 15 rfl).pick hf 13 rfl).pick hf 8 rfl).pick hf 3 rfl).pick hf 1 rfl) (hh.sub (.cons_cons _ List.Sublist.slnil))
              ·
                skip
                refine T.pass (by kernel_rfl) (by kernel_rfl) ?_
                refine T.pass (by kernel_rfl) (by kernel_rfl) ?_
                refine T.pass (by kernel_rfl) (by kernel_rfl) ?_
                refine T.pure (.bool true) (by kernel_rfl) (fun _ => by kernel_rfl) ?_
                refine T.nil ?_
                exact fun a w' hf hh => And.intro ((((((((((Fr.nil hf).pick hf 92 rfl).pick hf 18 rfl).pick hf 17 rfl).pick hf 16 rfl).pick hf 15 rfl).pick hf 13 rfl).pick hf 8 rfl).pick hf 3 rfl).pick hf 1 rfl) (hh.sub (.cons_cons _ List.Sublist.slnil))
            ·
              skip
              refine T.pass (by kernel_rfl) (by kernel_rfl) ?_
              refine T.pass (by kernel_rfl) (by kernel_rfl) ?_
              refine T.pass (by kernel_rfl) (by kernel_rfl) ?_
              refine T.pure (.bool true) (by kernel_rfl) (fun _ => by kernel_rfl) ?_
              refine T.pure (.bool true) (by kernel_rfl) (fun _ => by kernel_rfl) ?_
              refine T.pass (by kernel_rfl) (by kernel_rfl) ?_
              refine T.pass (by kernel_rfl) (by kernel_rfl) ?_
              refine T.pass (by kernel_rfl) (by kernel_rfl) ?_
              refine T.pure (.bool true) (by kernel_rfl) (fun _ => by kernel_rfl) ?_
              refine T.nil ?_
              exact fun a w' hf hh => And.intro ((((((((((Fr.nil hf).pick hf 92 rfl).pick hf 18 rfl).pick hf 17 rfl).pick hf 16 rfl).pick hf 15 rfl).pick hf 13 rfl).pick hf 8 rfl).pick hf 3 rfl).pick hf 1 rfl) (hh.sub (.cons_cons _ List.Sublist.slnil))
          ·
            skip
            refine T.pass (by kernel_rfl) (by kernel_rfl) ?_
            refine T.pass (by kernel_rfl) (by kernel_rfl) ?_
            refine T.pure (.bool true) (by kernel_rfl) (fun _ => by kernel_rfl) ?_
            refine T.pure (.bool true) (by kernel_rfl) (fun _ => by kernel_rfl) ?_
            refine T.pass (by kernel_rfl) (by kernel_rfl) ?_
            refine T.pass (by kernel_rfl) (by kernel_rfl) ?_
            refine T.pass (by kernel_rfl) (by kernel_rfl) ?_
            refine T.pure (.bool true) (by kernel_rfl) (fun _ => by kernel_rfl) ?_
            refine T.pure (.bool true) (by kernel_rfl) (fun _ => by kernel_rfl) ?_
            refine T.pass (by kernel_rfl) (by kernel_rfl) ?_
            refine T.pass (by kernel_rfl) (by kernel_rfl) ?_
            refine T.pass (by kernel_rfl) (by kernel_rfl) ?_
            refine T.pure (.bool true) (by kernel_rfl) (fun _ => by kernel_rfl) ?_
            refine T.nil ?_
            exact fun a w' hf hh => And.intro ((((((((((Fr.nil hf).pick hf 92 rfl).pick hf 18 rfl).pick hf 17 rfl).pick hf 16 rfl).pick hf 15 rfl).pick hf 13 rfl).pick hf 8 rfl).pick hf 3 rfl).pick hf 1 rfl) (hh.sub (.cons_cons _ List.Sublist.slnil))
        ·
          skip
          refine T.pass (by kernel_rfl) (by kernel_rfl) ?_
          refine T.pass (by kernel_rfl) (by kernel_rfl) ?_
          refine T.pure (.bool true) (by kernel_rfl) (fun _ => by kernel_rfl) ?_
          refine T.pure (.bool true) (by kernel_rfl) (fun _ => by kernel_rfl) ?_
          refine T.pass (by kernel_rfl) (by kernel_rfl) ?_
          refine T.pass (by kernel_rfl) (by kernel_rfl) ?_
          refine T.pure (.bool true) (by kernel_rfl) (fun _ => by kernel_rfl) ?_
          refine T.pure (.bool true) (by kernel_rfl) (fun _ => by kernel_rfl) ?_
          refine T.pass (by kernel_rfl) (by kernel_rfl) ?_
          refine T.pass (by kernel_rfl) (by kernel_rfl) ?_
          refine T.pass (by kernel_rfl) (by kernel_rfl) ?_
          refine T.pure (.bool true) (by kernel_rfl) (fun _ => by kernel_rfl) ?_
          refine T.pure (.bool true) (by kernel_rfl) (fun _ => by kernel_rfl) ?_
          refine T.pass (by kernel_rfl) (by kernel_rfl) ?_
          refine T.pass (by kernel_rfl) (by kernel_rfl) ?_
          refine T.pass (by kernel_rfl) (by kernel_rfl) ?_
          refine T.pure (.bool true) (by kernel_rfl) (fun _ => by kernel_rfl) ?_
          refine T.nil ?_
          exact fun a w' hf hh => And.intro ((((((((((Fr.nil hf).pick hf 92 rfl).pick hf 18 rfl).pick hf 17 rfl).pick hf 16 rfl).pick hf 15 rfl).pick hf 13 rfl).pick hf 8 rfl).pick hf 3 rfl).pick hf 1 rfl) (hh.sub (.cons_cons _ List.Sublist.slnil))
      ·
        rintro a w' ⟨hf, hh⟩
        refine (?_ : T 175 w V5 [box b1 25 [.slice A1 p0.pages.length c1, .slice A2 p0.writes.length c2]] [(1, .string p1), (3, .pointer (some ⟨b1, 0, none⟩)), (8, .int .i64 r4.2.2), (13, .int .i64 r4.1), (15, .slice A5 r5.1.length c4), (16, .int .i64 r5.2), (17, .slice A6 r6.1.length c5), (18, .int .i64 r6.2), (92, .bool ((r4.2.2 != 0) || ((r5.2 != 0) || ((r6.2 != 0) || (((r5.1.length : Int) == 0) || ((r6.1.length : Int) == 0))))))] _) a w' hf hh
        clear hf hh
        refine T.cond ((r4.2.2 != 0) || ((r5.2 != 0) || ((r6.2 != 0) || (((r5.1.length : Int) == 0) || ((r6.1.length : Int) == 0))))) (by kernel_rfl) (by kernel_rfl) (fun hc2 => ?_) (fun hc2 => ?_)
        ·
          rw [hc2, cond_true] at hF
          refine T.cut (fun a w' => Fr 175 [(6, .bool ((r5.2 != 0) || ((r4.2.2 == 0) && (r6.2 != 0))))] a ∧ Hp w V5 [] w') ?_ ?_
          ·
            refine T.region ?_
            refine T.pure (.int .i64 r5.2) (by kernel_rfl) (fun _ => by kernel_rfl) ?_
            refine T.pure (.bool (r5.2 != 0)) (by kernel_rfl) (fun _ => by kernel_rfl) ?_
            refine T.pure (.bool (r5.2 != 0)) (by kernel_rfl) (fun _ => by kernel_rfl) ?_
            cases hg8 : (r5.2 != 0)
            ·
              skip
              refine T.pure (.int .i64 r4.2.2) (by kernel_rfl) (fun _ => by kernel_rfl) ?_
              refine T.pure (.bool (r4.2.2 == 0)) (by kernel_rfl) (fun _ => by kernel_rfl) ?_
              refine T.pure (.bool (r4.2.2 == 0)) (by kernel_rfl) (fun _ => by kernel_rfl) ?_
              cases hg9 : (r4.2.2 == 0)
              ·
                skip
                refine T.pass (by kernel_rfl) (by kernel_rfl) ?_
                refine T.pass (by kernel_rfl) (by kernel_rfl) ?_
                refine T.pure (.bool false) (by kernel_rfl) (fun _ => by kernel_rfl) ?_
                refine T.pure (.bool false) (by kernel_rfl) (fun _ => by kernel_rfl) ?_
                refine T.pure (.bool false) (by kernel_rfl) (fun _ => by kernel_rfl) ?_
                refine T.nil ?_
                exact fun a w' hf hh => And.intro ((Fr.nil hf).pick hf 6 rfl) (hh.sub (.cons _ List.Sublist.slnil))
              ·
                skip
                refine T.pure (.int .i64 r6.2) (by kernel_rfl) (fun _ => by kernel_rfl) ?_
                refine T.pure (.bool (r6.2 != 0)) (by kernel_rfl) (fun _ => by kernel_rfl) ?_
                refine T.pure (.bool (r6.2 != 0)) (by kernel_rfl) (fun _ => by kernel_rfl) ?_
                refine T.pure (.bool (r6.2 != 0)) (by kernel_rfl) (fun _ => by kernel_rfl) ?_
                refine T.pure (.bool (r6.2 != 0)) (by kernel_rfl) (fun _ => by kernel_rfl) ?_
                refine T.nil ?_
                exact fun a w' hf hh => And.intro ((Fr.nil hf).pick hf 6 rfl) (hh.sub (.cons _ List.Sublist.slnil))
            ·
              skip
              refine T.pass (by kernel_rfl) (by kernel_rfl) ?_
              refine T.pass (by kernel_rfl) (by kernel_rfl) ?_
              refine T.pass (by kernel_rfl) (by kernel_rfl) ?_
              refine T.pass (by kernel_rfl) (by kernel_rfl) ?_
              refine T.pass (by kernel_rfl) (by kernel_rfl) ?_
              refine T.pass (by kernel_rfl) (by kernel_rfl) ?_
              refine T.pure (.bool true) (by kernel_rfl) (fun _ => by kernel_rfl) ?_
              refine T.pure (.bool true) (by kernel_rfl) (fun _ => by kernel_rfl) ?_
              refine T.nil ?_
              exact fun a w' hf hh => And.intro ((Fr.nil hf).pick hf 6 rfl) (hh.sub (.cons _ List.Sublist.slnil))
          ·
            rintro a w' ⟨hf, hh⟩
            refine (?_ : T 175 w V5 [] [(6, .bool ((r5.2 != 0) || ((r4.2.2 == 0) && (r6.2 != 0))))] _) a w' hf hh
            clear hf hh
            cases hF
            refine T.ret rfl ?_
            exact T.ret1 rfl (ResIs.tmp rfl) fun w' hh => ⟨_, rfl, hh.below, (show _ from rfl)⟩
        ·
          rw [hc2, cond_false] at hF
          refine T.skip_code ?_
          refine T.seq ?_
          refine T.region ?_
          refine T.pure (.slice A5 r5.1.length c4) (by kernel_rfl) (fun _ => by kernel_rfl) ?_
          refine T.pure (.slice A5 r5.1.length c4) (by kernel_rfl) (fun _ => by kernel_rfl) ?_
          refine T.pure (.int .i64 (r5.1.length : Int)) (by kernel_rfl) (fun _ => by kernel_rfl) ?_
          refine T.pure (.int .i64 (IntKind.i64.wrap ((r5.1.length : Int) - 1))) (by kernel_rfl) (fun _ => by kernel_rfl) ?_
          obtain ⟨e2, hb8, hF⟩ := Option.bind_eq_some_iff.1 hF
          obtain ⟨hi4, hi5, hi6⟩ := idx_some hb8
          obtain ⟨cs1, hr1, hc3⟩ := SlOk.elem (SlOk.mono hs4 (View.le_trans (made_le _ _) hV5)) hi6
          obtain ⟨A7, c6, A8, c7, rfl, hs6, hs7⟩ := hr1
          refine T.look (.pointer (some ((sadr A5).add (((IntKind.i64.wrap ((r5.1.length : Int) - 1)).toNat) * 2)))) (by kernel_rfl) (fun w' hh => exec_indexAddr (e := 25) (s := 2) rfl rfl rfl (by kernel_rfl) (by kernel_rfl) hi4 hi5 ((SlOk.mono hs4 (View.le_trans (made_le _ _) hV5)).some_ hi6 (by decide))) ?_
          refine T.look (.agg #[.slice A7 e2.pages.length c6, .slice A8 e2.writes.length c7]) (by kernel_rfl) (fun w' hh => exec_loadN (cs := [.slice A7 e2.pages.length c6, .slice A8 e2.writes.length c7]) rfl rfl (by kernel_rfl) (by kernel_rfl) (fun j u hj => hh.cell_view (View.cell_mono (View.le_refl _) (hc3 j u hj).2))) ?_
          obtain ⟨r7, hb9, hF⟩ := Option.bind_eq_some_iff.1 hF
          refine T.step (W1.call (vT3 (vSc eInt) (vSc eStr) (vSc eInt)) r7 19 #[.agg #[.slice A7 e2.pages.length c6, .slice A8 e2.writes.length c7]] (by kernel_rfl) (fun _ => by kernel_rfl) (fun w' hh => undo_Seq_l F e2 r7 hb9 w' A7 c6 (SlOk.mono hs6 hh.view) A8 c7 (SlOk.mono hs7 hh.view)) ?_)
          intro u V6 hV6 hu
          obtain rfl := (Sure.t3 sureInt sureStr sureInt) _ _ _ hu
          refine T.pure (.tuple #[.int .i64 r7.1, .string r7.2.1, .int .i64 r7.2.2]) (by kernel_rfl) (fun _ => by kernel_rfl) ?_
          refine T.pure (.int .i64 r7.1) (by kernel_rfl) (fun _ => by kernel_rfl) ?_
          refine T.pure (.string r7.2.1) (by kernel_rfl) (fun _ => by kernel_rfl) ?_
          refine T.pure (.int .i64 r7.2.2) (by kernel_rfl) (fun _ => by kernel_rfl) ?_
          refine T.pure (.int .i64 r7.1) (by kernel_rfl) (fun _ => by kernel_rfl) ?_
          refine T.pure (.string r7.2.1) (by kernel_rfl) (fun _ => by kernel_rfl) ?_
          refine T.pure (.int .i64 r7.2.2) (by kernel_rfl) (fun _ => by kernel_rfl) ?_
          refine T.nil ?_
          refine T.seq ?_
          refine T.region ?_
          refine T.pure (.slice A6 r6.1.length c5) (by kernel_rfl) (fun _ => by kernel_rfl) ?_
          refine T.pure (.slice A6 r6.1.length c5) (by kernel_rfl) (fun _ => by kernel_rfl) ?_
          refine T.pure (.int .i64 (r6.1.length : Int)) (by kernel_rfl) (fun _ => by kernel_rfl) ?_
          refine T.pure (.int .i64 (IntKind.i64.wrap ((r6.1.length : Int) - 1))) (by kernel_rfl) (fun _ => by kernel_rfl) ?_
          obtain ⟨e3, hb10, hF⟩ := Option.bind_eq_some_iff.1 hF
          obtain ⟨hi7, hi8, hi9⟩ := idx_some hb10
          obtain ⟨cs2, hr2, hc4⟩ := SlOk.elem (SlOk.mono hs5 (View.le_trans (made_le _ _) hV6)) hi9
          obtain ⟨A9, c8, A10, c9, rfl, hs8, hs9⟩ := hr2
          refine T.look (.pointer (some ((sadr A6).add (((IntKind.i64.wrap ((r6.1.length : Int) - 1)).toNat) * 2)))) (by kernel_rfl) (fun w' hh => exec_indexAddr (e := 25) (s := 2) rfl rfl rfl (by kernel_rfl) (by kernel_rfl) hi7 hi8 ((SlOk.mono hs5 (View.le_trans (made_le _ _) hV6)).some_ hi9 (by decide))) ?_
          refine T.look (.agg #[.slice A9 e3.pages.length c8, .slice A10 e3.writes.length c9]) (by kernel_rfl) (fun w' hh => exec_loadN (cs := [.slice A9 e3.pages.length c8, .slice A10 e3.writes.length c9]) rfl rfl (by kernel_rfl) (by kernel_rfl) (fun j u hj => hh.cell_view (View.cell_mono (View.le_refl _) (hc4 j u hj).2))) ?_
          obtain ⟨r8, hb11, hF⟩ := Option.bind_eq_some_iff.1 hF
          refine T.step (W1.call (vT3 (vSc eInt) (vSc eStr) (vSc eInt)) r8 19 #[.agg #[.slice A9 e3.pages.length c8, .slice A10 e3.writes.length c9]] (by kernel_rfl) (fun _ => by kernel_rfl) (fun w' hh => undo_Seq_l F e3 r8 hb11 w' A9 c8 (SlOk.mono hs8 hh.view) A10 c9 (SlOk.mono hs9 hh.view)) ?_)
          intro u V7 hV7 hu
          obtain rfl := (Sure.t3 sureInt sureStr sureInt) _ _ _ hu
          refine T.pure (.tuple #[.int .i64 r8.1, .string r8.2.1, .int .i64 r8.2.2]) (by kernel_rfl) (fun _ => by kernel_rfl) ?_
          refine T.pure (.int .i64 r8.1) (by kernel_rfl) (fun _ => by kernel_rfl) ?_
          refine T.pure (.string r8.2.1) (by kernel_rfl) (fun _ => by kernel_rfl) ?_
          refine T.pure (.int .i64 r8.2.2) (by kernel_rfl) (fun _ => by kernel_rfl) ?_
          refine T.pure (.int .i64 r8.1) (by kernel_rfl) (fun _ => by kernel_rfl) ?_
          refine T.pure (.string r8.2.1) (by kernel_rfl) (fun _ => by kernel_rfl) ?_
          refine T.pure (.int .i64 r8.2.2) (by kernel_rfl) (fun _ => by kernel_rfl) ?_
          refine T.nil ?_
          refine T.seq ?_
          refine T.region ?_
          refine T.look (.agg #[.slice A1 p0.pages.length c1, .slice A2 p0.writes.length c2]) (by kernel_rfl) (fun w' hh => exec_loadN (cs := [.slice A1 p0.pages.length c1, .slice A2 p0.writes.length c2]) rfl rfl (by kernel_rfl) (by kernel_rfl) (fun j u hj => (hh.box_at (i := 0) (cs := [.slice A1 p0.pages.length c1, .slice A2 p0.writes.length c2]) (by rfl) 0 j).trans (seg_at (n := 2) (by rfl) hj))) ?_
          obtain ⟨r9, hb12, hF⟩ := Option.bind_eq_some_iff.1 hF
          refine T.step (W1.call (vT2 (vAg eDisk) (vSc eInt)) r9 20 #[.agg #[.slice A1 p0.pages.length c1, .slice A2 p0.writes.length c2]] (by kernel_rfl) (fun _ => by kernel_rfl) (fun w' hh => disk_Sync_l F p0 r9 hb12 w' A1 c1 (SlOk.mono (SlOk.mono hs1 (View.le_trans (View.le_trans (View.le_trans (View.le_trans (View.le_trans (View.le_trans hV1 hV2) hV3) hV4) hV5) hV6) hV7)) hh.view) A2 c2 (SlOk.mono (SlOk.mono hs2 (View.le_trans (View.le_trans (View.le_trans (View.le_trans (View.le_trans (View.le_trans hV1 hV2) hV3) hV4) hV5) hV6) hV7)) hh.view)) ?_)
          intro u V8 hV8 hu
          obtain ⟨u6, u7, rfl, hu5, hu6⟩ := vT2_elim hu
          obtain ⟨cs3, rfl, hr3⟩ := vagg_elim hu5
          obtain ⟨A11, c10, A12, c11, rfl, hs10, hs11⟩ := hr3
          obtain rfl := sureInt _ _ _ hu6
          refine T.pure (.tuple #[.agg #[.slice A11 r9.1.pages.length c10, .slice A12 r9.1.writes.length c11], .int .i64 r9.2]) (by kernel_rfl) (fun _ => by kernel_rfl) ?_
          refine T.pure (.agg #[.slice A11 r9.1.pages.length c10, .slice A12 r9.1.writes.length c11]) (by kernel_rfl) (fun _ => by kernel_rfl) ?_
          refine T.pure (.int .i64 r9.2) (by kernel_rfl) (fun _ => by kernel_rfl) ?_
          refine T.step (W1.new 25 [.slice none 0 0, .slice none 0 0] (fun b => .pointer (some ⟨b, 0, none⟩)) (by kernel_rfl) (fun _ => by kernel_rfl) (fun b3 => ?_))
          refine T.step (W1.store 0 [.slice A11 r9.1.pages.length c10, .slice A12 r9.1.writes.length c11] [box b3 25 [.slice A11 r9.1.pages.length c10, .slice A12 r9.1.writes.length c11], box b1 25 [.slice A1 p0.pages.length c1, .slice A2 p0.writes.length c2]] (by rfl) rfl (by kernel_rfl) (fun w' hw => exec_store (vs := [.slice A11 r9.1.pages.length c10, .slice A12 r9.1.writes.length c11]) rfl rfl rfl rfl (by kernel_rfl) (one_of rfl) (by simp) rfl hw) ?_)
          refine T.pure (.int .i64 r9.2) (by kernel_rfl) (fun _ => by kernel_rfl) ?_
          refine T.nil ?_
          obtain ⟨z1, hX1, hF⟩ := Option.bind_eq_some_iff.1 hF
          refine T.cut (fun a w' => Fr 175 [(6, .bool z1)] a ∧ Hp w V8 [] w') ?_ ?_
          ·
            refine T.quiet (by kernel_rfl) (by kernel_rfl) ?_
            refine TQ.pure (.int .i64 r7.2.2) (by kernel_rfl) (fun _ => by kernel_rfl) ?_
            refine TQ.pure (.bool (r7.2.2 == 0)) (by kernel_rfl) (fun _ => by kernel_rfl) ?_
            refine TQ.pure (.bool (r7.2.2 == 0)) (by kernel_rfl) (fun _ => by kernel_rfl) ?_
            cases hg10 : (r7.2.2 == 0)
            ·
              skip
              rw [hg10, cond_false] at hX1
              refine TQ.pass (by kernel_rfl) (by kernel_rfl) ?_
              refine TQ.pass (by kernel_rfl) (by kernel_rfl) ?_
              refine TQ.pure (.bool false) (by kernel_rfl) (fun _ => by kernel_rfl) ?_
              refine TQ.pure (.bool false) (by kernel_rfl) (fun _ => by kernel_rfl) ?_
              refine TQ.pass (by kernel_rfl) (by kernel_rfl) ?_
              refine TQ.pass (by kernel_rfl) (by kernel_rfl) ?_
              refine TQ.pure (.bool false) (by kernel_rfl) (fun _ => by kernel_rfl) ?_
              refine TQ.pure (.bool false) (by kernel_rfl) (fun _ => by kernel_rfl) ?_
              refine TQ.pass (by kernel_rfl) (by kernel_rfl) ?_
              refine TQ.pass (by kernel_rfl) (by kernel_rfl) ?_
              refine TQ.pass (by kernel_rfl) (by kernel_rfl) ?_
              refine TQ.pass (by kernel_rfl) (by kernel_rfl) ?_
              refine TQ.pure (.bool false) (by kernel_rfl) (fun _ => by kernel_rfl) ?_
              refine TQ.pure (.bool false) (by kernel_rfl) (fun _ => by kernel_rfl) ?_
              refine TQ.pass (by kernel_rfl) (by kernel_rfl) ?_
              refine TQ.pass (by kernel_rfl) (by kernel_rfl) ?_
              refine TQ.pass (by kernel_rfl) (by kernel_rfl) ?_
              refine TQ.pure (.bool false) (by kernel_rfl) (fun _ => by kernel_rfl) ?_
              refine TQ.pure (.bool false) (by kernel_rfl) (fun _ => by kernel_rfl) ?_
              refine TQ.pass (by kernel_rfl) (by kernel_rfl) ?_
              refine TQ.pass (by kernel_rfl) (by kernel_rfl) ?_
              refine TQ.pass (by kernel_rfl) (by kernel_rfl) ?_
              refine TQ.pure (.bool false) (by kernel_rfl) (fun _ => by kernel_rfl) ?_
              refine TQ.pure (.bool false) (by kernel_rfl) (fun _ => by kernel_rfl) ?_
              refine TQ.pass (by kernel_rfl) (by kernel_rfl) ?_
              refine TQ.pass (by kernel_rfl) (by kernel_rfl) ?_
              refine TQ.pass (by kernel_rfl) (by kernel_rfl) ?_
              refine TQ.pure (.bool false) (by kernel_rfl) (fun _ => by kernel_rfl) ?_
              refine TQ.pure (.bool false) (by kernel_rfl) (fun _ => by kernel_rfl) ?_
              refine TQ.pass (by kernel_rfl) (by kernel_rfl) ?_
              refine TQ.pass (by kernel_rfl) (by kernel_rfl) ?_
              refine TQ.pass (by kernel_rfl) (by kernel_rfl) ?_
              refine TQ.pass (by kernel_rfl) (by kernel_rfl) ?_
              refine TQ.pass (by kernel_rfl) (by kernel_rfl) ?_
              refine TQ.pass (by kernel_rfl) (by kernel_rfl) ?_
              refine TQ.pass (by kernel_rfl) (by kernel_rfl) ?_
              refine TQ.pass (by kernel_rfl) (by kernel_rfl) ?_
              refine TQ.pass (by kernel_rfl) (by kernel_rfl) ?_
              refine TQ.pass (by kernel_rfl) (by kernel_rfl) ?_
              refine TQ.pass (by kernel_rfl) (by kernel_rfl) ?_
              refine TQ.pass (by kernel_rfl) (by kernel_rfl) ?_
              refine TQ.pure (.bool false) (by kernel_rfl) (fun _ => by kernel_rfl) ?_
              refine TQ.pure (.bool false) (by kernel_rfl) (fun _ => by kernel_rfl) ?_
              refine TQ.nil ?_
              cases hX1
              exact fun a w' hf hh => And.intro ((Fr.nil hf).pick hf 6 rfl) (hh.sub (.cons _ (.cons _ List.Sublist.slnil)))
            ·
              skip
              rw [hg10, cond_true] at hX1
              refine TQ.pure (.int .i64 r8.2.2) (by kernel_rfl) (fun _ => by kernel_rfl) ?_
              refine TQ.pure (.bool (r8.2.2 == 0)) (by kernel_rfl) (fun _ => by kernel_rfl) ?_
              refine TQ.pure (.bool (r8.2.2 == 0)) (by kernel_rfl) (fun _ => by kernel_rfl) ?_
              refine TQ.pure (.bool (r8.2.2 == 0)) (by kernel_rfl) (fun _ => by kernel_rfl) ?_
              cases hg11 : (r8.2.2 == 0)
              ·
                skip
                rw [hg11, cond_false] at hX1
                refine TQ.pass (by kernel_rfl) (by kernel_rfl) ?_
                refine TQ.pass (by kernel_rfl) (by kernel_rfl) ?_
                refine TQ.pure (.bool false) (by kernel_rfl) (fun _ => by kernel_rfl) ?_
                refine TQ.pure (.bool false) (by kernel_rfl) (fun _ => by kernel_rfl) ?_
                refine TQ.pass (by kernel_rfl) (by kernel_rfl) ?_
                refine TQ.pass (by kernel_rfl) (by kernel_rfl) ?_
                refine TQ.pass (by kernel_rfl) (by kernel_rfl) ?_
                refine TQ.pass (by kernel_rfl) (by kernel_rfl) ?_
                refine TQ.pure (.bool false) (by kernel_rfl) (fun _ => by kernel_rfl) ?_
                refine TQ.pure (.bool false) (by kernel_rfl) (fun _ => by kernel_rfl) ?_
                refine TQ.pass (by kernel_rfl) (by kernel_rfl) ?_
                refine TQ.pass (by kernel_rfl) (by kernel_rfl) ?_
                refine TQ.pass (by kernel_rfl) (by kernel_rfl) ?_
                refine TQ.pure (.bool false) (by kernel_rfl) (fun _ => by kernel_rfl) ?_
                refine TQ.pure (.bool false) (by kernel_rfl) (fun _ => by kernel_rfl) ?_
                refine TQ.pass (by kernel_rfl) (by kernel_rfl) ?_
                refine TQ.pass (by kernel_rfl) (by kernel_rfl) ?_
                refine TQ.pass (by kernel_rfl) (by kernel_rfl) ?_
                refine TQ.pure (.bool false) (by kernel_rfl) (fun _ => by kernel_rfl) ?_
                refine TQ.pure (.bool false) (by kernel_rfl) (fun _ => by kernel_rfl) ?_
                refine TQ.pass (by kernel_rfl) (by kernel_rfl) ?_
                refine TQ.pass (by kernel_rfl) (by kernel_rfl) ?_
                refine TQ.pass (by kernel_rfl) (by kernel_rfl) ?_
                refine TQ.pure (.bool false) (by kernel_rfl) (fun _ => by kernel_rfl) ?_
                refine TQ.pure (.bool false) (by kernel_rfl) (fun _ => by kernel_rfl) ?_
                refine TQ.pass (by kernel_rfl) (by kernel_rfl) ?_
                refine TQ.pass (by kernel_rfl) (by kernel_rfl) ?_
                refine TQ.pass (by kernel_rfl) (by kernel_rfl) ?_
                refine TQ.pass (by kernel_rfl) (by kernel_rfl) ?_
                refine TQ.pass (by kernel_rfl) (by kernel_rfl) ?_
                refine TQ.pass (by kernel_rfl) (by kernel_rfl) ?_
                refine TQ.pass (by kernel_rfl) (by kernel_rfl) ?_
                refine TQ.pass (by kernel_rfl) (by kernel_rfl) ?_
                refine TQ.pass (by kernel_rfl) (by kernel_rfl) ?_
                refine TQ.pass (by kernel_rfl) (by kernel_rfl) ?_
                refine TQ.pass (by kernel_rfl) (by kernel_rfl) ?_
                refine TQ.pass (by kernel_rfl) (by kernel_rfl) ?_
                refine TQ.pure (.bool false) (by kernel_rfl) (fun _ => by kernel_rfl) ?_
                refine TQ.pure (.bool false) (by kernel_rfl) (fun _ => by kernel_rfl) ?_
                refine TQ.nil ?_
                cases hX1
                exact fun a w' hf hh => And.intro ((Fr.nil hf).pick hf 6 rfl) (hh.sub (.cons _ (.cons _ List.Sublist.slnil)))
              ·
                skip
                rw [hg11, cond_true] at hX1
                refine TQ.pure (.int .i64 r9.2) (by kernel_rfl) (fun _ => by kernel_rfl) ?_
                refine TQ.pure (.bool (r9.2 == 0)) (by kernel_rfl) (fun _ => by kernel_rfl) ?_
                refine TQ.pure (.bool (r9.2 == 0)) (by kernel_rfl) (fun _ => by kernel_rfl) ?_
                refine TQ.pure (.bool (r9.2 == 0)) (by kernel_rfl) (fun _ => by kernel_rfl) ?_
                cases hg12 : (r9.2 == 0)
                ·
                  skip
                  rw [hg12, cond_false] at hX1
                  refine TQ.pass (by kernel_rfl) (by kernel_rfl) ?_
                  refine TQ.pass (by kernel_rfl) (by kernel_rfl) ?_
                  refine TQ.pass (by kernel_rfl) (by kernel_rfl) ?_
                  refine TQ.pass (by kernel_rfl) (by kernel_rfl) ?_
                  refine TQ.pure (.bool false) (by kernel_rfl) (fun _ => by kernel_rfl) ?_
                  refine TQ.pure (.bool false) (by kernel_rfl) (fun _ => by kernel_rfl) ?_
                  refine TQ.pass (by kernel_rfl) (by kernel_rfl) ?_
                  refine TQ.pass (by kernel_rfl) (by kernel_rfl) ?_
                  refine TQ.pass (by kernel_rfl) (by kernel_rfl) ?_
                  refine TQ.pure (.bool false) (by kernel_rfl) (fun _ => by kernel_rfl) ?_
                  refine TQ.pure (.bool false) (by kernel_rfl) (fun _ => by kernel_rfl) ?_
                  refine TQ.pass (by kernel_rfl) (by kernel_rfl) ?_
                  refine TQ.pass (by kernel_rfl) (by kernel_rfl) ?_
                  refine TQ.pass (by kernel_rfl) (by kernel_rfl) ?_
                  refine TQ.pure (.bool false) (by kernel_rfl) (fun _ => by kernel_rfl) ?_
                  refine TQ.pure (.bool false) (by kernel_rfl) (fun _ => by kernel_rfl) ?_
                  refine TQ.pass (by kernel_rfl) (by kernel_rfl) ?_
                  refine TQ.pass (by kernel_rfl) (by kernel_rfl) ?_
                  refine TQ.pass (by kernel_rfl) (by kernel_rfl) ?_
                  refine TQ.pure (.bool false) (by kernel_rfl) (fun _ => by kernel_rfl) ?_
                  refine TQ.pure (.bool false) (by kernel_rfl) (fun _ => by kernel_rfl) ?_
                  refine TQ.pass (by kernel_rfl) (by kernel_rfl) ?_
                  refine TQ.pass (by kernel_rfl) (by kernel_rfl) ?_
                  refine TQ.pass (by kernel_rfl) (by kernel_rfl) ?_
                  refine TQ.pass (by kernel_rfl) (by kernel_rfl) ?_
                  refine TQ.pass (by kernel_rfl) (by kernel_rfl) ?_
                  refine TQ.pass (by kernel_rfl) (by kernel_rfl) ?_
                  refine TQ.pass (by kernel_rfl) (by kernel_rfl) ?_
                  refine TQ.pass (by kernel_rfl) (by kernel_rfl) ?_
                  refine TQ.pass (by kernel_rfl) (by kernel_rfl) ?_
                  refine TQ.pass (by kernel_rfl) (by kernel_rfl) ?_
                  refine TQ.pass (by kernel_rfl) (by kernel_rfl) ?_
                  refine TQ.pass (by kernel_rfl) (by kernel_rfl) ?_
                  refine TQ.pure (.bool false) (by kernel_rfl) (fun _ => by kernel_rfl) ?_
                  refine TQ.pure (.bool false) (by kernel_rfl) (fun _ => by kernel_rfl) ?_
                  refine TQ.nil ?_
                  cases hX1
                  exact fun a w' hf hh => And.intro ((Fr.nil hf).pick hf 6 rfl) (hh.sub (.cons _ (.cons _ List.Sublist.slnil)))
                ·
                  skip
                  rw [hg12, cond_true] at hX1
                  refine TQ.pure (.int .i64 r7.1) (by kernel_rfl) (fun _ => by kernel_rfl) ?_
                  refine TQ.pure (.int .i64 r4.1) (by kernel_rfl) (fun _ => by kernel_rfl) ?_
                  refine TQ.pure (.int .i64 (IntKind.i64.wrap (r4.1 + 1))) (by kernel_rfl) (fun _ => by kernel_rfl) ?_
                  refine TQ.pure (.bool (r7.1 == (IntKind.i64.wrap (r4.1 + 1)))) (by kernel_rfl) (fun _ => by kernel_rfl) ?_
                  refine TQ.pure (.bool (r7.1 == (IntKind.i64.wrap (r4.1 + 1)))) (by kernel_rfl) (fun _ => by kernel_rfl) ?_
                  refine TQ.pure (.bool (r7.1 == (IntKind.i64.wrap (r4.1 + 1)))) (by kernel_rfl) (fun _ => by kernel_rfl) ?_
                  cases hg13 : (r7.1 == (IntKind.i64.wrap (r4.1 + 1)))
                  ·
                    skip
                    rw [hg13, cond_false] at hX1
                    refine TQ.pass (by kernel_rfl) (by kernel_rfl) ?_
                    refine TQ.pass (by kernel_rfl) (by kernel_rfl) ?_
                    refine TQ.pass (by kernel_rfl) (by kernel_rfl) ?_
                    refine TQ.pure (.bool false) (by kernel_rfl) (fun _ => by kernel_rfl) ?_
                    refine TQ.pure (.bool false) (by kernel_rfl) (fun _ => by kernel_rfl) ?_
                    refine TQ.pass (by kernel_rfl) (by kernel_rfl) ?_
                    refine TQ.pass (by kernel_rfl) (by kernel_rfl) ?_
                    refine TQ.pass (by kernel_rfl) (by kernel_rfl) ?_
                    refine TQ.pure (.bool false) (by kernel_rfl) (fun _ => by kernel_rfl) ?_
                    refine TQ.pure (.bool false) (by kernel_rfl) (fun _ => by kernel_rfl) ?_
                    refine TQ.pass (by kernel_rfl) (by kernel_rfl) ?_
                    refine TQ.pass (by kernel_rfl) (by kernel_rfl) ?_
                    refine TQ.pass (by kernel_rfl) (by kernel_rfl) ?_
                    refine TQ.pure (.bool false) (by kernel_rfl) (fun _ => by kernel_rfl) ?_
                    refine TQ.pure (.bool false) (by kernel_rfl) (fun _ => by kernel_rfl) ?_
                    refine TQ.pass (by kernel_rfl) (by kernel_rfl) ?_
                    refine TQ.pass (by kernel_rfl) (by kernel_rfl) ?_
                    refine TQ.pass (by kernel_rfl) (by kernel_rfl) ?_
                    refine TQ.pass (by kernel_rfl) (by kernel_rfl) ?_
                    refine TQ.pass (by kernel_rfl) (by kernel_rfl) ?_
                    refine TQ.pass (by kernel_rfl) (by kernel_rfl) ?_
                    refine TQ.pass (by kernel_rfl) (by kernel_rfl) ?_
                    refine TQ.pass (by kernel_rfl) (by kernel_rfl) ?_
                    refine TQ.pass (by kernel_rfl) (by kernel_rfl) ?_
                    refine TQ.pass (by kernel_rfl) (by kernel_rfl) ?_
                    refine TQ.pass (by kernel_rfl) (by kernel_rfl) ?_
                    refine TQ.pass (by kernel_rfl) (by kernel_rfl) ?_
                    refine TQ.pure (.bool false) (by kernel_rfl) (fun _ => by kernel_rfl) ?_
                    refine TQ.pure (.bool false) (by kernel_rfl) (fun _ => by kernel_rfl) ?_
                    refine TQ.nil ?_
                    cases hX1
                    exact fun a w' hf hh => And.intro ((Fr.nil hf).pick hf 6 rfl) (hh.sub (.cons _ (.cons _ List.Sublist.slnil)))
                  ·
                    skip
                    rw [hg13, cond_true] at hX1
                    refine TQ.pure (.int .i64 r8.1) (by kernel_rfl) (fun _ => by kernel_rfl) ?_
                    refine TQ.pure (.int .i64 r7.1) (by kernel_rfl) (fun _ => by kernel_rfl) ?_
                    refine TQ.pure (.bool (r8.1 == r7.1)) (by kernel_rfl) (fun _ => by kernel_rfl) ?_
                    refine TQ.pure (.bool (r8.1 == r7.1)) (by kernel_rfl) (fun _ => by kernel_rfl) ?_
                    refine TQ.pure (.bool (r8.1 == r7.1)) (by kernel_rfl) (fun _ => by kernel_rfl) ?_
                    cases hg14 : (r8.1 == r7.1)
                    ·
                      skip
                      rw [hg14, cond_false] at hX1
                      refine TQ.pass (by kernel_rfl) (by kernel_rfl) ?_
                      refine TQ.pass (by kernel_rfl) (by kernel_rfl) ?_
                      refine TQ.pass (by kernel_rfl) (by kernel_rfl) ?_
                      refine TQ.pure (.bool false) (by kernel_rfl) (fun _ => by kernel_rfl) ?_
                      refine TQ.pure (.bool false) (by kernel_rfl) (fun _ => by kernel_rfl) ?_
                      refine TQ.pass (by kernel_rfl) (by kernel_rfl) ?_
                      refine TQ.pass (by kernel_rfl) (by kernel_rfl) ?_
                      refine TQ.pass (by kernel_rfl) (by kernel_rfl) ?_
                      refine TQ.pure (.bool false) (by kernel_rfl) (fun _ => by kernel_rfl) ?_
                      refine TQ.pure (.bool false) (by kernel_rfl) (fun _ => by kernel_rfl) ?_
                      refine TQ.pass (by kernel_rfl) (by kernel_rfl) ?_
                      refine TQ.pass (by kernel_rfl) (by kernel_rfl) ?_
                      refine TQ.pass (by kernel_rfl) (by kernel_rfl) ?_
                      refine TQ.pass (by kernel_rfl) (by kernel_rfl) ?_
                      refine TQ.pass (by kernel_rfl) (by kernel_rfl) ?_
                      refine TQ.pass (by kernel_rfl) (by kernel_rfl) ?_
                      refine TQ.pass (by kernel_rfl) (by kernel_rfl) ?_
                      refine TQ.pass (by kernel_rfl) (by kernel_rfl) ?_
                      refine TQ.pass (by kernel_rfl) (by kernel_rfl) ?_
                      refine TQ.pass (by kernel_rfl) (by kernel_rfl) ?_
                      refine TQ.pass (by kernel_rfl) (by kernel_rfl) ?_
                      refine TQ.pass (by kernel_rfl) (by kernel_rfl) ?_
                      refine TQ.pure (.bool false) (by kernel_rfl) (fun _ => by kernel_rfl) ?_
                      refine TQ.pure (.bool false) (by kernel_rfl) (fun _ => by kernel_rfl) ?_
                      refine TQ.nil ?_
                      cases hX1
                      exact fun a w' hf hh => And.intro ((Fr.nil hf).pick hf 6 rfl) (hh.sub (.cons _ (.cons _ List.Sublist.slnil)))
                    ·
                      skip
                      rw [hg14, cond_true] at hX1
                      refine TQ.pure (.string r7.2.1) (by kernel_rfl) (fun _ => by kernel_rfl) ?_
                      refine TQ.pure (.string p1) (by kernel_rfl) (fun _ => by kernel_rfl) ?_
                      refine TQ.pure (.bool (seq r7.2.1 p1)) (by kernel_rfl) (fun _ => by kernel_rfl) ?_
                      refine TQ.pure (.bool (seq r7.2.1 p1)) (by kernel_rfl) (fun _ => by kernel_rfl) ?_
                      refine TQ.pure (.bool (seq r7.2.1 p1)) (by kernel_rfl) (fun _ => by kernel_rfl) ?_
                      cases hg15 : (seq r7.2.1 p1)
                      ·
                        skip
                        rw [hg15, cond_false] at hX1
                        refine TQ.pass (by kernel_rfl) (by kernel_rfl) ?_
                        refine TQ.pass (by kernel_rfl) (by kernel_rfl) ?_
                        refine TQ.pass (by kernel_rfl) (by kernel_rfl) ?_
                        refine TQ.pure (.bool false) (by kernel_rfl) (fun _ => by kernel_rfl) ?_
                        refine TQ.pure (.bool false) (by kernel_rfl) (fun _ => by kernel_rfl) ?_
                        refine TQ.pass (by kernel_rfl) (by kernel_rfl) ?_
                        refine TQ.pass (by kernel_rfl) (by kernel_rfl) ?_
                        refine TQ.pass (by kernel_rfl) (by kernel_rfl) ?_
                        refine TQ.pass (by kernel_rfl) (by kernel_rfl) ?_
                        refine TQ.pass (by kernel_rfl) (by kernel_rfl) ?_
                        refine TQ.pass (by kernel_rfl) (by kernel_rfl) ?_
                        refine TQ.pass (by kernel_rfl) (by kernel_rfl) ?_
                        refine TQ.pass (by kernel_rfl) (by kernel_rfl) ?_
                        refine TQ.pass (by kernel_rfl) (by kernel_rfl) ?_
                        refine TQ.pass (by kernel_rfl) (by kernel_rfl) ?_
                        refine TQ.pass (by kernel_rfl) (by kernel_rfl) ?_
                        refine TQ.pass (by kernel_rfl) (by kernel_rfl) ?_
                        refine TQ.pure (.bool false) (by kernel_rfl) (fun _ => by kernel_rfl) ?_
                        refine TQ.pure (.bool false) (by kernel_rfl) (fun _ => by kernel_rfl) ?_
                        refine TQ.nil ?_
                        cases hX1
                        exact fun a w' hf hh => And.intro ((Fr.nil hf).pick hf 6 rfl) (hh.sub (.cons _ (.cons _ List.Sublist.slnil)))
                      ·
                        skip
                        rw [hg15, cond_true] at hX1
                        refine TQ.pure (.string r8.2.1) (by kernel_rfl) (fun _ => by kernel_rfl) ?_
                        refine TQ.pure (.string p1) (by kernel_rfl) (fun _ => by kernel_rfl) ?_
                        refine TQ.pure (.bool (seq r8.2.1 p1)) (by kernel_rfl) (fun _ => by kernel_rfl) ?_
                        refine TQ.pure (.bool (seq r8.2.1 p1)) (by kernel_rfl) (fun _ => by kernel_rfl) ?_
                        refine TQ.pure (.bool (seq r8.2.1 p1)) (by kernel_rfl) (fun _ => by kernel_rfl) ?_
                        cases hg16 : (seq r8.2.1 p1)
                        ·
                          skip
                          rw [hg16, cond_false] at hX1
                          refine TQ.pass (by kernel_rfl) (by kernel_rfl) ?_
                          refine TQ.pass (by kernel_rfl) (by kernel_rfl) ?_
                          refine TQ.pass (by kernel_rfl) (by kernel_rfl) ?_
                          refine TQ.pass (by kernel_rfl) (by kernel_rfl) ?_
                          refine TQ.pass (by kernel_rfl) (by kernel_rfl) ?_
                          refine TQ.pass (by kernel_rfl) (by kernel_rfl) ?_
                          refine TQ.pass (by kernel_rfl) (by kernel_rfl) ?_
                          refine TQ.pass (by kernel_rfl) (by kernel_rfl) ?_
                          refine TQ.pass (by kernel_rfl) (by kernel_rfl) ?_
                          refine TQ.pass (by kernel_rfl) (by kernel_rfl) ?_
                          refine TQ.pass (by kernel_rfl) (by kernel_rfl) ?_
                          refine TQ.pass (by kernel_rfl) (by kernel_rfl) ?_
                          refine TQ.pure (.bool false) (by kernel_rfl) (fun _ => by kernel_rfl) ?_
                          refine TQ.pure (.bool false) (by kernel_rfl) (fun _ => by kernel_rfl) ?_
                          refine TQ.nil ?_
                          cases hX1
                          exact fun a w' hf hh => And.intro ((Fr.nil hf).pick hf 6 rfl) (hh.sub (.cons _ (.cons _ List.Sublist.slnil)))
                        ·
                          skip
                          rw [hg16, cond_true] at hX1
                          refine TQ.pure (.slice A6 r6.1.length c5) (by kernel_rfl) (fun _ => by kernel_rfl) ?_
                          refine TQ.pure (.slice A6 r6.1.length c5) (by kernel_rfl) (fun _ => by kernel_rfl) ?_
                          refine TQ.pure (.int .i64 (r6.1.length : Int)) (by kernel_rfl) (fun _ => by kernel_rfl) ?_
                          refine TQ.pure (.int .i64 (IntKind.i64.wrap ((r6.1.length : Int) - 1))) (by kernel_rfl) (fun _ => by kernel_rfl) ?_
                          obtain ⟨e4, hb13, hX1⟩ := Option.bind_eq_some_iff.1 hX1
                          obtain ⟨hi10, hi11, hi12⟩ := idx_some hb13
                          obtain ⟨cs4, hr4, hc5⟩ := SlOk.elem (SlOk.mono hs5 (View.le_trans (made_le _ _) (View.le_trans (View.le_trans hV6 hV7) hV8))) hi12
                          obtain ⟨A13, c12, A14, c13, rfl, hs12, hs13⟩ := hr4
                          refine TQ.look (.pointer (some ((sadr A6).add (((IntKind.i64.wrap ((r6.1.length : Int) - 1)).toNat) * 2)))) (by kernel_rfl) (fun w' hh => exec_indexAddr (e := 25) (s := 2) rfl rfl rfl (by kernel_rfl) (by kernel_rfl) hi10 hi11 ((SlOk.mono hs5 (View.le_trans (made_le _ _) (View.le_trans (View.le_trans hV6 hV7) hV8))).some_ hi12 (by decide))) ?_
                          refine TQ.pure (.pointer (some ((sadr A6).add (((IntKind.i64.wrap ((r6.1.length : Int) - 1)).toNat) * 2)))) (by kernel_rfl) (fun _ => by kernel_rfl) ?_
                          refine TQ.look (.slice A13 e4.pages.length c12) (by kernel_rfl) (fun w' hh => exec_load1 rfl rfl (by kernel_rfl) (hh.cell_view (View.cell_mono (View.le_refl _) (hc5 0 _ rfl).2))) ?_
                          obtain ⟨s1, hb14, hX1⟩ := Option.bind_eq_some_iff.1 hX1
                          refine TQ.look (.slice (cutA A13 c12 (1 : Int).toNat 1) s1.length (c12 - (1 : Int).toNat)) (by kernel_rfl) (fun w' hh => exec_slice_list (e := 9) (s := 1) (lx := (some _)) (hx := none) (k := .i64) (k' := .i64) rfl rfl (by kernel_rfl) (by kernel_rfl) (hs12).1 rfl rfl hb14) ?_
                          refine TQ.pure (.pointer (some ⟨b3, 0, none⟩)) (by kernel_rfl) (fun _ => by kernel_rfl) ?_
                          refine TQ.look (.slice A11 r9.1.pages.length c10) (by kernel_rfl) (fun w' hh => exec_load1 rfl rfl (by kernel_rfl) (hh.cellBox (i := 0) (by rfl) 0)) ?_
                          obtain ⟨s2, hb15, hX1⟩ := Option.bind_eq_some_iff.1 hX1
                          refine TQ.look (.slice (cutA A11 c10 (1 : Int).toNat 1) s2.length (c10 - (1 : Int).toNat)) (by kernel_rfl) (fun w' hh => exec_slice_list (e := 9) (s := 1) (lx := (some _)) (hx := none) (k := .i64) (k' := .i64) rfl rfl (by kernel_rfl) (by kernel_rfl) ((SlOk.mono hs10 (View.le_trans (made_le _ _) (View.le_refl _)))).1 rfl rfl hb15) ?_
                          obtain ⟨r10, hb16, hX1⟩ := Option.bind_eq_some_iff.1 hX1
                          refine TQ.call (vSc eBool) r10 21 #[.slice (cutA A13 c12 (1 : Int).toNat 1) s1.length (c12 - (1 : Int).toNat), .slice (cutA A11 c10 (1 : Int).toNat 1) s2.length (c10 - (1 : Int).toNat)] (.bool r10) (fun V u hu => sureBool V u _ hu) (by kernel_rfl) (fun _ => by kernel_rfl) (fun w' hh => slices_Equal_string_l F s1 s2 r10 hb16 w' (cutA A13 c12 (1 : Int).toNat 1) (c12 - (1 : Int).toNat) (SlOk.cut (SlOk.mono hs12 hh.view) hb14) (cutA A11 c10 (1 : Int).toNat 1) (c10 - (1 : Int).toNat) (SlOk.cut (SlOk.mono (SlOk.mono hs10 (View.le_trans (made_le _ _) (View.le_refl _))) hh.view) hb15)) ?_
                          refine TQ.pure (.bool r10) (by kernel_rfl) (fun _ => by kernel_rfl) ?_
                          refine TQ.pure (.bool r10) (by kernel_rfl) (fun _ => by kernel_rfl) ?_
                          refine TQ.nil ?_
                          cases hX1
                          exact fun a w' hf hh => And.intro ((Fr.nil hf).pick hf 6 rfl) (hh.sub (.cons _ (.cons _ List.Sublist.slnil)))
          ·
            rintro a w' ⟨hf, hh⟩
            refine (?_ : T 175 w V8 [] [(6, .bool z1)] _) a w' hf hh
            clear hf hh
            cases hF
            refine T.ret rfl ?_
            exact T.ret1 rfl (ResIs.tmp rfl) fun w' hh => ⟨_, rfl, hh.below, (show _ from rfl)⟩

end Go.Proofs.Ytomgholekojenaa
