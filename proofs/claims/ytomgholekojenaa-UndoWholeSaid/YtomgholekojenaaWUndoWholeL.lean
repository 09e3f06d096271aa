/- The Go functions of group WUndoWhole compute the pure functions of that group: written by walkgen.py. Condition of each: the pure function yields a result. -/
import Derived.Test.YtomgholekojenaaStepL
import Derived.Test.YtomgholekojenaaClear
import Derived.Test.YtomgholekojenaaWUndoWholeF
import Derived.Test.YtomgholekojenaaEqL
namespace Go.Proofs.Ytomgholekojenaa
set_option linter.unusedVariables false

set_option maxRecDepth 100000 in
set_option maxHeartbeats 4000000 in
theorem annalkeep_UndoWhole_l (F : Nat) (p0 : DDisk) (p1 : ByteArray) (p2 : (List DWrite)) (p3 : Int) (p4 : (List Bool)) (r : Bool) (hF : annalkeep_UndoWhole F p0 p1 p2 p3 p4 = some r) (w : World) (A1 : Option Addr) (c1 : Nat) (hs1 : SlOk (vw w) eStr A1 c1 p0.pages) (A2 : Option Addr) (c2 : Nat) (hs2 : SlOk (vw w) eWrite A2 c2 p0.writes) (A3 : Option Addr) (c3 : Nat) (hs3 : SlOk (vw w) eWrite A3 c3 p2) (A4 : Option Addr) (c4 : Nat) (hs4 : SlOk (vw w) eBool A4 c4 p4) :
    Calls Try.prog 8 #[.agg #[.slice A1 p0.pages.length c1, .slice A2 p0.writes.length c2], .string p1, .slice A3 p2.length c3, .int .i64 p3, .slice A4 p4.length c4] w (Post (vSc eBool) r w) := by
  unfold annalkeep_UndoWhole at hF
  refine T.start (l := [.agg #[.slice A1 p0.pages.length c1, .slice A2 p0.writes.length c2], .string p1, .slice A3 p2.length c3, .int .i64 p3, .slice A4 p4.length c4]) Try.func8 rfl rfl rfl ?_
  refine T.seq ?_
  refine T.region ?_
  refine T.step (W1.new 25 [.slice A1 p0.pages.length c1, .slice A2 p0.writes.length c2] (fun b => .pointer (some ⟨b, 0, none⟩)) (by kernel_rfl) (fun _ => by kernel_rfl) (fun b1 => ?_))
  refine T.pure (.bool false) (by kernel_rfl) (fun _ => by kernel_rfl) ?_
  refine T.nil ?_
  refine T.seq ?_
  refine T.region ?_
  obtain ⟨r1, hb1, hF⟩ := Option.bind_eq_some_iff.1 hF
  refine T.step (W1.call (vT2 (vSc eStr) (vSc eInt)) r1 17 #[.int .i64 0, .string (ByteArray.mk #[])] (by kernel_rfl) (fun _ => by kernel_rfl) (fun w' hh => undo_Head_l F 0 (ByteArray.mk #[]) r1 hb1 w' ) ?_)
  intro u V1 hV1 hu
  obtain rfl := (Sure.t2 sureStr sureInt) _ _ _ hu
  refine T.pure (.tuple #[.string r1.1, .int .i64 r1.2]) (by kernel_rfl) (fun _ => by kernel_rfl) ?_
  refine T.pure (.string r1.1) (by kernel_rfl) (fun _ => by kernel_rfl) ?_
  refine T.pure (.int .i64 r1.2) (by kernel_rfl) (fun _ => by kernel_rfl) ?_
  refine T.pure (.string r1.1) (by kernel_rfl) (fun _ => by kernel_rfl) ?_
  refine T.pure (.int .i64 r1.2) (by kernel_rfl) (fun _ => by kernel_rfl) ?_
  refine T.nil ?_
  refine T.seq ?_
  refine T.region ?_
  obtain ⟨u1, hb2, hF⟩ := Option.bind_eq_some_iff.1 hF
  obtain ⟨ti, hti, hz1, hz2, hz3⟩ := info_parts (P := Try.prog) (e := 9) (z := .string (ByteArray.mk #[])) (size := 1) (bytes := 16) (by kernel_rfl)
  obtain ⟨hb2_n, hb2_r, hb2_m⟩ := makes_some hb2
  refine T.step (W1.make (E := eStr) ((201 : Int).toNat) ((ByteArray.mk #[]) : ByteArray) _ _ .i64 .i64 16 ti _ (by kernel_rfl) rfl (by kernel_rfl) hti hz1 hz2 hz3 (congrArg (Value.int _) hb2_n.symm) (congrArg (Value.int _) hb2_n.symm) (fun _ => rfl) rfl hb2_r hb2_m (fun A5 => ?_))
  refine T.pure (.agg #[.slice A5 ((List.replicate ((201 : Int).toNat) ((ByteArray.mk #[]) : ByteArray)).length) ((201 : Int).toNat), .slice none 0 0]) (by kernel_rfl) (fun _ => by kernel_rfl) ?_
  refine T.step (W1.new 25 [.slice none 0 0, .slice none 0 0] (fun b => .pointer (some ⟨b, 0, none⟩)) (by kernel_rfl) (fun _ => by kernel_rfl) (fun b2 => ?_))
  refine T.step (W1.store 0 [.slice A5 ((List.replicate ((201 : Int).toNat) ((ByteArray.mk #[]) : ByteArray)).length) ((201 : Int).toNat), .slice none 0 0] [box b2 25 [.slice A5 ((List.replicate ((201 : Int).toNat) ((ByteArray.mk #[]) : ByteArray)).length) ((201 : Int).toNat), .slice none 0 0], row 9 eStr A5 ((201 : Int).toNat) (List.replicate ((201 : Int).toNat) ((ByteArray.mk #[]) : ByteArray)), box b1 25 [.slice A1 p0.pages.length c1, .slice A2 p0.writes.length c2]] (by rfl) rfl (by kernel_rfl) (fun w' hw => exec_store (vs := [.slice A5 ((List.replicate ((201 : Int).toNat) ((ByteArray.mk #[]) : ByteArray)).length) ((201 : Int).toNat), .slice none 0 0]) rfl rfl rfl rfl (by kernel_rfl) (one_of rfl) (by simp) rfl hw) ?_)
  refine T.nil ?_
  refine T.seq ?_
  refine T.region ?_
  refine T.pure (.pointer (some ⟨b2, 0, none⟩)) (by kernel_rfl) (fun _ => by kernel_rfl) ?_
  refine T.look (.slice A5 ((List.replicate ((201 : Int).toNat) ((ByteArray.mk #[]) : ByteArray)).length) ((201 : Int).toNat)) (by kernel_rfl) (fun w' hh => exec_load1 rfl rfl (by kernel_rfl) (hh.cellBox (i := 0) (by rfl) 0)) ?_
  refine T.pure (.string r1.1) (by kernel_rfl) (fun _ => by kernel_rfl) ?_
  obtain ⟨e1, hb3, hF⟩ := Option.bind_eq_some_iff.1 hF
  obtain ⟨hi1, hi2, hi3⟩ := idx_some hb3
  refine T.look (.pointer (some ((sadr A5).add (((0 : Int).toNat) * 1)))) (by kernel_rfl) (fun w' hh => exec_indexAddr (e := 9) (s := 1) rfl rfl rfl (by kernel_rfl) (by kernel_rfl) hi1 hi2 ((hh.row_slOk (i := 1) (by rfl)).some_ hi3 (by decide))) ?_
  refine T.step (W1.storeRow (E := eStr) 1 ((0 : Int).toNat) 0 e1 r1.1 _ (vs := [.string r1.1]) (by rfl) (by kernel_rfl) rfl rfl (addr_add0 _).symm rfl rfl (fun _ => by kernel_rfl) (one_of rfl) hi3 (Nat.le_of_ble_eq_true (by kernel_rfl)) (fun _ _ h => by cases h; rfl) ?_)
  refine T.reslot 32 (.slice A5 (((List.replicate ((201 : Int).toNat) ((ByteArray.mk #[]) : ByteArray)).set ((0 : Int).toNat) r1.1).length) ((201 : Int).toNat)) rfl (by simp only [List.length_set]) ?_
  refine T.reslot 33 (.agg #[.slice A5 (((List.replicate ((201 : Int).toNat) ((ByteArray.mk #[]) : ByteArray)).set ((0 : Int).toNat) r1.1).length) ((201 : Int).toNat), .slice none 0 0]) rfl (by simp only [List.length_set]) ?_
  refine T.reslot 35 (.slice A5 (((List.replicate ((201 : Int).toNat) ((ByteArray.mk #[]) : ByteArray)).set ((0 : Int).toNat) r1.1).length) ((201 : Int).toNat)) rfl (by simp only [List.length_set]) ?_
  refine T.reH (H' := [box b2 25 [.slice A5 (((List.replicate ((201 : Int).toNat) ((ByteArray.mk #[]) : ByteArray)).set ((0 : Int).toNat) r1.1).length) ((201 : Int).toNat), .slice none 0 0], row 9 eStr A5 ((201 : Int).toNat) ((List.replicate ((201 : Int).toNat) ((ByteArray.mk #[]) : ByteArray)).set ((0 : Int).toNat) r1.1), box b1 25 [.slice A1 p0.pages.length c1, .slice A2 p0.writes.length c2]]) (by first | (simp only [List.length_set]; done) | (simp only [List.length_set]; rfl)) ?_
  refine T.nil ?_
  refine T.seq ?_
  refine T.seq ?_
  refine T.region ?_
  refine T.look (.agg #[.slice A5 (((List.replicate ((201 : Int).toNat) ((ByteArray.mk #[]) : ByteArray)).set ((0 : Int).toNat) r1.1).length) ((201 : Int).toNat), .slice none 0 0]) (by kernel_rfl) (fun w' hh => exec_loadN (cs := [.slice A5 (((List.replicate ((201 : Int).toNat) ((ByteArray.mk #[]) : ByteArray)).set ((0 : Int).toNat) r1.1).length) ((201 : Int).toNat), .slice none 0 0]) rfl rfl (by kernel_rfl) (by kernel_rfl) (fun j u hj => (hh.box_at (i := 0) (cs := [.slice A5 (((List.replicate ((201 : Int).toNat) ((ByteArray.mk #[]) : ByteArray)).set ((0 : Int).toNat) r1.1).length) ((201 : Int).toNat), .slice none 0 0]) (by rfl) 0 j).trans (seg_at (n := 2) (by rfl) hj))) ?_
  refine T.pure (.agg #[.int .i64 1, .string (ByteArray.mk #[98])]) (by kernel_rfl) (fun _ => by kernel_rfl) ?_
  refine T.step (W1.new 52 [.int .i64 1, .string (ByteArray.mk #[98])] (fun b => .slice (some ⟨b, 0, none⟩) 1 1) (by kernel_rfl) (fun _ => by kernel_rfl) (fun b3 => ?_))
  obtain ⟨r3, hb4, hF⟩ := Option.bind_eq_some_iff.1 hF
  refine T.step (W1.call (vT2 (vSc (eList eDisk)) (vSc eInt)) r3 18 #[.agg #[.slice A5 (((List.replicate ((201 : Int).toNat) ((ByteArray.mk #[]) : ByteArray)).set ((0 : Int).toNat) r1.1).length) ((201 : Int).toNat), .slice none 0 0], .string (ByteArray.mk #[97]), .slice (some ⟨b3, 0, none⟩) 1 1] (by kernel_rfl) (fun _ => by kernel_rfl) (fun w' hh => undo_Steps_l F (DDisk.mk ((List.replicate ((201 : Int).toNat) ((ByteArray.mk #[]) : ByteArray)).set ((0 : Int).toNat) r1.1) []) (ByteArray.mk #[97]) [(DWrite.mk 1 (ByteArray.mk #[98]))] r3 hb4 w' A5 ((201 : Int).toNat) (hh.row_slOk (i := 2) (by rfl)) none 0 (SlOk.nil _ _) (some ⟨b3, 0, none⟩) 1 (slok_lit (E := eWrite) (f := DWrite.cells) [(DWrite.mk 1 (ByteArray.mk #[98]))] (fun _ _ => rfl) (Nat.le_of_ble_eq_true (by rfl)) (fun j => hh.cellBox (i := 0) (by rfl) j))) ?_)
  intro u V2 hV2 hu
  obtain ⟨u2, u3, rfl, hu1, hu2⟩ := vT2_elim hu
  obtain ⟨A6, c5, rfl, hs5⟩ := vlist_elim hu1
  obtain rfl := sureInt _ _ _ hu2
  refine T.pure (.tuple #[.slice A6 r3.1.length c5, .int .i64 r3.2]) (by kernel_rfl) (fun _ => by kernel_rfl) ?_
  refine T.pure (.slice A6 r3.1.length c5) (by kernel_rfl) (fun _ => by kernel_rfl) ?_
  refine T.pure (.int .i64 r3.2) (by kernel_rfl) (fun _ => by kernel_rfl) ?_
  refine T.pure (.slice A6 r3.1.length c5) (by kernel_rfl) (fun _ => by kernel_rfl) ?_
  refine T.pure (.int .i64 r3.2) (by kernel_rfl) (fun _ => by kernel_rfl) ?_
  refine T.nil ?_
  refine T.cut (fun a w' => Fr 190 [(1, .string p1), (2, .slice A3 p2.length c3), (3, .int .i64 p3), (4, .slice A4 p4.length c4), (5, .pointer (some ⟨b1, 0, none⟩)), (55, .bool ((r1.2 != 0) || ((r3.2 != 0) || ((r3.1.length : Int) != 7))))] a ∧ Hp w V2 [box b1 25 [.slice A1 p0.pages.length c1, .slice A2 p0.writes.length c2]] w') ?_ ?_
  ·
    refine T.region ?_
    refine T.pure (.int .i64 r1.2) (by kernel_rfl) (fun _ => by kernel_rfl) ?_
    refine T.pure (.bool (r1.2 != 0)) (by kernel_rfl) (fun _ => by kernel_rfl) ?_
    refine T.pure (.bool (r1.2 != 0)) (by kernel_rfl) (fun _ => by kernel_rfl) ?_
    cases hg1 : (r1.2 != 0)
    ·
      skip
      refine T.pure (.int .i64 r3.2) (by kernel_rfl) (fun _ => by kernel_rfl) ?_
      refine T.pure (.bool (r3.2 != 0)) (by kernel_rfl) (fun _ => by kernel_rfl) ?_
      refine T.pure (.bool (r3.2 != 0)) (by kernel_rfl) (fun _ => by kernel_rfl) ?_
      refine T.pure (.bool (r3.2 != 0)) (by kernel_rfl) (fun _ => by kernel_rfl) ?_
      cases hg2 : (r3.2 != 0)
      ·
        skip
        refine T.pure (.slice A6 r3.1.length c5) (by kernel_rfl) (fun _ => by kernel_rfl) ?_
        refine T.pure (.int .i64 (r3.1.length : Int)) (by kernel_rfl) (fun _ => by kernel_rfl) ?_
        refine T.pure (.bool ((r3.1.length : Int) != 7)) (by kernel_rfl) (fun _ => by kernel_rfl) ?_
        refine T.pure (.bool ((r3.1.length : Int) != 7)) (by kernel_rfl) (fun _ => by kernel_rfl) ?_
        refine T.nil ?_
        exact fun a w' hf hh => And.intro (((((((Fr.nil hf).pick hf 55 rfl).pick hf 5 rfl).pick hf 4 rfl).pick hf 3 rfl).pick hf 2 rfl).pick hf 1 rfl) (hh.sub (.cons _ (.cons _ (.cons _ (.cons_cons _ List.Sublist.slnil)))))
      ·
        skip
        refine T.pass (by kernel_rfl) (by kernel_rfl) ?_
        refine T.pass (by kernel_rfl) (by kernel_rfl) ?_
        refine T.pass (by kernel_rfl) (by kernel_rfl) ?_
        refine T.pure (.bool true) (by kernel_rfl) (fun _ => by kernel_rfl) ?_
        refine T.nil ?_
        exact fun a w' hf hh => And.intro (((((((Fr.nil hf).pick hf 55 rfl).pick hf 5 rfl).pick hf 4 rfl).pick hf 3 rfl).pick hf 2 rfl).pick hf 1 rfl) (hh.sub (.cons _ (.cons _ (.cons _ (.cons_cons _ List.Sublist.slnil)))))
    ·
      skip
      refine T.pass (by kernel_rfl) (by kernel_rfl) ?_
      refine T.pass (by kernel_rfl) (by kernel_rfl) ?_
      refine T.pure (.bool true) (by kernel_rfl) (fun _ => by kernel_rfl) ?_
      refine T.pure (.bool true) (by kernel_rfl) (fun _ => by kernel_rfl) ?_
      refine T.pass (by kernel_rfl) (by kernel_rfl) ?_
      refine T.pass (by kernel_rfl) (by kernel_rfl) ?_
      refine T.pass (by kernel_rfl) (by kernel_rfl) ?_
      refine T.pure (.bool true) (by kernel_rfl) (fun _ => by kernel_rfl) ?_
      refine T.nil ?_
      exact fun a w' hf hh => And.intro (((((((Fr.nil hf).pick hf 55 rfl).pick hf 5 rfl).pick hf 4 rfl).pick hf 3 rfl).pick hf 2 rfl).pick hf 1 rfl) (hh.sub (.cons _ (.cons _ (.cons _ (.cons_cons _ List.Sublist.slnil)))))
  ·
    rintro a w' ⟨hf, hh⟩
    refine (?_ : T 190 w V2 [box b1 25 [.slice A1 p0.pages.length c1, .slice A2 p0.writes.length c2]] [(1, .string p1), (2, .slice A3 p2.length c3), (3, .int .i64 p3), (4, .slice A4 p4.length c4), (5, .pointer (some ⟨b1, 0, none⟩)), (55, .bool ((r1.2 != 0) || ((r3.2 != 0) || ((r3.1.length : Int) != 7))))] _) a w' hf hh
    clear hf hh
    refine T.cond ((r1.2 != 0) || ((r3.2 != 0) || ((r3.1.length : Int) != 7))) (by kernel_rfl) (by kernel_rfl) (fun hc1 => ?_) (fun hc1 => ?_)
    ·
      rw [hc1, cond_true] at hF
      refine T.seq ?_
      refine T.region ?_
      refine T.pure (.bool false) (by kernel_rfl) (fun _ => by kernel_rfl) ?_
      refine T.nil ?_
      cases hF
      refine T.ret rfl ?_
      exact T.ret1 rfl (ResIs.tmp rfl) fun w' hh => ⟨_, rfl, hh.below, (show _ from rfl)⟩
    ·
      rw [hc1, cond_false] at hF
      refine T.skip_code ?_
      refine T.seq ?_
      refine T.region ?_
      refine T.look (.agg #[.slice A1 p0.pages.length c1, .slice A2 p0.writes.length c2]) (by kernel_rfl) (fun w' hh => exec_loadN (cs := [.slice A1 p0.pages.length c1, .slice A2 p0.writes.length c2]) rfl rfl (by kernel_rfl) (by kernel_rfl) (fun j u hj => (hh.box_at (i := 0) (cs := [.slice A1 p0.pages.length c1, .slice A2 p0.writes.length c2]) (by rfl) 0 j).trans (seg_at (n := 2) (by rfl) hj))) ?_
      obtain ⟨r4, hb5, hF⟩ := Option.bind_eq_some_iff.1 hF
      refine T.step (W1.call (vT2 (vAg eDisk) (vSc eInt)) r4 11 #[.agg #[.slice A1 p0.pages.length c1, .slice A2 p0.writes.length c2]] (by kernel_rfl) (fun _ => by kernel_rfl) (fun w' hh => undo_Recover_l F p0 r4 hb5 w' A1 c1 (SlOk.mono (SlOk.mono hs1 (View.le_trans hV1 hV2)) hh.view) A2 c2 (SlOk.mono (SlOk.mono hs2 (View.le_trans hV1 hV2)) hh.view)) ?_)
      intro u V3 hV3 hu
      obtain ⟨u4, u5, rfl, hu3, hu4⟩ := vT2_elim hu
      obtain ⟨cs1, rfl, hr1⟩ := vagg_elim hu3
      obtain ⟨A7, c6, A8, c7, rfl, hs6, hs7⟩ := hr1
      obtain rfl := sureInt _ _ _ hu4
      refine T.pure (.tuple #[.agg #[.slice A7 r4.1.pages.length c6, .slice A8 r4.1.writes.length c7], .int .i64 r4.2]) (by kernel_rfl) (fun _ => by kernel_rfl) ?_
      refine T.pure (.agg #[.slice A7 r4.1.pages.length c6, .slice A8 r4.1.writes.length c7]) (by kernel_rfl) (fun _ => by kernel_rfl) ?_
      refine T.pure (.int .i64 r4.2) (by kernel_rfl) (fun _ => by kernel_rfl) ?_
      refine T.step (W1.store 0 [.slice A7 r4.1.pages.length c6, .slice A8 r4.1.writes.length c7] [box b1 25 [.slice A7 r4.1.pages.length c6, .slice A8 r4.1.writes.length c7]] (by rfl) rfl (by kernel_rfl) (fun w' hw => exec_store (vs := [.slice A7 r4.1.pages.length c6, .slice A8 r4.1.writes.length c7]) rfl rfl rfl rfl (by kernel_rfl) (one_of rfl) (by simp) rfl hw) ?_)
      refine T.pure (.int .i64 r4.2) (by kernel_rfl) (fun _ => by kernel_rfl) ?_
      refine T.nil ?_
      refine T.seq ?_
      refine T.seq ?_
      refine T.region ?_
      refine T.pure (.int .i64 r4.2) (by kernel_rfl) (fun _ => by kernel_rfl) ?_
      refine T.pure (.bool (r4.2 != 0)) (by kernel_rfl) (fun _ => by kernel_rfl) ?_
      refine T.nil ?_
      refine T.cond (r4.2 != 0) (by kernel_rfl) (by kernel_rfl) (fun hc2 => ?_) (fun hc2 => ?_)
      ·
        rw [hc2, cond_true] at hF
        refine T.seq ?_
        refine T.region ?_
        refine T.pure (.pointer (some ⟨b1, 0, none⟩)) (by kernel_rfl) (fun _ => by kernel_rfl) ?_
        refine T.look (.slice A7 r4.1.pages.length c6) (by kernel_rfl) (fun w' hh => exec_load1 rfl rfl (by kernel_rfl) (hh.cellBox (i := 0) (by rfl) 0)) ?_
        refine T.pure (.int .i64 (r4.1.pages.length : Int)) (by kernel_rfl) (fun _ => by kernel_rfl) ?_
        refine T.pure (.bool ((r4.1.pages.length : Int) == 0)) (by kernel_rfl) (fun _ => by kernel_rfl) ?_
        refine T.pure (.bool ((r4.1.pages.length : Int) == 0)) (by kernel_rfl) (fun _ => by kernel_rfl) ?_
        refine T.nil ?_
        cases hF
        refine T.ret rfl ?_
        exact T.ret1 rfl (ResIs.tmp rfl) fun w' hh => ⟨_, rfl, hh.below, (show _ from rfl)⟩
      ·
        rw [hc2, cond_false] at hF
        refine T.skip_code ?_
        refine T.seq ?_
        refine T.region ?_
        refine T.look (.agg #[.slice A7 r4.1.pages.length c6, .slice A8 r4.1.writes.length c7]) (by kernel_rfl) (fun w' hh => exec_loadN (cs := [.slice A7 r4.1.pages.length c6, .slice A8 r4.1.writes.length c7]) rfl rfl (by kernel_rfl) (by kernel_rfl) (fun j u hj => (hh.box_at (i := 0) (cs := [.slice A7 r4.1.pages.length c6, .slice A8 r4.1.writes.length c7]) (by rfl) 0 j).trans (seg_at (n := 2) (by rfl) hj))) ?_
        obtain ⟨r5, hb6, hF⟩ := Option.bind_eq_some_iff.1 hF
        refine T.step (W1.call (vT3 (vSc eInt) (vSc eStr) (vSc eInt)) r5 19 #[.agg #[.slice A7 r4.1.pages.length c6, .slice A8 r4.1.writes.length c7]] (by kernel_rfl) (fun _ => by kernel_rfl) (fun w' hh => undo_Seq_l F r4.1 r5 hb6 w' A7 c6 (SlOk.mono (SlOk.mono hs6 (View.le_trans (made_le _ _) (View.le_refl _))) hh.view) A8 c7 (SlOk.mono (SlOk.mono hs7 (View.le_trans (made_le _ _) (View.le_refl _))) hh.view)) ?_)
        intro u V4 hV4 hu
        obtain rfl := (Sure.t3 sureInt sureStr sureInt) _ _ _ hu
        refine T.pure (.tuple #[.int .i64 r5.1, .string r5.2.1, .int .i64 r5.2.2]) (by kernel_rfl) (fun _ => by kernel_rfl) ?_
        refine T.pure (.int .i64 r5.1) (by kernel_rfl) (fun _ => by kernel_rfl) ?_
        refine T.pure (.string r5.2.1) (by kernel_rfl) (fun _ => by kernel_rfl) ?_
        refine T.pure (.int .i64 r5.2.2) (by kernel_rfl) (fun _ => by kernel_rfl) ?_
        refine T.pure (.int .i64 r5.1) (by kernel_rfl) (fun _ => by kernel_rfl) ?_
        refine T.pure (.string r5.2.1) (by kernel_rfl) (fun _ => by kernel_rfl) ?_
        refine T.pure (.int .i64 r5.2.2) (by kernel_rfl) (fun _ => by kernel_rfl) ?_
        refine T.nil ?_
        refine T.seq ?_
        refine T.region ?_
        refine T.look (.agg #[.slice A7 r4.1.pages.length c6, .slice A8 r4.1.writes.length c7]) (by kernel_rfl) (fun w' hh => exec_loadN (cs := [.slice A7 r4.1.pages.length c6, .slice A8 r4.1.writes.length c7]) rfl rfl (by kernel_rfl) (by kernel_rfl) (fun j u hj => (hh.box_at (i := 0) (cs := [.slice A7 r4.1.pages.length c6, .slice A8 r4.1.writes.length c7]) (by rfl) 0 j).trans (seg_at (n := 2) (by rfl) hj))) ?_
        refine T.pure (.string p1) (by kernel_rfl) (fun _ => by kernel_rfl) ?_
        refine T.pure (.slice A3 p2.length c3) (by kernel_rfl) (fun _ => by kernel_rfl) ?_
        obtain ⟨r6, hb7, hF⟩ := Option.bind_eq_some_iff.1 hF
        refine T.step (W1.call (vT2 (vSc (eList eDisk)) (vSc eInt)) r6 18 #[.agg #[.slice A7 r4.1.pages.length c6, .slice A8 r4.1.writes.length c7], .string p1, .slice A3 p2.length c3] (by kernel_rfl) (fun _ => by kernel_rfl) (fun w' hh => undo_Steps_l F r4.1 p1 p2 r6 hb7 w' A7 c6 (SlOk.mono (SlOk.mono hs6 (View.le_trans (made_le _ _) hV4)) hh.view) A8 c7 (SlOk.mono (SlOk.mono hs7 (View.le_trans (made_le _ _) hV4)) hh.view) A3 c3 (SlOk.mono (SlOk.mono hs3 (View.le_trans (View.le_trans (View.le_trans hV1 hV2) hV3) hV4)) hh.view)) ?_)
        intro u V5 hV5 hu
        obtain ⟨u6, u7, rfl, hu5, hu6⟩ := vT2_elim hu
        obtain ⟨A9, c8, rfl, hs8⟩ := vlist_elim hu5
        obtain rfl := sureInt _ _ _ hu6
        refine T.pure (.tuple #[.slice A9 r6.1.length c8, .int .i64 r6.2]) (by kernel_rfl) (fun _ => by kernel_rfl) ?_
        refine T.pure (.slice A9 r6.1.length c8) (by kernel_rfl) (fun _ => by kernel_rfl) ?_
        refine T.pure (.int .i64 r6.2) (by kernel_rfl) (fun _ => by kernel_rfl) ?_
        refine T.pure (.slice A9 r6.1.length c8) (by kernel_rfl) (fun _ => by kernel_rfl) ?_
        refine T.pure (.int .i64 r6.2) (by kernel_rfl) (fun _ => by kernel_rfl) ?_
        refine T.nil ?_
        refine T.seq ?_
        refine T.cut (fun a w' => Fr 190 [(1, .string p1), (2, .slice A3 p2.length c3), (3, .int .i64 p3), (4, .slice A4 p4.length c4), (5, .pointer (some ⟨b1, 0, none⟩)), (16, .int .i64 r5.1), (17, .string r5.2.1), (18, .slice A9 r6.1.length c8), (19, .int .i64 r6.2), (90, .bool ((r5.2.2 != 0) || ((r6.2 != 0) || ((r6.1.length : Int) == 0))))] a ∧ Hp w V5 [box b1 25 [.slice A7 r4.1.pages.length c6, .slice A8 r4.1.writes.length c7]] w') ?_ ?_
        ·
          refine T.region ?_
          refine T.pure (.int .i64 r5.2.2) (by kernel_rfl) (fun _ => by kernel_rfl) ?_
          refine T.pure (.bool (r5.2.2 != 0)) (by kernel_rfl) (fun _ => by kernel_rfl) ?_
          refine T.pure (.bool (r5.2.2 != 0)) (by kernel_rfl) (fun _ => by kernel_rfl) ?_
          cases hg3 : (r5.2.2 != 0)
          ·
            skip
            refine T.pure (.int .i64 r6.2) (by kernel_rfl) (fun _ => by kernel_rfl) ?_
            refine T.pure (.bool (r6.2 != 0)) (by kernel_rfl) (fun _ => by kernel_rfl) ?_
            refine T.pure (.bool (r6.2 != 0)) (by kernel_rfl) (fun _ => by kernel_rfl) ?_
            refine T.pure (.bool (r6.2 != 0)) (by kernel_rfl) (fun _ => by kernel_rfl) ?_
            cases hg4 : (r6.2 != 0)
            ·
              skip
              refine T.pure (.slice A9 r6.1.length c8) (by kernel_rfl) (fun _ => by kernel_rfl) ?_
              refine T.pure (.int .i64 (r6.1.length : Int)) (by kernel_rfl) (fun _ => by kernel_rfl) ?_
              refine T.pure (.bool ((r6.1.length : Int) == 0)) (by kernel_rfl) (fun _ => by kernel_rfl) ?_
              refine T.pure (.bool ((r6.1.length : Int) == 0)) (by kernel_rfl) (fun _ => by kernel_rfl) ?_
              refine T.nil ?_
              exact fun a w' hf hh => And.intro (((((((((((Fr.nil hf).pick hf 90 rfl).pick hf 19 rfl).pick hf 18 rfl).pick hf 17 rfl).pick hf 16 rfl).pick hf 5 rfl).pick hf 4 rfl).pick hf 3 rfl).pick hf 2 rfl).pick hf 1 rfl) (hh.sub (.cons_cons _ List.Sublist.slnil))
            ·
              skip
              refine T.pass (by kernel_rfl) (by kernel_rfl) ?_
              refine T.pass (by kernel_rfl) (by kernel_rfl) ?_
              refine T.pass (by kernel_rfl) (by kernel_rfl) ?_
              refine T.pure (.bool true) (by kernel_rfl) (fun _ => by kernel_rfl) ?_
              refine T.nil ?_
              exact fun a w' hf hh => And.intro (((((((((((Fr.nil hf).pick hf 90 rfl).pick hf 19 rfl).pick hf 18 rfl).pick hf 17 rfl).pick hf 16 rfl).pick hf 5 rfl).pick hf 4 rfl).pick hf 3 rfl).pick hf 2 rfl).pick hf 1 rfl) (hh.sub (.cons_cons _ List.Sublist.slnil))
          ·
            skip
            refine T.pass (by kernel_rfl) (by kernel_rfl) ?_
            refine T.pass (by kernel_rfl) (by kernel_rfl) ?_
            refine T.pure (.bool true) (by kernel_rfl) (fun _ => by kernel_rfl) ?_
            refine T.pure (.bool true) (by kernel_rfl) (fun _ => by kernel_rfl) ?_
            refine T.pass (by kernel_rfl) (by kernel_rfl) ?_
            refine T.pass (by kernel_rfl) (by kernel_rfl) ?_
            refine T.pass (by kernel_rfl) (by kernel_rfl) ?_
            refine T.pure (.bool true) (by kernel_rfl) (fun _ => by kernel_rfl) ?_
            refine T.nil ?_
            exact fun a w' hf hh => And.intro (((((((((((Fr.nil hf).pick hf 90 rfl).pick hf 19 rfl).pick hf 18 rfl).pick hf 17 rfl).pick hf 16 rfl).pick hf 5 rfl).pick hf 4 rfl).pick hf 3 rfl).pick hf 2 rfl).pick hf 1 rfl) (hh.sub (.cons_cons _ List.Sublist.slnil))
        ·
          rintro a w' ⟨hf, hh⟩
          refine (?_ : T 190 w V5 [box b1 25 [.slice A7 r4.1.pages.length c6, .slice A8 r4.1.writes.length c7]] [(1, .string p1), (2, .slice A3 p2.length c3), (3, .int .i64 p3), (4, .slice A4 p4.length c4), (5, .pointer (some ⟨b1, 0, none⟩)), (16, .int .i64 r5.1), (17, .string r5.2.1), (18, .slice A9 r6.1.length c8), (19, .int .i64 r6.2), (90, .bool ((r5.2.2 != 0) || ((r6.2 != 0) || ((r6.1.length : Int) == 0))))] _) a w' hf hh
          clear hf hh
          refine T.cond ((r5.2.2 != 0) || ((r6.2 != 0) || ((r6.1.length : Int) == 0))) (by kernel_rfl) (by kernel_rfl) (fun hc3 => ?_) (fun hc3 => ?_)
          ·
            rw [hc3, cond_true] at hF
            refine T.seq ?_
            refine T.region ?_
            refine T.pure (.int .i64 r6.2) (by kernel_rfl) (fun _ => by kernel_rfl) ?_
            refine T.pure (.bool (r6.2 != 0)) (by kernel_rfl) (fun _ => by kernel_rfl) ?_
            refine T.pure (.bool (r6.2 != 0)) (by kernel_rfl) (fun _ => by kernel_rfl) ?_
            refine T.nil ?_
            cases hF
            refine T.ret rfl ?_
            exact T.ret1 rfl (ResIs.tmp rfl) fun w' hh => ⟨_, rfl, hh.below, (show _ from rfl)⟩
          ·
            rw [hc3, cond_false] at hF
            refine T.skip_code ?_
            refine T.seq ?_
            refine T.region ?_
            refine T.pure (.int .i64 p3) (by kernel_rfl) (fun _ => by kernel_rfl) ?_
            refine T.pure (.slice A9 r6.1.length c8) (by kernel_rfl) (fun _ => by kernel_rfl) ?_
            refine T.pure (.int .i64 (r6.1.length : Int)) (by kernel_rfl) (fun _ => by kernel_rfl) ?_
            obtain ⟨r7, hb8, hF⟩ := Option.bind_eq_some_iff.1 hF
            refine T.step (W1.call (vSc eInt) r7 15 #[.int .i64 p3, .int .i64 (r6.1.length : Int)] (by kernel_rfl) (fun _ => by kernel_rfl) (fun w' hh => annalkeep_Within_l p3 (r6.1.length : Int) r7 hb8 w' ) ?_)
            intro u V6 hV6 hu
            obtain rfl := sureInt _ _ _ hu
            refine T.pure (.int .i64 r7) (by kernel_rfl) (fun _ => by kernel_rfl) ?_
            refine T.nil ?_
            refine T.seq ?_
            refine T.region ?_
            refine T.pure (.slice A9 r6.1.length c8) (by kernel_rfl) (fun _ => by kernel_rfl) ?_
            refine T.pure (.int .i64 r7) (by kernel_rfl) (fun _ => by kernel_rfl) ?_
            obtain ⟨e2, hb9, hF⟩ := Option.bind_eq_some_iff.1 hF
            obtain ⟨hi4, hi5, hi6⟩ := idx_some hb9
            obtain ⟨cs2, hr2, hc4⟩ := SlOk.elem (SlOk.mono hs8 (View.le_trans (made_le _ _) hV6)) hi6
            obtain ⟨A10, c9, A11, c10, rfl, hs9, hs10⟩ := hr2
            refine T.look (.pointer (some ((sadr A9).add (r7.toNat * 2)))) (by kernel_rfl) (fun w' hh => exec_indexAddr (e := 25) (s := 2) rfl rfl rfl (by kernel_rfl) (by kernel_rfl) hi4 hi5 ((SlOk.mono hs8 (View.le_trans (made_le _ _) hV6)).some_ hi6 (by decide))) ?_
            refine T.look (.agg #[.slice A10 e2.pages.length c9, .slice A11 e2.writes.length c10]) (by kernel_rfl) (fun w' hh => exec_loadN (cs := [.slice A10 e2.pages.length c9, .slice A11 e2.writes.length c10]) rfl rfl (by kernel_rfl) (by kernel_rfl) (fun j u hj => hh.cell_view (View.cell_mono (View.le_refl _) (hc4 j u hj).2))) ?_
            refine T.pure (.slice A4 p4.length c4) (by kernel_rfl) (fun _ => by kernel_rfl) ?_
            obtain ⟨r8, hb10, hF⟩ := Option.bind_eq_some_iff.1 hF
            refine T.step (W1.call (vT2 (vAg eDisk) (vSc eInt)) r8 12 #[.agg #[.slice A10 e2.pages.length c9, .slice A11 e2.writes.length c10], .slice A4 p4.length c4] (by kernel_rfl) (fun _ => by kernel_rfl) (fun w' hh => disk_Crash_l F e2 p4 r8 hb10 w' A10 c9 (SlOk.mono hs9 hh.view) A11 c10 (SlOk.mono hs10 hh.view) A4 c4 (SlOk.mono (SlOk.mono hs4 (View.le_trans (View.le_trans (View.le_trans (View.le_trans (View.le_trans hV1 hV2) hV3) hV4) hV5) hV6)) hh.view)) ?_)
            intro u V7 hV7 hu
            obtain ⟨u8, u9, rfl, hu7, hu8⟩ := vT2_elim hu
            obtain ⟨cs3, rfl, hr3⟩ := vagg_elim hu7
            obtain ⟨A12, c11, A13, c12, rfl, hs11, hs12⟩ := hr3
            obtain rfl := sureInt _ _ _ hu8
            refine T.pure (.tuple #[.agg #[.slice A12 r8.1.pages.length c11, .slice A13 r8.1.writes.length c12], .int .i64 r8.2]) (by kernel_rfl) (fun _ => by kernel_rfl) ?_
            refine T.pure (.agg #[.slice A12 r8.1.pages.length c11, .slice A13 r8.1.writes.length c12]) (by kernel_rfl) (fun _ => by kernel_rfl) ?_
            refine T.pure (.int .i64 r8.2) (by kernel_rfl) (fun _ => by kernel_rfl) ?_
            refine T.step (W1.new 25 [.slice none 0 0, .slice none 0 0] (fun b => .pointer (some ⟨b, 0, none⟩)) (by kernel_rfl) (fun _ => by kernel_rfl) (fun b4 => ?_))
            refine T.step (W1.store 0 [.slice A12 r8.1.pages.length c11, .slice A13 r8.1.writes.length c12] [box b4 25 [.slice A12 r8.1.pages.length c11, .slice A13 r8.1.writes.length c12], box b1 25 [.slice A7 r4.1.pages.length c6, .slice A8 r4.1.writes.length c7]] (by rfl) rfl (by kernel_rfl) (fun w' hw => exec_store (vs := [.slice A12 r8.1.pages.length c11, .slice A13 r8.1.writes.length c12]) rfl rfl rfl rfl (by kernel_rfl) (one_of rfl) (by simp) rfl hw) ?_)
            refine T.pure (.int .i64 r8.2) (by kernel_rfl) (fun _ => by kernel_rfl) ?_
            refine T.nil ?_
            refine T.seq ?_
            refine T.seq ?_
            refine T.region ?_
            refine T.pure (.int .i64 r8.2) (by kernel_rfl) (fun _ => by kernel_rfl) ?_
            refine T.pure (.bool (r8.2 != 0)) (by kernel_rfl) (fun _ => by kernel_rfl) ?_
            refine T.nil ?_
            refine T.cond (r8.2 != 0) (by kernel_rfl) (by kernel_rfl) (fun hc5 => ?_) (fun hc5 => ?_)
            ·
              rw [hc5, cond_true] at hF
              refine T.seq ?_
              refine T.region ?_
              refine T.pure (.bool false) (by kernel_rfl) (fun _ => by kernel_rfl) ?_
              refine T.nil ?_
              cases hF
              refine T.ret rfl ?_
              exact T.ret1 rfl (ResIs.tmp rfl) fun w' hh => ⟨_, rfl, hh.below, (show _ from rfl)⟩
            ·
              rw [hc5, cond_false] at hF
              refine T.skip_code ?_
              refine T.seq ?_
              refine T.region ?_
              refine T.look (.agg #[.slice A12 r8.1.pages.length c11, .slice A13 r8.1.writes.length c12]) (by kernel_rfl) (fun w' hh => exec_loadN (cs := [.slice A12 r8.1.pages.length c11, .slice A13 r8.1.writes.length c12]) rfl rfl (by kernel_rfl) (by kernel_rfl) (fun j u hj => (hh.box_at (i := 0) (cs := [.slice A12 r8.1.pages.length c11, .slice A13 r8.1.writes.length c12]) (by rfl) 0 j).trans (seg_at (n := 2) (by rfl) hj))) ?_
              obtain ⟨r9, hb11, hF⟩ := Option.bind_eq_some_iff.1 hF
              refine T.step (W1.call (vT2 (vAg eDisk) (vSc eInt)) r9 11 #[.agg #[.slice A12 r8.1.pages.length c11, .slice A13 r8.1.writes.length c12]] (by kernel_rfl) (fun _ => by kernel_rfl) (fun w' hh => undo_Recover_l F r8.1 r9 hb11 w' A12 c11 (SlOk.mono (SlOk.mono hs11 (View.le_trans (made_le _ _) (View.le_refl _))) hh.view) A13 c12 (SlOk.mono (SlOk.mono hs12 (View.le_trans (made_le _ _) (View.le_refl _))) hh.view)) ?_)
              intro u V8 hV8 hu
              obtain ⟨u10, u11, rfl, hu9, hu10⟩ := vT2_elim hu
              obtain ⟨cs4, rfl, hr4⟩ := vagg_elim hu9
              obtain ⟨A14, c13, A15, c14, rfl, hs13, hs14⟩ := hr4
              obtain rfl := sureInt _ _ _ hu10
              refine T.pure (.tuple #[.agg #[.slice A14 r9.1.pages.length c13, .slice A15 r9.1.writes.length c14], .int .i64 r9.2]) (by kernel_rfl) (fun _ => by kernel_rfl) ?_
              refine T.pure (.agg #[.slice A14 r9.1.pages.length c13, .slice A15 r9.1.writes.length c14]) (by kernel_rfl) (fun _ => by kernel_rfl) ?_
              refine T.pure (.int .i64 r9.2) (by kernel_rfl) (fun _ => by kernel_rfl) ?_
              refine T.step (W1.new 25 [.slice none 0 0, .slice none 0 0] (fun b => .pointer (some ⟨b, 0, none⟩)) (by kernel_rfl) (fun _ => by kernel_rfl) (fun b5 => ?_))
              refine T.step (W1.store 0 [.slice A14 r9.1.pages.length c13, .slice A15 r9.1.writes.length c14] [box b5 25 [.slice A14 r9.1.pages.length c13, .slice A15 r9.1.writes.length c14], box b4 25 [.slice A12 r8.1.pages.length c11, .slice A13 r8.1.writes.length c12], box b1 25 [.slice A7 r4.1.pages.length c6, .slice A8 r4.1.writes.length c7]] (by rfl) rfl (by kernel_rfl) (fun w' hw => exec_store (vs := [.slice A14 r9.1.pages.length c13, .slice A15 r9.1.writes.length c14]) rfl rfl rfl rfl (by kernel_rfl) (one_of rfl) (by simp) rfl hw) ?_)
              refine T.pure (.int .i64 r9.2) (by kernel_rfl) (fun _ => by kernel_rfl) ?_
              refine T.nil ?_
              refine T.seq ?_
              refine T.region ?_
              refine T.look (.agg #[.slice A14 r9.1.pages.length c13, .slice A15 r9.1.writes.length c14]) (by kernel_rfl) (fun w' hh => exec_loadN (cs := [.slice A14 r9.1.pages.length c13, .slice A15 r9.1.writes.length c14]) rfl rfl (by kernel_rfl) (by kernel_rfl) (fun j u hj => (hh.box_at (i := 0) (cs := [.slice A14 r9.1.pages.length c13, .slice A15 r9.1.writes.length c14]) (by rfl) 0 j).trans (seg_at (n := 2) (by rfl) hj))) ?_
              obtain ⟨r10, hb12, hF⟩ := Option.bind_eq_some_iff.1 hF
              refine T.step (W1.call (vT3 (vSc eInt) (vSc eStr) (vSc eInt)) r10 19 #[.agg #[.slice A14 r9.1.pages.length c13, .slice A15 r9.1.writes.length c14]] (by kernel_rfl) (fun _ => by kernel_rfl) (fun w' hh => undo_Seq_l F r9.1 r10 hb12 w' A14 c13 (SlOk.mono (SlOk.mono hs13 (View.le_trans (made_le _ _) (View.le_refl _))) hh.view) A15 c14 (SlOk.mono (SlOk.mono hs14 (View.le_trans (made_le _ _) (View.le_refl _))) hh.view)) ?_)
              intro u V9 hV9 hu
              obtain rfl := (Sure.t3 sureInt sureStr sureInt) _ _ _ hu
              refine T.pure (.tuple #[.int .i64 r10.1, .string r10.2.1, .int .i64 r10.2.2]) (by kernel_rfl) (fun _ => by kernel_rfl) ?_
              refine T.pure (.int .i64 r10.1) (by kernel_rfl) (fun _ => by kernel_rfl) ?_
              refine T.pure (.string r10.2.1) (by kernel_rfl) (fun _ => by kernel_rfl) ?_
              refine T.pure (.int .i64 r10.2.2) (by kernel_rfl) (fun _ => by kernel_rfl) ?_
              refine T.pure (.int .i64 r10.1) (by kernel_rfl) (fun _ => by kernel_rfl) ?_
              refine T.pure (.string r10.2.1) (by kernel_rfl) (fun _ => by kernel_rfl) ?_
              refine T.pure (.int .i64 r10.2.2) (by kernel_rfl) (fun _ => by kernel_rfl) ?_
              refine T.nil ?_
              refine T.seq ?_
              refine T.cut (fun a w' => Fr 190 [(1, .string p1), (2, .slice A3 p2.length c3), (3, .int .i64 r7), (5, .pointer (some ⟨b1, 0, none⟩)), (16, .int .i64 r5.1), (17, .string r5.2.1), (18, .slice A9 r6.1.length c8), (21, .pointer (some ⟨b5, 0, none⟩)), (22, .int .i64 r10.1), (23, .string r10.2.1), (133, .bool ((r9.2 != 0) || ((r10.2.2 != 0) || ((r9.1.pages.length : Int) != (r4.1.pages.length : Int)))))] a ∧ Hp w V9 [box b5 25 [.slice A14 r9.1.pages.length c13, .slice A15 r9.1.writes.length c14], box b1 25 [.slice A7 r4.1.pages.length c6, .slice A8 r4.1.writes.length c7]] w') ?_ ?_
              ·
                refine T.region ?_
                refine T.pure (.int .i64 r9.2) (by kernel_rfl) (fun _ => by kernel_rfl) ?_
                refine T.pure (.bool (r9.2 != 0)) (by kernel_rfl) (fun _ => by kernel_rfl) ?_
                refine T.pure (.bool (r9.2 != 0)) (by kernel_rfl) (fun _ => by kernel_rfl) ?_
                cases hg5 : (r9.2 != 0)
                ·
                  skip
                  refine T.pure (.int .i64 r10.2.2) (by kernel_rfl) (fun _ => by kernel_rfl) ?_
                  refine T.pure (.bool (r10.2.2 != 0)) (by kernel_rfl) (fun _ => by kernel_rfl) ?_
                  refine T.pure (.bool (r10.2.2 != 0)) (by kernel_rfl) (fun _ => by kernel_rfl) ?_
                  refine T.pure (.bool (r10.2.2 != 0)) (by kernel_rfl) (fun _ => by kernel_rfl) ?_
                  cases hg6 : (r10.2.2 != 0)
                  ·
                    skip
                    refine T.pure (.pointer (some ⟨b5, 0, none⟩)) (by kernel_rfl) (fun _ => by kernel_rfl) ?_
                    refine T.look (.slice A14 r9.1.pages.length c13) (by kernel_rfl) (fun w' hh => exec_load1 rfl rfl (by kernel_rfl) (hh.cellBox (i := 0) (by rfl) 0)) ?_
                    refine T.pure (.int .i64 (r9.1.pages.length : Int)) (by kernel_rfl) (fun _ => by kernel_rfl) ?_
                    refine T.pure (.pointer (some ⟨b1, 0, none⟩)) (by kernel_rfl) (fun _ => by kernel_rfl) ?_
                    refine T.look (.slice A7 r4.1.pages.length c6) (by kernel_rfl) (fun w' hh => exec_load1 rfl rfl (by kernel_rfl) (hh.cellBox (i := 2) (by rfl) 0)) ?_
                    refine T.pure (.int .i64 (r4.1.pages.length : Int)) (by kernel_rfl) (fun _ => by kernel_rfl) ?_
                    refine T.pure (.bool ((r9.1.pages.length : Int) != (r4.1.pages.length : Int))) (by kernel_rfl) (fun _ => by kernel_rfl) ?_
                    refine T.pure (.bool ((r9.1.pages.length : Int) != (r4.1.pages.length : Int))) (by kernel_rfl) (fun _ => by kernel_rfl) ?_
                    refine T.nil ?_
                    exact fun a w' hf hh => And.intro ((((((((((((Fr.nil hf).pick hf 133 rfl).pick hf 23 rfl).pick hf 22 rfl).pick hf 21 rfl).pick hf 18 rfl).pick hf 17 rfl).pick hf 16 rfl).pick hf 5 rfl).pick hf 3 rfl).pick hf 2 rfl).pick hf 1 rfl) (hh.sub (.cons_cons _ (.cons _ (.cons_cons _ List.Sublist.slnil))))
                  ·
                    skip
                    refine T.pass (by kernel_rfl) (by kernel_rfl) ?_
                    refine T.pass (by kernel_rfl) (by kernel_rfl) ?_
                    refine T.pass (by kernel_rfl) (by kernel_rfl) ?_
                    refine T.pass (by kernel_rfl) (by kernel_rfl) ?_
                    refine T.pass (by kernel_rfl) (by kernel_rfl) ?_
                    refine T.pass (by kernel_rfl) (by kernel_rfl) ?_
                    refine T.pass (by kernel_rfl) (by kernel_rfl) ?_
                    refine T.pure (.bool true) (by kernel_rfl) (fun _ => by kernel_rfl) ?_
                    refine T.nil ?_
                    exact fun a w' hf hh => And.intro ((((((((((((Fr.nil hf).pick hf 133 rfl).pick hf 23 rfl).pick hf 22 rfl).pick hf 21 rfl).pick hf 18 rfl).pick hf 17 rfl).pick hf 16 rfl).pick hf 5 rfl).pick hf 3 rfl).pick hf 2 rfl).pick hf 1 rfl) (hh.sub (.cons_cons _ (.cons _ (.cons_cons _ List.Sublist.slnil))))
                ·
                  skip
                  refine T.pass (by kernel_rfl) (by kernel_rfl) ?_
                  refine T.pass (by kernel_rfl) (by kernel_rfl) ?_
                  refine T.pure (.bool true) (by kernel_rfl) (fun _ => by kernel_rfl) ?_
                  refine T.pure (.bool true) (by kernel_rfl) (fun _ => by kernel_rfl) ?_
                  refine T.pass (by kernel_rfl) (by kernel_rfl) ?_
                  refine T.pass (by kernel_rfl) (by kernel_rfl) ?_
                  refine T.pass (by kernel_rfl) (by kernel_rfl) ?_
                  refine T.pass (by kernel_rfl) (by kernel_rfl) ?_
                  refine T.pass (by kernel_rfl) (by kernel_rfl) ?_
                  refine T.pass (by kernel_rfl) (by kernel_rfl) ?_
                  refine T.pass (by kernel_rfl) (by kernel_rfl) ?_
                  refine T.pure (.bool true) (by kernel_rfl) (fun _ => by kernel_rfl) ?_
                  refine T.nil ?_
                  exact fun a w' hf hh => And.intro ((((((((((((Fr.nil hf).pick hf 133 rfl).pick hf 23 rfl).pick hf 22 rfl).pick hf 21 rfl).pick hf 18 rfl).pick hf 17 rfl).pick hf 16 rfl).pick hf 5 rfl).pick hf 3 rfl).pick hf 2 rfl).pick hf 1 rfl) (hh.sub (.cons_cons _ (.cons _ (.cons_cons _ List.Sublist.slnil))))
              ·
                rintro a w' ⟨hf, hh⟩
                refine (?_ : T 190 w V9 [box b5 25 [.slice A14 r9.1.pages.length c13, .slice A15 r9.1.writes.length c14], box b1 25 [.slice A7 r4.1.pages.length c6, .slice A8 r4.1.writes.length c7]] [(1, .string p1), (2, .slice A3 p2.length c3), (3, .int .i64 r7), (5, .pointer (some ⟨b1, 0, none⟩)), (16, .int .i64 r5.1), (17, .string r5.2.1), (18, .slice A9 r6.1.length c8), (21, .pointer (some ⟨b5, 0, none⟩)), (22, .int .i64 r10.1), (23, .string r10.2.1), (133, .bool ((r9.2 != 0) || ((r10.2.2 != 0) || ((r9.1.pages.length : Int) != (r4.1.pages.length : Int)))))] _) a w' hf hh
                clear hf hh
                refine T.cond ((r9.2 != 0) || ((r10.2.2 != 0) || ((r9.1.pages.length : Int) != (r4.1.pages.length : Int)))) (by kernel_rfl) (by kernel_rfl) (fun hc6 => ?_) (fun hc6 => ?_)
                ·
                  rw [hc6, cond_true] at hF
                  refine T.seq ?_
                  refine T.region ?_
                  refine T.pure (.bool false) (by kernel_rfl) (fun _ => by kernel_rfl) ?_
                  refine T.nil ?_
                  cases hF
                  refine T.ret rfl ?_
                  exact T.ret1 rfl (ResIs.tmp rfl) fun w' hh => ⟨_, rfl, hh.below, (show _ from rfl)⟩
                ·
                  rw [hc6, cond_false] at hF
                  refine T.skip_code ?_
                  refine T.seq ?_
                  refine T.region ?_
                  refine T.pure (.pointer (some ⟨b1, 0, none⟩)) (by kernel_rfl) (fun _ => by kernel_rfl) ?_
                  refine T.look (.slice A7 r4.1.pages.length c6) (by kernel_rfl) (fun w' hh => exec_load1 rfl rfl (by kernel_rfl) (hh.cellBox (i := 1) (by rfl) 0)) ?_
                  obtain ⟨s1, hb13, hF⟩ := Option.bind_eq_some_iff.1 hF
                  refine T.look (.slice (cutA A7 c6 (1 : Int).toNat 1) s1.length (c6 - (1 : Int).toNat)) (by kernel_rfl) (fun w' hh => exec_slice_list (e := 9) (s := 1) (lx := (some _)) (hx := (some _)) (k := .i64) (k' := .i64) rfl rfl (by kernel_rfl) (by kernel_rfl) ((SlOk.mono hs6 (View.le_trans (made_le _ _) (View.le_trans (View.le_trans (View.le_trans (View.le_trans (View.le_trans hV4 hV5) hV6) hV7) hV8) hV9)))).1 rfl rfl hb13) ?_
                  obtain ⟨A16, hA1, hs15⟩ : ∃ A', A' = cutA A7 c6 (1 : Int).toNat 1 ∧ SlOk V9 eStr A' (c6 - (1 : Int).toNat) s1 := ⟨_, rfl, (SlOk.cut (SlOk.mono hs6 (View.le_trans (made_le _ _) (View.le_trans (View.le_trans (View.le_trans (View.le_trans (View.le_trans hV4 hV5) hV6) hV7) hV8) hV9))) hb13)⟩
                  rw [← hA1]
                  obtain ⟨z1, hX1, hF⟩ := Option.bind_eq_some_iff.1 hF
                  refine T.step (W1.within 26 [.slice A16 s1.length (c6 - (1 : Int).toNat)] (fun v w' => ∃ (A17 : Option Addr) (c15 : Nat), v = .slice A17 z1.length c15 ∧ Hp w V9 [row 9 eStr A17 c15 z1, box b5 25 [.slice A14 r9.1.pages.length c13, .slice A15 r9.1.writes.length c14], box b1 25 [.slice A7 r4.1.pages.length c6, .slice A8 r4.1.writes.length c7]] w') Try.func26 rfl rfl (by kernel_rfl) (fun _ => by kernel_rfl) rfl ?_ ?_)
                  ·
                    rcases A16 with _ | a1
                    ·
                      have hn1 : s1 = [] := by
                        cases hc : s1 with
                        | nil => rfl
                        | cons q _ => exact absurd (SlOk.some_ hs15 (k := 0) (x := q) (by rw [hc]; rfl) (by decide)) (by decide)
                      obtain ⟨_, _, hq1⟩ := Option.bind_eq_some_iff.1 hX1
                      rw [hn1] at hq1
                      refine T.seq ?_
                      refine T.region ?_
                      refine T.pure (.slice none 0 0) (by kernel_rfl) (fun _ => by kernel_rfl) ?_
                      refine T.nil ?_
                      refine T.seq ?_
                      refine T.seq ?_
                      refine T.region ?_
                      refine T.pure (.slice none s1.length (c6 - (1 : Int).toNat)) (by kernel_rfl) (fun _ => by kernel_rfl) ?_
                      refine T.pure (.bool true) (by kernel_rfl) (fun _ => by kernel_rfl) ?_
                      refine T.nil ?_
                      refine T.cond true (by kernel_rfl) (by kernel_rfl) (fun _ => ?_) (fun h => Bool.noConfusion h)
                      refine T.seq ?_
                      refine T.region ?_
                      refine T.pure (.slice none 0 0) (by kernel_rfl) (fun _ => by kernel_rfl) ?_
                      refine T.nil ?_
                      refine T.rownil 9 eStr ?_
                      cases hq1
                      refine T.ret rfl ?_
                      repeat first | refine T.unthen ?_ | refine T.unblock ?_
                      exact T.ret1 rfl (ResIs.tmp rfl) fun w' hh => ⟨_, rfl, Exists.intro none (Exists.intro 0 (And.intro rfl (hh.sub (.cons_cons _ (.cons_cons _ (.cons_cons _ List.Sublist.slnil))))))⟩
                    ·
                      refine T.seq ?_
                      refine T.region ?_
                      refine T.pure (.slice none 0 0) (by kernel_rfl) (fun _ => by kernel_rfl) ?_
                      refine T.nil ?_
                      refine T.seq ?_
                      refine T.seq ?_
                      refine T.region ?_
                      refine T.pure (.slice (some a1) s1.length (c6 - (1 : Int).toNat)) (by kernel_rfl) (fun _ => by kernel_rfl) ?_
                      refine T.pure (.bool false) (by kernel_rfl) (fun _ => by kernel_rfl) ?_
                      refine T.nil ?_
                      refine T.cond false (by kernel_rfl) (by kernel_rfl) (fun h => Bool.noConfusion h) (fun _ => ?_)
                      refine T.skip_code ?_
                      refine T.seq ?_
                      refine T.region ?_
                      refine T.step (W1.new 9 [] (fun b => .slice (some ⟨b, 0, none⟩) 0 0) (by kernel_rfl) (fun _ => by kernel_rfl) (fun b6 => ?_))
                      refine T.pure (.slice (some a1) s1.length (c6 - (1 : Int).toNat)) (by kernel_rfl) (fun _ => by kernel_rfl) ?_
                      refine (fun (h : T _ _ _ ((row 9 eStr (some ⟨b6, 0, none⟩) 0 ([] : List ByteArray)) :: _) _ _) => (fun a w' hf hh => h a w' hf (hh.fresh_obj (row 9 eStr (some ⟨b6, 0, none⟩) 0 ([] : List ByteArray)) ⟨rfl, rfl, rfl, Nat.le_refl _, fun _ _ _ => rfl⟩ ⟨Nat.le_refl _, by decide, .inl rfl⟩ (fun b hb => by cases hb)) : T _ _ _ _ _ _)) ?_
                      obtain ⟨y1, hb14, hX1⟩ := Option.bind_eq_some_iff.1 hX1
                      obtain ⟨hb14_r, hb14_m, rfl⟩ := grow_some hb14
                      obtain ⟨ti, hti, hz1, hz2, hz3⟩ := info_parts (P := Try.prog) (e := 9) (z := .string (ByteArray.mk #[])) (size := 1) (bytes := 16) (by kernel_rfl)
                      refine T.step (W1.append (E := eStr) (l := ([] : List ByteArray)) (m := s1) 0 _ _ 16 ti _ (by rfl) (by kernel_rfl) rfl (by kernel_rfl) hti hz1 hz2 hz3 rfl (by decide) rfl rfl (fun w' hh => (SlOk.srcF (SlOk.mono hs15 hh.view) (fun _ _ _ _ h => h))) hb14_r hb14_m (fun A18 c16 => ?_))
                      refine T.pure (.slice A18 ((([] : List ByteArray) ++ s1).length) c16) (by kernel_rfl) (fun _ => by kernel_rfl) ?_
                      refine T.nil ?_
                      cases hX1
                      refine T.ret rfl ?_
                      repeat first | refine T.unthen ?_ | refine T.unblock ?_
                      exact T.ret1 rfl (ResIs.tmp rfl) fun w' hh => ⟨_, rfl, Exists.intro A18 (Exists.intro c16 (And.intro rfl (hh.sub (.cons_cons _ (.cons _ (.cons_cons _ (.cons_cons _ List.Sublist.slnil)))))))⟩
                  ·
                    rintro v w' ⟨A17, c15, rfl, hh⟩
                    refine ⟨V9, [row 9 eStr A17 c15 z1, box b5 25 [.slice A14 r9.1.pages.length c13, .slice A15 r9.1.writes.length c14], box b1 25 [.slice A7 r4.1.pages.length c6, .slice A8 r4.1.writes.length c7]], hh, ?_⟩
                    clear hh
                    refine T.pure (.slice A17 z1.length c15) (by kernel_rfl) (fun _ => by kernel_rfl) ?_
                    refine T.nil ?_
                    obtain ⟨z2, hX2, hF⟩ := Option.bind_eq_some_iff.1 hF
                    refine T.cut (fun a w' => ∃ (A19 : Option Addr) (c17 : Nat), Fr 190 [(1, .string p1), (3, .int .i64 r7), (16, .int .i64 r5.1), (17, .string r5.2.1), (18, .slice A9 r6.1.length c8), (21, .pointer (some ⟨b5, 0, none⟩)), (22, .int .i64 r10.1), (23, .string r10.2.1), (24, .slice A19 z2.length c17)] a ∧ Hp w V9 [row 9 eStr A19 c17 z2, box b5 25 [.slice A14 r9.1.pages.length c13, .slice A15 r9.1.writes.length c14]] w') ?_ ?_
                    ·
                      refine T.seq ?_
                      refine T.region ?_
                      refine T.pure (.int .i64 r10.1) (by kernel_rfl) (fun _ => by kernel_rfl) ?_
                      refine T.pure (.int .i64 r5.1) (by kernel_rfl) (fun _ => by kernel_rfl) ?_
                      refine T.pure (.bool (r10.1 != r5.1)) (by kernel_rfl) (fun _ => by kernel_rfl) ?_
                      refine T.nil ?_
                      refine T.cond (r10.1 != r5.1) (by kernel_rfl) (by kernel_rfl) (fun hc7 => ?_) (fun hc7 => ?_)
                      ·
                        rw [hc7, cond_true] at hX2
                        refine T.seq ?_
                        refine T.region ?_
                        refine T.pure (.slice A3 p2.length c3) (by kernel_rfl) (fun _ => by kernel_rfl) ?_
                        refine T.pure (.int .i64 (p2.length : Int)) (by kernel_rfl) (fun _ => by kernel_rfl) ?_
                        refine T.pure (.int .i64 0) (by kernel_rfl) (fun _ => by kernel_rfl) ?_
                        refine T.nil ?_
                        obtain ⟨z3, hz1, hX2⟩ := Option.bind_eq_some_iff.1 hX2
                        refine T.mid (fun a w' => ∃ (A21 : Option Addr) (c19 : Nat), Fr 190 [(1, .string p1), (3, .int .i64 r7), (16, .int .i64 r5.1), (17, .string r5.2.1), (18, .slice A9 r6.1.length c8), (21, .pointer (some ⟨b5, 0, none⟩)), (22, .int .i64 r10.1), (23, .string r10.2.1), (24, .slice A21 z3.length c19)] a ∧ Hp w V9 [row 9 eStr A21 c19 z3, box b5 25 [.slice A14 r9.1.pages.length c13, .slice A15 r9.1.writes.length c14]] w') ?_ ?_
                        ·
                          refine T.block ?_
                          refine T.iter (fun s2 a w' => ∃ (x1 : List ByteArray) (x2 : Int), s2 = (x1, x2) ∧ ∃ (A20 : Option Addr) (c18 : Nat), Fr 190 [(1, .string p1), (3, .int .i64 r7), (16, .int .i64 r5.1), (17, .string r5.2.1), (18, .slice A9 r6.1.length c8), (21, .pointer (some ⟨b5, 0, none⟩)), (22, .int .i64 r10.1), (23, .string r10.2.1), (24, .slice A20 x1.length c18), (141, .slice A3 p2.length c3), (142, .int .i64 (p2.length : Int)), (143, .int .i64 x2)] a ∧ Hp w V9 [row 9 eStr A20 c18 x1, box b5 25 [.slice A14 r9.1.pages.length c13, .slice A15 r9.1.writes.length c14]] w') hz1 ?_ ?_
                          ·
                            exact fun a w' hf hh => Exists.intro z1 (Exists.intro 0 (And.intro rfl (Exists.intro A17 (Exists.intro c15 (And.intro (((((((((((((Fr.nil hf).pick hf 143 rfl).pick hf 142 rfl).pick hf 141 rfl).pick hf 24 rfl).pick hf 23 rfl).pick hf 22 rfl).pick hf 21 rfl).pick hf 18 rfl).pick hf 17 rfl).pick hf 16 rfl).pick hf 3 rfl).pick hf 1 rfl) (hh.sub (.cons_cons _ (.cons_cons _ (.cons _ List.Sublist.slnil)))))))))
                          ·
                            rintro s2 y2 hY1 hr5 a w' ⟨x1, x2, rfl, A20, c18, hf, hh⟩
                            refine (?_ : T 190 w V9 [row 9 eStr A20 c18 x1, box b5 25 [.slice A14 r9.1.pages.length c13, .slice A15 r9.1.writes.length c14]] [(1, .string p1), (3, .int .i64 r7), (16, .int .i64 r5.1), (17, .string r5.2.1), (18, .slice A9 r6.1.length c8), (21, .pointer (some ⟨b5, 0, none⟩)), (22, .int .i64 r10.1), (23, .string r10.2.1), (24, .slice A20 x1.length c18), (141, .slice A3 p2.length c3), (142, .int .i64 (p2.length : Int)), (143, .int .i64 x2)] _) a w' hf hh
                            clear hf hh
                            try dsimp only at hY1
                            refine T.seq ?_
                            refine T.region ?_
                            refine T.pure (.bool (decide (x2 < (p2.length : Int)))) (by kernel_rfl) (fun _ => by kernel_rfl) ?_
                            refine T.nil ?_
                            refine T.seq ?_
                            refine T.cond (decide (x2 < (p2.length : Int))) (by kernel_rfl) (by kernel_rfl) (fun hc8 => ?_) (fun hc8 => ?_)
                            ·
                              rw [hc8, cond_true] at hY1
                              refine T.skip_code ?_
                              refine T.seq ?_
                              refine T.block ?_
                              refine T.seq ?_
                              refine T.region ?_
                              obtain ⟨e3, hb15, hY1⟩ := Option.bind_eq_some_iff.1 hY1
                              obtain ⟨hi7, hi8, hi9⟩ := idx_some hb15
                              refine T.look (.pointer (some ((sadr A3).add (x2.toNat * 2)))) (by kernel_rfl) (fun w' hh => exec_indexAddr (e := 52) (s := 2) rfl rfl rfl (by kernel_rfl) (by kernel_rfl) hi7 hi8 ((SlOk.mono hs3 (View.le_trans (View.le_trans (View.le_trans (View.le_trans (View.le_trans (View.le_trans (View.le_trans (View.le_trans hV1 hV2) hV3) hV4) hV5) hV6) hV7) hV8) hV9)).some_ hi9 (by decide))) ?_
                              refine T.look (.agg #[.int .i64 e3.page, .string e3.text]) (by kernel_rfl) (fun w' hh => exec_loadN (cs := [.int .i64 e3.page, .string e3.text]) rfl rfl (by kernel_rfl) (by kernel_rfl) (fun j u hj => (hh.cell_view (SlOk.cellF (E := eWrite) (SlOk.mono hs3 (View.le_trans (View.le_trans (View.le_trans (View.le_trans (View.le_trans (View.le_trans (View.le_trans (View.le_trans hV1 hV2) hV3) hV4) hV5) hV6) hV7) hV8) hV9)) hi9 j (fun _ _ _ h => h) hj)))) ?_
                              refine T.step (W1.new 52 [.int .i64 0, .string (ByteArray.mk #[])] (fun b => .pointer (some ⟨b, 0, none⟩)) (by kernel_rfl) (fun _ => by kernel_rfl) (fun b7 => ?_))
                              refine T.step (W1.store 0 [.int .i64 e3.page, .string e3.text] [box b7 52 [.int .i64 e3.page, .string e3.text], row 9 eStr A20 c18 x1, box b5 25 [.slice A14 r9.1.pages.length c13, .slice A15 r9.1.writes.length c14]] (by rfl) rfl (by kernel_rfl) (fun w' hw => exec_store (vs := [.int .i64 e3.page, .string e3.text]) rfl rfl rfl rfl (by kernel_rfl) (one_of rfl) (by simp) rfl hw) ?_)
                              refine T.nil ?_
                              refine T.region ?_
                              refine T.pure (.slice A20 x1.length c18) (by kernel_rfl) (fun _ => by kernel_rfl) ?_
                              refine T.pure (.pointer (some ⟨b7, 0, none⟩)) (by kernel_rfl) (fun _ => by kernel_rfl) ?_
                              refine T.look (.int .i64 e3.page) (by kernel_rfl) (fun w' hh => exec_load1 rfl rfl (by kernel_rfl) (hh.cellBox (i := 0) (by rfl) 0)) ?_
                              refine T.pure (.int .i64 (IntKind.i64.wrap (e3.page - 1))) (by kernel_rfl) (fun _ => by kernel_rfl) ?_
                              refine T.pure (.pointer (some ⟨b7, 1, none⟩)) (by kernel_rfl) (fun _ => by kernel_rfl) ?_
                              refine T.look (.string e3.text) (by kernel_rfl) (fun w' hh => exec_load1 rfl rfl (by kernel_rfl) (hh.cellBox (i := 0) (by rfl) 1)) ?_
                              obtain ⟨e4, hb16, hY1⟩ := Option.bind_eq_some_iff.1 hY1
                              obtain ⟨hi10, hi11, hi12⟩ := idx_some hb16
                              refine T.look (.pointer (some ((sadr A20).add (((IntKind.i64.wrap (e3.page - 1)).toNat) * 1)))) (by kernel_rfl) (fun w' hh => exec_indexAddr (e := 9) (s := 1) rfl rfl rfl (by kernel_rfl) (by kernel_rfl) hi10 hi11 ((hh.row_slOk (i := 1) (by rfl)).some_ hi12 (by decide))) ?_
                              refine T.step (W1.storeRow (E := eStr) 1 ((IntKind.i64.wrap (e3.page - 1)).toNat) 0 e4 e3.text _ (vs := [.string e3.text]) (by rfl) (by kernel_rfl) rfl rfl (addr_add0 _).symm rfl rfl (fun _ => by kernel_rfl) (one_of rfl) hi12 (Nat.le_of_ble_eq_true (by kernel_rfl)) (fun _ _ h => by cases h; rfl) ?_)
                              refine T.reslot 24 (.slice A20 ((x1.set ((IntKind.i64.wrap (e3.page - 1)).toNat) e3.text).length) c18) rfl (by simp only [List.length_set]) ?_
                              refine T.reslot 147 (.slice A20 ((x1.set ((IntKind.i64.wrap (e3.page - 1)).toNat) e3.text).length) c18) rfl (by simp only [List.length_set]) ?_
                              refine T.nil ?_
                              refine T.region ?_
                              refine T.pure (.int .i64 (IntKind.i64.wrap (x2 + 1))) (by kernel_rfl) (fun _ => by kernel_rfl) ?_
                              refine T.pure (.int .i64 (IntKind.i64.wrap (x2 + 1))) (by kernel_rfl) (fun _ => by kernel_rfl) ?_
                              refine T.nil ?_
                              cases hY1
                              exact fun a w' hf hh => Exists.intro ((x1.set ((IntKind.i64.wrap (e3.page - 1)).toNat) e3.text), IntKind.i64.wrap (x2 + 1)) (And.intro rfl (Exists.intro (x1.set ((IntKind.i64.wrap (e3.page - 1)).toNat) e3.text) (Exists.intro (IntKind.i64.wrap (x2 + 1)) (And.intro rfl (Exists.intro A20 (Exists.intro c18 (And.intro (((((((((((((Fr.nil hf).pick hf 143 rfl).pick hf 142 rfl).pick hf 141 rfl).pick hf 24 rfl).pick hf 23 rfl).pick hf 22 rfl).pick hf 21 rfl).pick hf 18 rfl).pick hf 17 rfl).pick hf 16 rfl).pick hf 3 rfl).pick hf 1 rfl) (hh.sub (.cons _ (.cons_cons _ (.cons_cons _ List.Sublist.slnil)))))))))))
                            ·
                              rw [hc8, cond_false] at hY1
                              refine T.exit ?_
                              cases hY1
                              cases (hr5 _ rfl)
                              exact fun a w' hf hh => Exists.intro A20 (Exists.intro c18 (And.intro ((((((((((Fr.nil hf).pick hf 24 rfl).pick hf 23 rfl).pick hf 22 rfl).pick hf 21 rfl).pick hf 18 rfl).pick hf 17 rfl).pick hf 16 rfl).pick hf 3 rfl).pick hf 1 rfl) (hh.sub (.cons_cons _ (.cons_cons _ List.Sublist.slnil)))))
                        ·
                          rintro a w' ⟨A21, c19, hf, hh⟩
                          refine (?_ : T 190 w V9 [row 9 eStr A21 c19 z3, box b5 25 [.slice A14 r9.1.pages.length c13, .slice A15 r9.1.writes.length c14]] [(1, .string p1), (3, .int .i64 r7), (16, .int .i64 r5.1), (17, .string r5.2.1), (18, .slice A9 r6.1.length c8), (21, .pointer (some ⟨b5, 0, none⟩)), (22, .int .i64 r10.1), (23, .string r10.2.1), (24, .slice A21 z3.length c19)] _) a w' hf hh
                          clear hf hh
                          cases hX2
                          exact fun a w' hf hh => Exists.intro A21 (Exists.intro c19 (And.intro ((((((((((Fr.nil hf).pick hf 24 rfl).pick hf 23 rfl).pick hf 22 rfl).pick hf 21 rfl).pick hf 18 rfl).pick hf 17 rfl).pick hf 16 rfl).pick hf 3 rfl).pick hf 1 rfl) (hh.sub (.cons_cons _ (.cons_cons _ List.Sublist.slnil)))))
                      ·
                        rw [hc7, cond_false] at hX2
                        refine T.skip_code ?_
                        cases hX2
                        exact fun a w' hf hh => Exists.intro A17 (Exists.intro c15 (And.intro ((((((((((Fr.nil hf).pick hf 24 rfl).pick hf 23 rfl).pick hf 22 rfl).pick hf 21 rfl).pick hf 18 rfl).pick hf 17 rfl).pick hf 16 rfl).pick hf 3 rfl).pick hf 1 rfl) (hh.sub (.cons_cons _ (.cons_cons _ (.cons _ List.Sublist.slnil))))))
                    ·
                      rintro a w' ⟨A19, c17, hf, hh⟩
                      refine (?_ : T 190 w V9 [row 9 eStr A19 c17 z2, box b5 25 [.slice A14 r9.1.pages.length c13, .slice A15 r9.1.writes.length c14]] [(1, .string p1), (3, .int .i64 r7), (16, .int .i64 r5.1), (17, .string r5.2.1), (18, .slice A9 r6.1.length c8), (21, .pointer (some ⟨b5, 0, none⟩)), (22, .int .i64 r10.1), (23, .string r10.2.1), (24, .slice A19 z2.length c17)] _) a w' hf hh
                      clear hf hh
                      refine T.seq ?_
                      refine T.region ?_
                      refine T.pure (.int .i64 r7) (by kernel_rfl) (fun _ => by kernel_rfl) ?_
                      refine T.pure (.slice A9 r6.1.length c8) (by kernel_rfl) (fun _ => by kernel_rfl) ?_
                      refine T.pure (.int .i64 (r6.1.length : Int)) (by kernel_rfl) (fun _ => by kernel_rfl) ?_
                      refine T.pure (.int .i64 (IntKind.i64.wrap ((r6.1.length : Int) - 1))) (by kernel_rfl) (fun _ => by kernel_rfl) ?_
                      refine T.pure (.bool (r7 == (IntKind.i64.wrap ((r6.1.length : Int) - 1)))) (by kernel_rfl) (fun _ => by kernel_rfl) ?_
                      refine T.pure (.bool (r7 == (IntKind.i64.wrap ((r6.1.length : Int) - 1)))) (by kernel_rfl) (fun _ => by kernel_rfl) ?_
                      refine T.nil ?_
                      obtain ⟨z4, hX3, hF⟩ := Option.bind_eq_some_iff.1 hF
                      refine T.cut (fun a w' => ∃ (V10 : View), View.le V9 V10 ∧ Fr 190 [(10, .bool z4)] a ∧ Hp w V10 [] w') ?_ ?_
                      ·
                        refine T.region ?_
                        refine T.pure (.pointer (some ⟨b5, 0, none⟩)) (by kernel_rfl) (fun _ => by kernel_rfl) ?_
                        refine T.look (.slice A14 r9.1.pages.length c13) (by kernel_rfl) (fun w' hh => exec_load1 rfl rfl (by kernel_rfl) (hh.cellBox (i := 1) (by rfl) 0)) ?_
                        obtain ⟨s3, hb17, hX3⟩ := Option.bind_eq_some_iff.1 hX3
                        refine T.look (.slice (cutA A14 c13 (1 : Int).toNat 1) s3.length (c13 - (1 : Int).toNat)) (by kernel_rfl) (fun w' hh => exec_slice_list (e := 9) (s := 1) (lx := (some _)) (hx := (some _)) (k := .i64) (k' := .i64) rfl rfl (by kernel_rfl) (by kernel_rfl) ((SlOk.mono hs13 (View.le_trans (made_le _ _) hV9))).1 rfl rfl hb17) ?_
                        refine T.pure (.slice A19 z2.length c17) (by kernel_rfl) (fun _ => by kernel_rfl) ?_
                        obtain ⟨r13, hb18, hX3⟩ := Option.bind_eq_some_iff.1 hX3
                        refine T.step (W1.call (vSc eBool) r13 21 #[.slice (cutA A14 c13 (1 : Int).toNat 1) s3.length (c13 - (1 : Int).toNat), .slice A19 z2.length c17] (by kernel_rfl) (fun _ => by kernel_rfl) (fun w' hh => slices_Equal_string_l F s3 z2 r13 hb18 w' (cutA A14 c13 (1 : Int).toNat 1) (c13 - (1 : Int).toNat) (SlOk.cut (SlOk.mono (SlOk.mono hs13 (View.le_trans (made_le _ _) hV9)) hh.view) hb17) A19 c17 (hh.row_slOk (i := 0) (by rfl))) ?_)
                        intro u V11 hV11 hu
                        obtain rfl := sureBool _ _ _ hu
                        refine T.pure (.bool r13) (by kernel_rfl) (fun _ => by kernel_rfl) ?_
                        cases hg7 : r13
                        ·
                          skip
                          rw [hg7, cond_false] at hX3
                          refine T.pass (by kernel_rfl) (by kernel_rfl) ?_
                          refine T.pass (by kernel_rfl) (by kernel_rfl) ?_
                          refine T.pass (by kernel_rfl) (by kernel_rfl) ?_
                          refine T.pass (by kernel_rfl) (by kernel_rfl) ?_
                          refine T.pass (by kernel_rfl) (by kernel_rfl) ?_
                          refine T.pass (by kernel_rfl) (by kernel_rfl) ?_
                          refine T.pass (by kernel_rfl) (by kernel_rfl) ?_
                          refine T.pass (by kernel_rfl) (by kernel_rfl) ?_
                          refine T.pass (by kernel_rfl) (by kernel_rfl) ?_
                          refine T.pass (by kernel_rfl) (by kernel_rfl) ?_
                          refine T.pass (by kernel_rfl) (by kernel_rfl) ?_
                          refine T.pass (by kernel_rfl) (by kernel_rfl) ?_
                          refine T.pass (by kernel_rfl) (by kernel_rfl) ?_
                          refine T.pass (by kernel_rfl) (by kernel_rfl) ?_
                          refine T.pass (by kernel_rfl) (by kernel_rfl) ?_
                          refine T.pass (by kernel_rfl) (by kernel_rfl) ?_
                          refine T.pass (by kernel_rfl) (by kernel_rfl) ?_
                          refine T.pass (by kernel_rfl) (by kernel_rfl) ?_
                          refine T.pass (by kernel_rfl) (by kernel_rfl) ?_
                          refine T.pass (by kernel_rfl) (by kernel_rfl) ?_
                          refine T.pass (by kernel_rfl) (by kernel_rfl) ?_
                          refine T.pass (by kernel_rfl) (by kernel_rfl) ?_
                          refine T.pass (by kernel_rfl) (by kernel_rfl) ?_
                          refine T.pure (.bool false) (by kernel_rfl) (fun _ => by kernel_rfl) ?_
                          refine T.pure (.bool false) (by kernel_rfl) (fun _ => by kernel_rfl) ?_
                          refine T.nil ?_
                          cases hX3
                          exact fun a w' hf hh => Exists.intro V11 (And.intro hV11 (And.intro ((Fr.nil hf).pick hf 10 rfl) (hh.sub (.cons _ (.cons _ List.Sublist.slnil)))))
                        ·
                          skip
                          rw [hg7, cond_true] at hX3
                          refine T.pure (.int .i64 r10.1) (by kernel_rfl) (fun _ => by kernel_rfl) ?_
                          refine T.pure (.int .i64 r5.1) (by kernel_rfl) (fun _ => by kernel_rfl) ?_
                          refine T.pure (.bool (r10.1 == r5.1)) (by kernel_rfl) (fun _ => by kernel_rfl) ?_
                          refine T.pure (.bool (r10.1 == r5.1)) (by kernel_rfl) (fun _ => by kernel_rfl) ?_
                          cases hg8 : (r10.1 == r5.1)
                          ·
                            skip
                            rw [hg8, cond_false] at hX3
                            refine T.pass (by kernel_rfl) (by kernel_rfl) ?_
                            refine T.pass (by kernel_rfl) (by kernel_rfl) ?_
                            refine T.pass (by kernel_rfl) (by kernel_rfl) ?_
                            refine T.pure (.bool false) (by kernel_rfl) (fun _ => by kernel_rfl) ?_
                            refine T.pure (.bool false) (by kernel_rfl) (fun _ => by kernel_rfl) ?_
                            refine T.pass (by kernel_rfl) (by kernel_rfl) ?_
                            refine T.pass (by kernel_rfl) (by kernel_rfl) ?_
                            refine T.pure (.bool false) (by kernel_rfl) (fun _ => by kernel_rfl) ?_
                            refine T.pure (.bool false) (by kernel_rfl) (fun _ => by kernel_rfl) ?_
                            refine T.pure (.int .i64 r10.1) (by kernel_rfl) (fun _ => by kernel_rfl) ?_
                            refine T.pure (.int .i64 r5.1) (by kernel_rfl) (fun _ => by kernel_rfl) ?_
                            refine T.pure (.int .i64 (IntKind.i64.wrap (r5.1 + 1))) (by kernel_rfl) (fun _ => by kernel_rfl) ?_
                            refine T.pure (.bool (r10.1 == (IntKind.i64.wrap (r5.1 + 1)))) (by kernel_rfl) (fun _ => by kernel_rfl) ?_
                            refine T.pure (.bool (r10.1 == (IntKind.i64.wrap (r5.1 + 1)))) (by kernel_rfl) (fun _ => by kernel_rfl) ?_
                            cases hg9 : (r10.1 == (IntKind.i64.wrap (r5.1 + 1)))
                            ·
                              skip
                              rw [hg9, cond_false] at hX3
                              refine T.pass (by kernel_rfl) (by kernel_rfl) ?_
                              refine T.pass (by kernel_rfl) (by kernel_rfl) ?_
                              refine T.pass (by kernel_rfl) (by kernel_rfl) ?_
                              refine T.pure (.bool false) (by kernel_rfl) (fun _ => by kernel_rfl) ?_
                              refine T.pure (.bool false) (by kernel_rfl) (fun _ => by kernel_rfl) ?_
                              refine T.pure (.bool false) (by kernel_rfl) (fun _ => by kernel_rfl) ?_
                              refine T.pure (.bool false) (by kernel_rfl) (fun _ => by kernel_rfl) ?_
                              refine T.nil ?_
                              cases hX3
                              exact fun a w' hf hh => Exists.intro V11 (And.intro hV11 (And.intro ((Fr.nil hf).pick hf 10 rfl) (hh.sub (.cons _ (.cons _ List.Sublist.slnil)))))
                            ·
                              skip
                              rw [hg9, cond_true] at hX3
                              refine T.pure (.string r10.2.1) (by kernel_rfl) (fun _ => by kernel_rfl) ?_
                              refine T.pure (.string p1) (by kernel_rfl) (fun _ => by kernel_rfl) ?_
                              refine T.pure (.bool (seq r10.2.1 p1)) (by kernel_rfl) (fun _ => by kernel_rfl) ?_
                              refine T.pure (.bool (seq r10.2.1 p1)) (by kernel_rfl) (fun _ => by kernel_rfl) ?_
                              refine T.pure (.bool (seq r10.2.1 p1)) (by kernel_rfl) (fun _ => by kernel_rfl) ?_
                              refine T.pure (.bool (seq r10.2.1 p1)) (by kernel_rfl) (fun _ => by kernel_rfl) ?_
                              refine T.pure (.bool (seq r10.2.1 p1)) (by kernel_rfl) (fun _ => by kernel_rfl) ?_
                              refine T.nil ?_
                              cases hX3
                              exact fun a w' hf hh => Exists.intro V11 (And.intro hV11 (And.intro ((Fr.nil hf).pick hf 10 rfl) (hh.sub (.cons _ (.cons _ List.Sublist.slnil)))))
                          ·
                            skip
                            rw [hg8, cond_true] at hX3
                            refine T.pure (.string r10.2.1) (by kernel_rfl) (fun _ => by kernel_rfl) ?_
                            refine T.pure (.string r5.2.1) (by kernel_rfl) (fun _ => by kernel_rfl) ?_
                            refine T.pure (.bool (seq r10.2.1 r5.2.1)) (by kernel_rfl) (fun _ => by kernel_rfl) ?_
                            refine T.pure (.bool (seq r10.2.1 r5.2.1)) (by kernel_rfl) (fun _ => by kernel_rfl) ?_
                            refine T.pure (.bool (seq r10.2.1 r5.2.1)) (by kernel_rfl) (fun _ => by kernel_rfl) ?_
                            cases hg10 : (seq r10.2.1 r5.2.1)
                            ·
                              skip
                              rw [hg10, cond_false] at hX3
                              refine T.pass (by kernel_rfl) (by kernel_rfl) ?_
                              refine T.pass (by kernel_rfl) (by kernel_rfl) ?_
                              refine T.pure (.bool false) (by kernel_rfl) (fun _ => by kernel_rfl) ?_
                              refine T.pure (.bool false) (by kernel_rfl) (fun _ => by kernel_rfl) ?_
                              refine T.pure (.int .i64 r10.1) (by kernel_rfl) (fun _ => by kernel_rfl) ?_
                              refine T.pure (.int .i64 r5.1) (by kernel_rfl) (fun _ => by kernel_rfl) ?_
                              refine T.pure (.int .i64 (IntKind.i64.wrap (r5.1 + 1))) (by kernel_rfl) (fun _ => by kernel_rfl) ?_
                              refine T.pure (.bool (r10.1 == (IntKind.i64.wrap (r5.1 + 1)))) (by kernel_rfl) (fun _ => by kernel_rfl) ?_
                              refine T.pure (.bool (r10.1 == (IntKind.i64.wrap (r5.1 + 1)))) (by kernel_rfl) (fun _ => by kernel_rfl) ?_
                              cases hg11 : (r10.1 == (IntKind.i64.wrap (r5.1 + 1)))
                              ·
                                skip
                                rw [hg11, cond_false] at hX3
                                refine T.pass (by kernel_rfl) (by kernel_rfl) ?_
                                refine T.pass (by kernel_rfl) (by kernel_rfl) ?_
                                refine T.pass (by kernel_rfl) (by kernel_rfl) ?_
                                refine T.pure (.bool false) (by kernel_rfl) (fun _ => by kernel_rfl) ?_
                                refine T.pure (.bool false) (by kernel_rfl) (fun _ => by kernel_rfl) ?_
                                refine T.pure (.bool false) (by kernel_rfl) (fun _ => by kernel_rfl) ?_
                                refine T.pure (.bool false) (by kernel_rfl) (fun _ => by kernel_rfl) ?_
                                refine T.nil ?_
                                cases hX3
                                exact fun a w' hf hh => Exists.intro V11 (And.intro hV11 (And.intro ((Fr.nil hf).pick hf 10 rfl) (hh.sub (.cons _ (.cons _ List.Sublist.slnil)))))
                              ·
                                skip
                                rw [hg11, cond_true] at hX3
                                refine T.pure (.string r10.2.1) (by kernel_rfl) (fun _ => by kernel_rfl) ?_
                                refine T.pure (.string p1) (by kernel_rfl) (fun _ => by kernel_rfl) ?_
                                refine T.pure (.bool (seq r10.2.1 p1)) (by kernel_rfl) (fun _ => by kernel_rfl) ?_
                                refine T.pure (.bool (seq r10.2.1 p1)) (by kernel_rfl) (fun _ => by kernel_rfl) ?_
                                refine T.pure (.bool (seq r10.2.1 p1)) (by kernel_rfl) (fun _ => by kernel_rfl) ?_
                                refine T.pure (.bool (seq r10.2.1 p1)) (by kernel_rfl) (fun _ => by kernel_rfl) ?_
                                refine T.pure (.bool (seq r10.2.1 p1)) (by kernel_rfl) (fun _ => by kernel_rfl) ?_
                                refine T.nil ?_
                                cases hX3
                                exact fun a w' hf hh => Exists.intro V11 (And.intro hV11 (And.intro ((Fr.nil hf).pick hf 10 rfl) (hh.sub (.cons _ (.cons _ List.Sublist.slnil)))))
                            ·
                              skip
                              rw [hg10, cond_true] at hX3
                              refine T.pure (.bool (r7 == (IntKind.i64.wrap ((r6.1.length : Int) - 1)))) (by kernel_rfl) (fun _ => by kernel_rfl) ?_
                              refine T.pure (.bool (!(r7 == (IntKind.i64.wrap ((r6.1.length : Int) - 1))))) (by kernel_rfl) (fun _ => by kernel_rfl) ?_
                              refine T.pure (.bool (!(r7 == (IntKind.i64.wrap ((r6.1.length : Int) - 1))))) (by kernel_rfl) (fun _ => by kernel_rfl) ?_
                              refine T.pure (.bool (!(r7 == (IntKind.i64.wrap ((r6.1.length : Int) - 1))))) (by kernel_rfl) (fun _ => by kernel_rfl) ?_
                              cases hg12 : (!(r7 == (IntKind.i64.wrap ((r6.1.length : Int) - 1))))
                              ·
                                skip
                                rw [hg12, cond_false] at hX3
                                refine T.pure (.int .i64 r10.1) (by kernel_rfl) (fun _ => by kernel_rfl) ?_
                                refine T.pure (.int .i64 r5.1) (by kernel_rfl) (fun _ => by kernel_rfl) ?_
                                refine T.pure (.int .i64 (IntKind.i64.wrap (r5.1 + 1))) (by kernel_rfl) (fun _ => by kernel_rfl) ?_
                                refine T.pure (.bool (r10.1 == (IntKind.i64.wrap (r5.1 + 1)))) (by kernel_rfl) (fun _ => by kernel_rfl) ?_
                                refine T.pure (.bool (r10.1 == (IntKind.i64.wrap (r5.1 + 1)))) (by kernel_rfl) (fun _ => by kernel_rfl) ?_
                                cases hg13 : (r10.1 == (IntKind.i64.wrap (r5.1 + 1)))
                                ·
                                  skip
                                  rw [hg13, cond_false] at hX3
                                  refine T.pass (by kernel_rfl) (by kernel_rfl) ?_
                                  refine T.pass (by kernel_rfl) (by kernel_rfl) ?_
                                  refine T.pass (by kernel_rfl) (by kernel_rfl) ?_
                                  refine T.pure (.bool false) (by kernel_rfl) (fun _ => by kernel_rfl) ?_
                                  refine T.pure (.bool false) (by kernel_rfl) (fun _ => by kernel_rfl) ?_
                                  refine T.pure (.bool false) (by kernel_rfl) (fun _ => by kernel_rfl) ?_
                                  refine T.pure (.bool false) (by kernel_rfl) (fun _ => by kernel_rfl) ?_
                                  refine T.nil ?_
                                  cases hX3
                                  exact fun a w' hf hh => Exists.intro V11 (And.intro hV11 (And.intro ((Fr.nil hf).pick hf 10 rfl) (hh.sub (.cons _ (.cons _ List.Sublist.slnil)))))
                                ·
                                  skip
                                  rw [hg13, cond_true] at hX3
                                  refine T.pure (.string r10.2.1) (by kernel_rfl) (fun _ => by kernel_rfl) ?_
                                  refine T.pure (.string p1) (by kernel_rfl) (fun _ => by kernel_rfl) ?_
                                  refine T.pure (.bool (seq r10.2.1 p1)) (by kernel_rfl) (fun _ => by kernel_rfl) ?_
                                  refine T.pure (.bool (seq r10.2.1 p1)) (by kernel_rfl) (fun _ => by kernel_rfl) ?_
                                  refine T.pure (.bool (seq r10.2.1 p1)) (by kernel_rfl) (fun _ => by kernel_rfl) ?_
                                  refine T.pure (.bool (seq r10.2.1 p1)) (by kernel_rfl) (fun _ => by kernel_rfl) ?_
                                  refine T.pure (.bool (seq r10.2.1 p1)) (by kernel_rfl) (fun _ => by kernel_rfl) ?_
                                  refine T.nil ?_
                                  cases hX3
                                  exact fun a w' hf hh => Exists.intro V11 (And.intro hV11 (And.intro ((Fr.nil hf).pick hf 10 rfl) (hh.sub (.cons _ (.cons _ List.Sublist.slnil)))))
                              ·
                                skip
                                rw [hg12, cond_true] at hX3
                                refine T.pass (by kernel_rfl) (by kernel_rfl) ?_
                                refine T.pass (by kernel_rfl) (by kernel_rfl) ?_
                                refine T.pass (by kernel_rfl) (by kernel_rfl) ?_
                                refine T.pass (by kernel_rfl) (by kernel_rfl) ?_
                                refine T.pass (by kernel_rfl) (by kernel_rfl) ?_
                                refine T.pass (by kernel_rfl) (by kernel_rfl) ?_
                                refine T.pass (by kernel_rfl) (by kernel_rfl) ?_
                                refine T.pass (by kernel_rfl) (by kernel_rfl) ?_
                                refine T.pass (by kernel_rfl) (by kernel_rfl) ?_
                                refine T.pure (.bool true) (by kernel_rfl) (fun _ => by kernel_rfl) ?_
                                refine T.pure (.bool true) (by kernel_rfl) (fun _ => by kernel_rfl) ?_
                                refine T.pure (.bool true) (by kernel_rfl) (fun _ => by kernel_rfl) ?_
                                refine T.nil ?_
                                cases hX3
                                exact fun a w' hf hh => Exists.intro V11 (And.intro hV11 (And.intro ((Fr.nil hf).pick hf 10 rfl) (hh.sub (.cons _ (.cons _ List.Sublist.slnil)))))
                      ·
                        rintro a w' ⟨V10, hV10, hf, hh⟩
                        refine (?_ : T 190 w V10 [] [(10, .bool z4)] _) a w' hf hh
                        clear hf hh
                        cases hF
                        refine T.ret rfl ?_
                        exact T.ret1 rfl (ResIs.tmp rfl) fun w' hh => ⟨_, rfl, hh.below, (show _ from rfl)⟩

end Go.Proofs.Ytomgholekojenaa
