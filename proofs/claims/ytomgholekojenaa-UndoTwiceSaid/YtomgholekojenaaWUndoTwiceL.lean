/- The Go functions of group WUndoTwice compute the pure functions of that group: written by walkgen.py. Condition of each: the pure function yields a result. -/
import Derived.Test.YtomgholekojenaaUndoL
import Derived.Test.YtomgholekojenaaWUndoTwiceF
import Derived.Test.YtomgholekojenaaEqL
namespace Go.Proofs.Ytomgholekojenaa
set_option linter.unusedVariables false

set_option maxRecDepth 100000 in
set_option maxHeartbeats 4000000 in
theorem annalkeep_UndoTwice_l (F : Nat) (p0 : DDisk) (p1 : (List Bool)) (r : Bool) (hF : annalkeep_UndoTwice F p0 p1 = some r) (w : World) (A1 : Option Addr) (c1 : Nat) (hs1 : SlOk (vw w) eStr A1 c1 p0.pages) (A2 : Option Addr) (c2 : Nat) (hs2 : SlOk (vw w) eWrite A2 c2 p0.writes) (A3 : Option Addr) (c3 : Nat) (hs3 : SlOk (vw w) eBool A3 c3 p1) :
    Calls Try.prog 3 #[.agg #[.slice A1 p0.pages.length c1, .slice A2 p0.writes.length c2], .slice A3 p1.length c3] w (Post (vSc eBool) r w) := by
  unfold annalkeep_UndoTwice at hF
  refine T.start (l := [.agg #[.slice A1 p0.pages.length c1, .slice A2 p0.writes.length c2], .slice A3 p1.length c3]) Try.func3 rfl rfl rfl ?_
  refine T.seq ?_
  refine T.region ?_
  refine T.step (W1.new 25 [.slice A1 p0.pages.length c1, .slice A2 p0.writes.length c2] (fun b => .pointer (some ⟨b, 0, none⟩)) (by kernel_rfl) (fun _ => by kernel_rfl) (fun b1 => ?_))
  refine T.pure (.bool false) (by kernel_rfl) (fun _ => by kernel_rfl) ?_
  refine T.nil ?_
  refine T.seq ?_
  refine T.region ?_
  obtain ⟨u1, hb1, hF⟩ := Option.bind_eq_some_iff.1 hF
  obtain ⟨ti, hti, hz1, hz2, hz3⟩ := info_parts (P := Try.prog) (e := 9) (z := .string (ByteArray.mk #[])) (size := 1) (bytes := 16) (by kernel_rfl)
  obtain ⟨hb1_n, hb1_r, hb1_m⟩ := makes_some hb1
  refine T.step (W1.make (E := eStr) ((201 : Int).toNat) ((ByteArray.mk #[]) : ByteArray) _ _ .i64 .i64 16 ti _ (by kernel_rfl) rfl (by kernel_rfl) hti hz1 hz2 hz3 (congrArg (Value.int _) hb1_n.symm) (congrArg (Value.int _) hb1_n.symm) (fun _ => rfl) rfl hb1_r hb1_m (fun A4 => ?_))
  refine T.pure (.agg #[.slice A4 ((List.replicate ((201 : Int).toNat) ((ByteArray.mk #[]) : ByteArray)).length) ((201 : Int).toNat), .slice none 0 0]) (by kernel_rfl) (fun _ => by kernel_rfl) ?_
  refine T.step (W1.new 25 [.slice none 0 0, .slice none 0 0] (fun b => .pointer (some ⟨b, 0, none⟩)) (by kernel_rfl) (fun _ => by kernel_rfl) (fun b2 => ?_))
  refine T.step (W1.store 0 [.slice A4 ((List.replicate ((201 : Int).toNat) ((ByteArray.mk #[]) : ByteArray)).length) ((201 : Int).toNat), .slice none 0 0] [box b2 25 [.slice A4 ((List.replicate ((201 : Int).toNat) ((ByteArray.mk #[]) : ByteArray)).length) ((201 : Int).toNat), .slice none 0 0], row 9 eStr A4 ((201 : Int).toNat) (List.replicate ((201 : Int).toNat) ((ByteArray.mk #[]) : ByteArray)), box b1 25 [.slice A1 p0.pages.length c1, .slice A2 p0.writes.length c2]] (by rfl) rfl (by kernel_rfl) (fun w' hw => exec_store (vs := [.slice A4 ((List.replicate ((201 : Int).toNat) ((ByteArray.mk #[]) : ByteArray)).length) ((201 : Int).toNat), .slice none 0 0]) rfl rfl rfl rfl (by kernel_rfl) (one_of rfl) (by simp) rfl hw) ?_)
  refine T.nil ?_
  refine T.seq ?_
  refine T.seq ?_
  refine T.region ?_
  refine T.look (.agg #[.slice A4 ((List.replicate ((201 : Int).toNat) ((ByteArray.mk #[]) : ByteArray)).length) ((201 : Int).toNat), .slice none 0 0]) (by kernel_rfl) (fun w' hh => exec_loadN (cs := [.slice A4 ((List.replicate ((201 : Int).toNat) ((ByteArray.mk #[]) : ByteArray)).length) ((201 : Int).toNat), .slice none 0 0]) rfl rfl (by kernel_rfl) (by kernel_rfl) (fun j u hj => (hh.box_at (i := 0) (cs := [.slice A4 ((List.replicate ((201 : Int).toNat) ((ByteArray.mk #[]) : ByteArray)).length) ((201 : Int).toNat), .slice none 0 0]) (by rfl) 0 j).trans (seg_at (n := 2) (by rfl) hj))) ?_
  obtain ⟨r2, hb2, hF⟩ := Option.bind_eq_some_iff.1 hF
  refine T.step (W1.call (vT2 (vAg eDisk) (vSc eInt)) r2 11 #[.agg #[.slice A4 ((List.replicate ((201 : Int).toNat) ((ByteArray.mk #[]) : ByteArray)).length) ((201 : Int).toNat), .slice none 0 0]] (by kernel_rfl) (fun _ => by kernel_rfl) (fun w' hh => undo_Recover_l F (DDisk.mk (List.replicate ((201 : Int).toNat) ((ByteArray.mk #[]) : ByteArray)) []) r2 hb2 w' A4 ((201 : Int).toNat) (hh.row_slOk (i := 1) (by rfl)) none 0 (SlOk.nil _ _)) ?_)
  intro u V1 hV1 hu
  obtain ⟨u2, u3, rfl, hu1, hu2⟩ := vT2_elim hu
  obtain ⟨cs1, rfl, hr1⟩ := vagg_elim hu1
  obtain ⟨A5, c4, A6, c5, rfl, hs4, hs5⟩ := hr1
  obtain rfl := sureInt _ _ _ hu2
  refine T.pure (.tuple #[.agg #[.slice A5 r2.1.pages.length c4, .slice A6 r2.1.writes.length c5], .int .i64 r2.2]) (by kernel_rfl) (fun _ => by kernel_rfl) ?_
  refine T.pure (.agg #[.slice A5 r2.1.pages.length c4, .slice A6 r2.1.writes.length c5]) (by kernel_rfl) (fun _ => by kernel_rfl) ?_
  refine T.pure (.int .i64 r2.2) (by kernel_rfl) (fun _ => by kernel_rfl) ?_
  refine T.step (W1.new 25 [.slice none 0 0, .slice none 0 0] (fun b => .pointer (some ⟨b, 0, none⟩)) (by kernel_rfl) (fun _ => by kernel_rfl) (fun b3 => ?_))
  refine T.step (W1.store 0 [.slice A5 r2.1.pages.length c4, .slice A6 r2.1.writes.length c5] [box b3 25 [.slice A5 r2.1.pages.length c4, .slice A6 r2.1.writes.length c5], box b2 25 [.slice A4 ((List.replicate ((201 : Int).toNat) ((ByteArray.mk #[]) : ByteArray)).length) ((201 : Int).toNat), .slice none 0 0], row 9 eStr A4 ((201 : Int).toNat) (List.replicate ((201 : Int).toNat) ((ByteArray.mk #[]) : ByteArray)), box b1 25 [.slice A1 p0.pages.length c1, .slice A2 p0.writes.length c2]] (by rfl) rfl (by kernel_rfl) (fun w' hw => exec_store (vs := [.slice A5 r2.1.pages.length c4, .slice A6 r2.1.writes.length c5]) rfl rfl rfl rfl (by kernel_rfl) (one_of rfl) (by simp) rfl hw) ?_)
  refine T.pure (.int .i64 r2.2) (by kernel_rfl) (fun _ => by kernel_rfl) ?_
  refine T.nil ?_
  refine T.seq ?_
  refine T.region ?_
  refine T.pure (.int .i64 r2.2) (by kernel_rfl) (fun _ => by kernel_rfl) ?_
  refine T.pure (.bool (r2.2 != 11)) (by kernel_rfl) (fun _ => by kernel_rfl) ?_
  refine T.nil ?_
  refine T.cond (r2.2 != 11) (by kernel_rfl) (by kernel_rfl) (fun hc1 => ?_) (fun hc1 => ?_)
  ·
    rw [hc1, cond_true] at hF
    refine T.seq ?_
    refine T.region ?_
    refine T.pure (.bool false) (by kernel_rfl) (fun _ => by kernel_rfl) ?_
    refine T.nil ?_
    cases hF
    refine T.ret rfl ?_
    exact T.ret1 rfl (ResIs.tmp rfl) fun w' hh => ⟨_, rfl, hh.below, (show _ from rfl)⟩
  ·
    rw [hc1, cond_false] at hF
    refine T.skip_code ?_
    refine T.seq ?_
    refine T.region ?_
    refine T.look (.agg #[.slice A1 p0.pages.length c1, .slice A2 p0.writes.length c2]) (by kernel_rfl) (fun w' hh => exec_loadN (cs := [.slice A1 p0.pages.length c1, .slice A2 p0.writes.length c2]) rfl rfl (by kernel_rfl) (by kernel_rfl) (fun j u hj => (hh.box_at (i := 3) (cs := [.slice A1 p0.pages.length c1, .slice A2 p0.writes.length c2]) (by rfl) 0 j).trans (seg_at (n := 2) (by rfl) hj))) ?_
    refine T.pure (.slice A3 p1.length c3) (by kernel_rfl) (fun _ => by kernel_rfl) ?_
    obtain ⟨r3, hb3, hF⟩ := Option.bind_eq_some_iff.1 hF
    refine T.step (W1.call (vT2 (vAg eDisk) (vSc eInt)) r3 12 #[.agg #[.slice A1 p0.pages.length c1, .slice A2 p0.writes.length c2], .slice A3 p1.length c3] (by kernel_rfl) (fun _ => by kernel_rfl) (fun w' hh => disk_Crash_l F p0 p1 r3 hb3 w' A1 c1 (SlOk.mono (SlOk.mono hs1 hV1) hh.view) A2 c2 (SlOk.mono (SlOk.mono hs2 hV1) hh.view) A3 c3 (SlOk.mono (SlOk.mono hs3 hV1) hh.view)) ?_)
    intro u V2 hV2 hu
    obtain ⟨u4, u5, rfl, hu3, hu4⟩ := vT2_elim hu
    obtain ⟨cs2, rfl, hr2⟩ := vagg_elim hu3
    obtain ⟨A7, c6, A8, c7, rfl, hs6, hs7⟩ := hr2
    obtain rfl := sureInt _ _ _ hu4
    refine T.pure (.tuple #[.agg #[.slice A7 r3.1.pages.length c6, .slice A8 r3.1.writes.length c7], .int .i64 r3.2]) (by kernel_rfl) (fun _ => by kernel_rfl) ?_
    refine T.pure (.agg #[.slice A7 r3.1.pages.length c6, .slice A8 r3.1.writes.length c7]) (by kernel_rfl) (fun _ => by kernel_rfl) ?_
    refine T.pure (.int .i64 r3.2) (by kernel_rfl) (fun _ => by kernel_rfl) ?_
    refine T.step (W1.new 25 [.slice none 0 0, .slice none 0 0] (fun b => .pointer (some ⟨b, 0, none⟩)) (by kernel_rfl) (fun _ => by kernel_rfl) (fun b4 => ?_))
    refine T.step (W1.store 0 [.slice A7 r3.1.pages.length c6, .slice A8 r3.1.writes.length c7] [box b4 25 [.slice A7 r3.1.pages.length c6, .slice A8 r3.1.writes.length c7], box b3 25 [.slice A5 r2.1.pages.length c4, .slice A6 r2.1.writes.length c5], box b2 25 [.slice A4 ((List.replicate ((201 : Int).toNat) ((ByteArray.mk #[]) : ByteArray)).length) ((201 : Int).toNat), .slice none 0 0], row 9 eStr A4 ((201 : Int).toNat) (List.replicate ((201 : Int).toNat) ((ByteArray.mk #[]) : ByteArray)), box b1 25 [.slice A1 p0.pages.length c1, .slice A2 p0.writes.length c2]] (by rfl) rfl (by kernel_rfl) (fun w' hw => exec_store (vs := [.slice A7 r3.1.pages.length c6, .slice A8 r3.1.writes.length c7]) rfl rfl rfl rfl (by kernel_rfl) (one_of rfl) (by simp) rfl hw) ?_)
    refine T.pure (.int .i64 r3.2) (by kernel_rfl) (fun _ => by kernel_rfl) ?_
    refine T.nil ?_
    refine T.seq ?_
    refine T.seq ?_
    refine T.region ?_
    refine T.pure (.int .i64 r3.2) (by kernel_rfl) (fun _ => by kernel_rfl) ?_
    refine T.pure (.bool (r3.2 != 0)) (by kernel_rfl) (fun _ => by kernel_rfl) ?_
    refine T.nil ?_
    refine T.cond (r3.2 != 0) (by kernel_rfl) (by kernel_rfl) (fun hc2 => ?_) (fun hc2 => ?_)
    ·
      rw [hc2, cond_true] at hF
      refine T.seq ?_
      refine T.region ?_
      refine T.pure (.bool true) (by kernel_rfl) (fun _ => by kernel_rfl) ?_
      refine T.nil ?_
      cases hF
      refine T.ret rfl ?_
      exact T.ret1 rfl (ResIs.tmp rfl) fun w' hh => ⟨_, rfl, hh.below, (show _ from rfl)⟩
    ·
      rw [hc2, cond_false] at hF
      refine T.skip_code ?_
      refine T.seq ?_
      refine T.region ?_
      refine T.look (.agg #[.slice A7 r3.1.pages.length c6, .slice A8 r3.1.writes.length c7]) (by kernel_rfl) (fun w' hh => exec_loadN (cs := [.slice A7 r3.1.pages.length c6, .slice A8 r3.1.writes.length c7]) rfl rfl (by kernel_rfl) (by kernel_rfl) (fun j u hj => (hh.box_at (i := 0) (cs := [.slice A7 r3.1.pages.length c6, .slice A8 r3.1.writes.length c7]) (by rfl) 0 j).trans (seg_at (n := 2) (by rfl) hj))) ?_
      obtain ⟨r4, hb4, hF⟩ := Option.bind_eq_some_iff.1 hF
      refine T.step (W1.call (vT2 (vAg eDisk) (vSc eInt)) r4 11 #[.agg #[.slice A7 r3.1.pages.length c6, .slice A8 r3.1.writes.length c7]] (by kernel_rfl) (fun _ => by kernel_rfl) (fun w' hh => undo_Recover_l F r3.1 r4 hb4 w' A7 c6 (SlOk.mono (SlOk.mono hs6 (View.le_trans (made_le _ _) (View.le_refl _))) hh.view) A8 c7 (SlOk.mono (SlOk.mono hs7 (View.le_trans (made_le _ _) (View.le_refl _))) hh.view)) ?_)
      intro u V3 hV3 hu
      obtain ⟨u6, u7, rfl, hu5, hu6⟩ := vT2_elim hu
      obtain ⟨cs3, rfl, hr3⟩ := vagg_elim hu5
      obtain ⟨A9, c8, A10, c9, rfl, hs8, hs9⟩ := hr3
      obtain rfl := sureInt _ _ _ hu6
      refine T.pure (.tuple #[.agg #[.slice A9 r4.1.pages.length c8, .slice A10 r4.1.writes.length c9], .int .i64 r4.2]) (by kernel_rfl) (fun _ => by kernel_rfl) ?_
      refine T.pure (.agg #[.slice A9 r4.1.pages.length c8, .slice A10 r4.1.writes.length c9]) (by kernel_rfl) (fun _ => by kernel_rfl) ?_
      refine T.pure (.int .i64 r4.2) (by kernel_rfl) (fun _ => by kernel_rfl) ?_
      refine T.step (W1.new 25 [.slice none 0 0, .slice none 0 0] (fun b => .pointer (some ⟨b, 0, none⟩)) (by kernel_rfl) (fun _ => by kernel_rfl) (fun b5 => ?_))
      refine T.step (W1.store 0 [.slice A9 r4.1.pages.length c8, .slice A10 r4.1.writes.length c9] [box b5 25 [.slice A9 r4.1.pages.length c8, .slice A10 r4.1.writes.length c9], box b4 25 [.slice A7 r3.1.pages.length c6, .slice A8 r3.1.writes.length c7], box b3 25 [.slice A5 r2.1.pages.length c4, .slice A6 r2.1.writes.length c5], box b2 25 [.slice A4 ((List.replicate ((201 : Int).toNat) ((ByteArray.mk #[]) : ByteArray)).length) ((201 : Int).toNat), .slice none 0 0], row 9 eStr A4 ((201 : Int).toNat) (List.replicate ((201 : Int).toNat) ((ByteArray.mk #[]) : ByteArray)), box b1 25 [.slice A1 p0.pages.length c1, .slice A2 p0.writes.length c2]] (by rfl) rfl (by kernel_rfl) (fun w' hw => exec_store (vs := [.slice A9 r4.1.pages.length c8, .slice A10 r4.1.writes.length c9]) rfl rfl rfl rfl (by kernel_rfl) (one_of rfl) (by simp) rfl hw) ?_)
      refine T.pure (.int .i64 r4.2) (by kernel_rfl) (fun _ => by kernel_rfl) ?_
      refine T.nil ?_
      refine T.seq ?_
      refine T.seq ?_
      refine T.region ?_
      refine T.pure (.int .i64 r4.2) (by kernel_rfl) (fun _ => by kernel_rfl) ?_
      refine T.pure (.bool (r4.2 != 0)) (by kernel_rfl) (fun _ => by kernel_rfl) ?_
      refine T.nil ?_
      refine T.cond (r4.2 != 0) (by kernel_rfl) (by kernel_rfl) (fun hc3 => ?_) (fun hc3 => ?_)
      ·
        rw [hc3, cond_true] at hF
        refine T.seq ?_
        refine T.region ?_
        refine T.look (.agg #[.slice A9 r4.1.pages.length c8, .slice A10 r4.1.writes.length c9]) (by kernel_rfl) (fun w' hh => exec_loadN (cs := [.slice A9 r4.1.pages.length c8, .slice A10 r4.1.writes.length c9]) rfl rfl (by kernel_rfl) (by kernel_rfl) (fun j u hj => (hh.box_at (i := 0) (cs := [.slice A9 r4.1.pages.length c8, .slice A10 r4.1.writes.length c9]) (by rfl) 0 j).trans (seg_at (n := 2) (by rfl) hj))) ?_
        refine T.pure (.agg #[.slice none 0 0, .slice none 0 0]) (by kernel_rfl) (fun _ => by kernel_rfl) ?_
        obtain ⟨r5, hb5, hF⟩ := Option.bind_eq_some_iff.1 hF
        refine T.step (W1.call (vSc eBool) r5 13 #[.agg #[.slice A9 r4.1.pages.length c8, .slice A10 r4.1.writes.length c9], .agg #[.slice none 0 0, .slice none 0 0]] (by kernel_rfl) (fun _ => by kernel_rfl) (fun w' hh => annalref_SameDisk_l F r4.1 (DDisk.mk [] []) r5 hb5 w' A9 c8 (SlOk.mono (SlOk.mono hs8 (View.le_trans (made_le _ _) (View.le_refl _))) hh.view) A10 c9 (SlOk.mono (SlOk.mono hs9 (View.le_trans (made_le _ _) (View.le_refl _))) hh.view) none 0 (SlOk.nil _ _) none 0 (SlOk.nil _ _)) ?_)
        intro u V4 hV4 hu
        obtain rfl := sureBool _ _ _ hu
        refine T.pure (.bool r5) (by kernel_rfl) (fun _ => by kernel_rfl) ?_
        refine T.nil ?_
        cases hF
        refine T.ret rfl ?_
        exact T.ret1 rfl (ResIs.tmp rfl) fun w' hh => ⟨_, rfl, hh.below, (show _ from rfl)⟩
      ·
        rw [hc3, cond_false] at hF
        refine T.skip_code ?_
        refine T.seq ?_
        refine T.region ?_
        refine T.look (.agg #[.slice A9 r4.1.pages.length c8, .slice A10 r4.1.writes.length c9]) (by kernel_rfl) (fun w' hh => exec_loadN (cs := [.slice A9 r4.1.pages.length c8, .slice A10 r4.1.writes.length c9]) rfl rfl (by kernel_rfl) (by kernel_rfl) (fun j u hj => (hh.box_at (i := 0) (cs := [.slice A9 r4.1.pages.length c8, .slice A10 r4.1.writes.length c9]) (by rfl) 0 j).trans (seg_at (n := 2) (by rfl) hj))) ?_
        obtain ⟨r6, hb6, hF⟩ := Option.bind_eq_some_iff.1 hF
        refine T.step (W1.call (vT2 (vAg eDisk) (vSc eInt)) r6 11 #[.agg #[.slice A9 r4.1.pages.length c8, .slice A10 r4.1.writes.length c9]] (by kernel_rfl) (fun _ => by kernel_rfl) (fun w' hh => undo_Recover_l F r4.1 r6 hb6 w' A9 c8 (SlOk.mono (SlOk.mono hs8 (View.le_trans (made_le _ _) (View.le_refl _))) hh.view) A10 c9 (SlOk.mono (SlOk.mono hs9 (View.le_trans (made_le _ _) (View.le_refl _))) hh.view)) ?_)
        intro u V5 hV5 hu
        obtain ⟨u8, u9, rfl, hu7, hu8⟩ := vT2_elim hu
        obtain ⟨cs4, rfl, hr4⟩ := vagg_elim hu7
        obtain ⟨A11, c10, A12, c11, rfl, hs10, hs11⟩ := hr4
        obtain rfl := sureInt _ _ _ hu8
        refine T.pure (.tuple #[.agg #[.slice A11 r6.1.pages.length c10, .slice A12 r6.1.writes.length c11], .int .i64 r6.2]) (by kernel_rfl) (fun _ => by kernel_rfl) ?_
        refine T.pure (.agg #[.slice A11 r6.1.pages.length c10, .slice A12 r6.1.writes.length c11]) (by kernel_rfl) (fun _ => by kernel_rfl) ?_
        refine T.pure (.int .i64 r6.2) (by kernel_rfl) (fun _ => by kernel_rfl) ?_
        refine T.step (W1.new 25 [.slice none 0 0, .slice none 0 0] (fun b => .pointer (some ⟨b, 0, none⟩)) (by kernel_rfl) (fun _ => by kernel_rfl) (fun b6 => ?_))
        refine T.step (W1.store 0 [.slice A11 r6.1.pages.length c10, .slice A12 r6.1.writes.length c11] [box b6 25 [.slice A11 r6.1.pages.length c10, .slice A12 r6.1.writes.length c11], box b5 25 [.slice A9 r4.1.pages.length c8, .slice A10 r4.1.writes.length c9], box b4 25 [.slice A7 r3.1.pages.length c6, .slice A8 r3.1.writes.length c7], box b3 25 [.slice A5 r2.1.pages.length c4, .slice A6 r2.1.writes.length c5], box b2 25 [.slice A4 ((List.replicate ((201 : Int).toNat) ((ByteArray.mk #[]) : ByteArray)).length) ((201 : Int).toNat), .slice none 0 0], row 9 eStr A4 ((201 : Int).toNat) (List.replicate ((201 : Int).toNat) ((ByteArray.mk #[]) : ByteArray)), box b1 25 [.slice A1 p0.pages.length c1, .slice A2 p0.writes.length c2]] (by rfl) rfl (by kernel_rfl) (fun w' hw => exec_store (vs := [.slice A11 r6.1.pages.length c10, .slice A12 r6.1.writes.length c11]) rfl rfl rfl rfl (by kernel_rfl) (one_of rfl) (by simp) rfl hw) ?_)
        refine T.pure (.int .i64 r6.2) (by kernel_rfl) (fun _ => by kernel_rfl) ?_
        refine T.nil ?_
        obtain ⟨z1, hX1, hF⟩ := Option.bind_eq_some_iff.1 hF
        refine T.cut (fun a w' => ∃ (V6 : View), View.le V5 V6 ∧ Fr 51 [(4, .bool z1)] a ∧ Hp w V6 [] w') ?_ ?_
        ·
          refine T.region ?_
          refine T.pure (.int .i64 r6.2) (by kernel_rfl) (fun _ => by kernel_rfl) ?_
          refine T.pure (.bool (r6.2 == 0)) (by kernel_rfl) (fun _ => by kernel_rfl) ?_
          refine T.pure (.bool (r6.2 == 0)) (by kernel_rfl) (fun _ => by kernel_rfl) ?_
          cases hg1 : (r6.2 == 0)
          ·
            skip
            rw [hg1, cond_false] at hX1
            refine T.pass (by kernel_rfl) (by kernel_rfl) ?_
            refine T.pass (by kernel_rfl) (by kernel_rfl) ?_
            refine T.pass (by kernel_rfl) (by kernel_rfl) ?_
            refine T.pure (.bool false) (by kernel_rfl) (fun _ => by kernel_rfl) ?_
            refine T.pure (.bool false) (by kernel_rfl) (fun _ => by kernel_rfl) ?_
            refine T.nil ?_
            cases hX1
            exact fun a w' hf hh => Exists.intro V5 (And.intro (View.le_refl _) (And.intro ((Fr.nil hf).pick hf 4 rfl) (hh.sub (.cons _ (.cons _ (.cons _ (.cons _ (.cons _ (.cons _ (.cons _ List.Sublist.slnil))))))))))
          ·
            skip
            rw [hg1, cond_true] at hX1
            refine T.look (.agg #[.slice A9 r4.1.pages.length c8, .slice A10 r4.1.writes.length c9]) (by kernel_rfl) (fun w' hh => exec_loadN (cs := [.slice A9 r4.1.pages.length c8, .slice A10 r4.1.writes.length c9]) rfl rfl (by kernel_rfl) (by kernel_rfl) (fun j u hj => (hh.box_at (i := 1) (cs := [.slice A9 r4.1.pages.length c8, .slice A10 r4.1.writes.length c9]) (by rfl) 0 j).trans (seg_at (n := 2) (by rfl) hj))) ?_
            refine T.look (.agg #[.slice A11 r6.1.pages.length c10, .slice A12 r6.1.writes.length c11]) (by kernel_rfl) (fun w' hh => exec_loadN (cs := [.slice A11 r6.1.pages.length c10, .slice A12 r6.1.writes.length c11]) rfl rfl (by kernel_rfl) (by kernel_rfl) (fun j u hj => (hh.box_at (i := 0) (cs := [.slice A11 r6.1.pages.length c10, .slice A12 r6.1.writes.length c11]) (by rfl) 0 j).trans (seg_at (n := 2) (by rfl) hj))) ?_
            obtain ⟨r7, hb7, hX1⟩ := Option.bind_eq_some_iff.1 hX1
            refine T.step (W1.call (vSc eBool) r7 13 #[.agg #[.slice A9 r4.1.pages.length c8, .slice A10 r4.1.writes.length c9], .agg #[.slice A11 r6.1.pages.length c10, .slice A12 r6.1.writes.length c11]] (by kernel_rfl) (fun _ => by kernel_rfl) (fun w' hh => annalref_SameDisk_l F r4.1 r6.1 r7 hb7 w' A9 c8 (SlOk.mono (SlOk.mono hs8 (View.le_trans (made_le _ _) hV5)) hh.view) A10 c9 (SlOk.mono (SlOk.mono hs9 (View.le_trans (made_le _ _) hV5)) hh.view) A11 c10 (SlOk.mono (SlOk.mono hs10 (View.le_trans (made_le _ _) (View.le_refl _))) hh.view) A12 c11 (SlOk.mono (SlOk.mono hs11 (View.le_trans (made_le _ _) (View.le_refl _))) hh.view)) ?_)
            intro u V7 hV7 hu
            obtain rfl := sureBool _ _ _ hu
            refine T.pure (.bool r7) (by kernel_rfl) (fun _ => by kernel_rfl) ?_
            refine T.pure (.bool r7) (by kernel_rfl) (fun _ => by kernel_rfl) ?_
            refine T.nil ?_
            cases hX1
            exact fun a w' hf hh => Exists.intro V7 (And.intro hV7 (And.intro ((Fr.nil hf).pick hf 4 rfl) (hh.sub (.cons _ (.cons _ (.cons _ (.cons _ (.cons _ (.cons _ (.cons _ List.Sublist.slnil))))))))))
        ·
          rintro a w' ⟨V6, hV6, hf, hh⟩
          refine (?_ : T 51 w V6 [] [(4, .bool z1)] _) a w' hf hh
          clear hf hh
          cases hF
          refine T.ret rfl ?_
          exact T.ret1 rfl (ResIs.tmp rfl) fun w' hh => ⟨_, rfl, hh.below, (show _ from rfl)⟩

end Go.Proofs.Ytomgholekojenaa
