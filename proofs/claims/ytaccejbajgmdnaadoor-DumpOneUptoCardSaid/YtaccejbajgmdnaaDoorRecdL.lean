/- The Go functions of group Recd compute the pure functions of that group: written by walkgen.py. Condition of each: the pure function yields a result. -/
import Derived.Test.YtaccejbajgmdnaaDoorLineL
import Derived.Test.YtaccejbajgmdnaaDoorRecdF
import Derived.Test.YtaccejbajgmdnaaDoorEqL
namespace Go.Proofs.YtaccejbajgmdnaaDoor
set_option linter.unusedVariables false

set_option maxRecDepth 100000 in
set_option maxHeartbeats 4000000 in
theorem dump_record_l (F : Nat) (p0 : ByteArray) (r : DElem × Bool) (hF : dump_record F p0 = some r) (w : World) (hGl : Glob w) :
    Calls Tryd.prog 33 #[.string p0] w (Post (vT2 (vAg eElem) (vSc eBool)) r w) := by
 unfold dump_record at hF
 refine T.start (l := [.string p0]) Tryd.func33 rfl rfl rfl ?_
 refine T.seq ?_
 refine T.region ?_
 refine T.step (W1.new 36 [.int .i64 0, .int .i64 0, .int .i64 0, .int .i64 0, .int .i64 0, .string (ByteArray.mk #[])] (fun b => .pointer (some ⟨b, 0, none⟩)) (by kernel_rfl) (fun _ => by kernel_rfl) (fun b1 => ?_))
 refine T.pure (.bool false) (by kernel_rfl) (fun _ => by kernel_rfl) ?_
 refine T.nil ?_
 refine T.seq ?_
 refine T.region ?_
 refine T.pure (.string p0) (by kernel_rfl) (fun _ => by kernel_rfl) ?_
 obtain ⟨r1, hb1, hF⟩ := Option.bind_eq_some_iff.1 hF
 refine T.step (W1.call (vSc (eList eStr)) r1 58 #[.string p0, .string (ByteArray.mk #[32])] (by kernel_rfl) (fun _ => by kernel_rfl) (fun w' hh => strings_Split_l p0 (ByteArray.mk #[32]) r1 hb1 w' (Glob.mono hGl (View.le_trans hh.base hh.view))) ?_)
 intro u V1 hV1 hu
 obtain ⟨A1, c1, rfl, hs1⟩ := vlist_elim hu
 refine T.pure (.slice A1 r1.length c1) (by kernel_rfl) (fun _ => by kernel_rfl) ?_
 refine T.nil ?_
 refine T.seq ?_
 refine T.seq ?_
 refine T.region ?_
 refine T.pure (.slice A1 r1.length c1) (by kernel_rfl) (fun _ => by kernel_rfl) ?_
 refine T.pure (.int .i64 (r1.length : Int)) (by kernel_rfl) (fun _ => by kernel_rfl) ?_
 refine T.pure (.bool ((r1.length : Int) != 6)) (by kernel_rfl) (fun _ => by kernel_rfl) ?_
 refine T.nil ?_
 refine T.cond ((r1.length : Int) != 6) (by kernel_rfl) (by kernel_rfl) (fun hc1 => ?_) (fun hc1 => ?_)
 ·
  rw [hc1, cond_true] at hF
  refine T.seq ?_
  refine T.region ?_
  refine T.pure (.agg #[.int .i64 0, .int .i64 0, .int .i64 0, .int .i64 0, .int .i64 0, .string (ByteArray.mk #[])]) (by kernel_rfl) (fun _ => by kernel_rfl) ?_
  refine T.step (W1.store 0 [.int .i64 0, .int .i64 0, .int .i64 0, .int .i64 0, .int .i64 0, .string (ByteArray.mk #[])] [box b1 36 [.int .i64 0, .int .i64 0, .int .i64 0, .int .i64 0, .int .i64 0, .string (ByteArray.mk #[])]] (by rfl) rfl (by kernel_rfl) (fun w' hw => exec_store (vs := [.int .i64 0, .int .i64 0, .int .i64 0, .int .i64 0, .int .i64 0, .string (ByteArray.mk #[])]) rfl rfl rfl rfl (by kernel_rfl) (one_of rfl) (by simp) rfl hw) ?_)
  refine T.pure (.bool false) (by kernel_rfl) (fun _ => by kernel_rfl) ?_
  refine T.nil ?_
  cases hF
  refine T.ret rfl ?_
  exact T.ret2 rfl (ResIs.cellN 0 rfl (by rfl) (fun _ => by kernel_rfl) (fun _ => by kernel_rfl)) (ResIs.tmp rfl) fun w' hh => ⟨_, rfl, hh.below, (vT2.mk (vAg.mk rfl) (show _ from rfl))⟩
 ·
  rw [hc1, cond_false] at hF
  refine T.skip_code ?_
  refine T.seq ?_
  refine T.region ?_
  refine T.step (W1.new 98 [.int .i64 0, .int .i64 0, .int .i64 0, .int .i64 0, .int .i64 0] (fun b => .pointer (some ⟨b, 0, none⟩)) (by kernel_rfl) (fun _ => by kernel_rfl) (fun b2 => ?_))
  refine T.nil ?_
  refine T.seq ?_
  refine T.seq ?_
  refine T.region ?_
  refine T.pure (.int .i64 0) (by kernel_rfl) (fun _ => by kernel_rfl) ?_
  refine T.nil ?_
  refine T.block ?_
  refine T.rounds 6 ?_
  refine T.round ?_
  refine T.seq ?_
  refine T.region ?_
  refine T.pure (.bool true) (by kernel_rfl) (fun _ => by kernel_rfl) ?_
  refine T.nil ?_
  refine T.seq ?_
  refine T.cond true (by kernel_rfl) (by kernel_rfl) (fun _ => ?_) (fun h => Bool.noConfusion h)
  refine T.skip_code ?_
  refine T.seq ?_
  refine T.block ?_
  refine T.seq ?_
  refine T.region ?_
  refine T.pure (.int .i64 0) (by kernel_rfl) (fun _ => by kernel_rfl) ?_
  refine T.pure (.int .i64 0) (by kernel_rfl) (fun _ => by kernel_rfl) ?_
  refine T.nil ?_
  refine T.seq ?_
  refine T.region ?_
  refine T.pure (.slice A1 r1.length c1) (by kernel_rfl) (fun _ => by kernel_rfl) ?_
  refine T.pure (.int .i64 0) (by kernel_rfl) (fun _ => by kernel_rfl) ?_
  obtain ⟨e1, hb2, hF⟩ := Option.bind_eq_some_iff.1 hF
  obtain ⟨hi1, hi2, hi3⟩ := idx_some hb2
  refine T.look (.pointer (some ((sadr A1).add (((0 : Int).toNat) * 1)))) (by kernel_rfl) (fun w' hh => exec_indexAddr (e := 9) (s := 1) rfl rfl rfl (by kernel_rfl) (by kernel_rfl) hi1 hi2 ((SlOk.mono hs1 (View.le_trans (made_le _ _) (View.le_refl _))).some_ hi3 (by decide))) ?_
  refine T.look (.string e1) (by kernel_rfl) (fun w' hh => exec_load1 rfl rfl (by kernel_rfl) (hh.cell_view (SlOk.cellF0 (E := eStr) (SlOk.mono hs1 (View.le_trans (made_le _ _) (View.le_refl _))) hi3 (fun _ _ _ h => h) rfl))) ?_
  obtain ⟨r2, hb3, hF⟩ := Option.bind_eq_some_iff.1 hF
  refine T.step (W1.call (vT2 (vSc eInt) vErr) r2 59 #[.string e1] (by kernel_rfl) (fun _ => by kernel_rfl) (fun w' hh => strconv_Atoi_l e1 r2 hb3 w' (Glob.mono hGl (View.le_trans hh.base hh.view))) ?_)
  intro u V2 hV2 hu
  obtain ⟨u1, u2, rfl, hu1, hu2⟩ := vT2_elim hu
  obtain rfl := sureInt _ _ _ hu1
  obtain ⟨t1, p1, rfl⟩ := hu2
  refine T.pure (.tuple #[.int .i64 r2.1, errV r2.2 t1 p1]) (by kernel_rfl) (fun _ => by kernel_rfl) ?_
  refine T.pure (.int .i64 r2.1) (by kernel_rfl) (fun _ => by kernel_rfl) ?_
  refine T.pure (errV r2.2 t1 p1) (by kernel_rfl) (fun _ => by kernel_rfl) ?_
  refine T.pure (.int .i64 r2.1) (by kernel_rfl) (fun _ => by kernel_rfl) ?_
  refine T.pure (errV r2.2 t1 p1) (by kernel_rfl) (fun _ => by kernel_rfl) ?_
  refine T.nil ?_
  refine T.seq ?_
  refine T.seq ?_
  refine T.region ?_
  refine T.pure (errV r2.2 t1 p1) (by kernel_rfl) (fun _ => by kernel_rfl) ?_
  refine T.look (.bool r2.2) (by kernel_rfl) (fun w' hh => exec_err_neq rfl rfl (fun _ => by kernel_rfl) (fun _ _ _ => by kernel_rfl)) ?_
  refine T.nil ?_
  refine T.cond r2.2 (by kernel_rfl) (by kernel_rfl) (fun hc2 => ?_) (fun hc2 => ?_)
  ·
   rw [hc2, cond_true] at hF
   refine T.seq ?_
   refine T.region ?_
   refine T.pure (.agg #[.int .i64 0, .int .i64 0, .int .i64 0, .int .i64 0, .int .i64 0, .string (ByteArray.mk #[])]) (by kernel_rfl) (fun _ => by kernel_rfl) ?_
   refine T.step (W1.store 1 [.int .i64 0, .int .i64 0, .int .i64 0, .int .i64 0, .int .i64 0, .string (ByteArray.mk #[])] [box b2 98 [.int .i64 0, .int .i64 0, .int .i64 0, .int .i64 0, .int .i64 0], box b1 36 [.int .i64 0, .int .i64 0, .int .i64 0, .int .i64 0, .int .i64 0, .string (ByteArray.mk #[])]] (by rfl) rfl (by kernel_rfl) (fun w' hw => exec_store (vs := [.int .i64 0, .int .i64 0, .int .i64 0, .int .i64 0, .int .i64 0, .string (ByteArray.mk #[])]) rfl rfl rfl rfl (by kernel_rfl) (one_of rfl) (by simp) rfl hw) ?_)
   refine T.pure (.bool false) (by kernel_rfl) (fun _ => by kernel_rfl) ?_
   refine T.nil ?_
   cases hF
   refine T.ret rfl ?_
   exact T.ret2 rfl (ResIs.cellN 1 rfl (by rfl) (fun _ => by kernel_rfl) (fun _ => by kernel_rfl)) (ResIs.tmp rfl) fun w' hh => ⟨_, rfl, hh.below, (vT2.mk (vAg.mk rfl) (show _ from rfl))⟩
  ·
   rw [hc2, cond_false] at hF
   refine T.skip_code ?_
   refine T.region ?_
   refine T.pure (.int .i64 0) (by kernel_rfl) (fun _ => by kernel_rfl) ?_
   refine T.pure (.int .i64 r2.1) (by kernel_rfl) (fun _ => by kernel_rfl) ?_
   refine T.pure (.pointer (some ⟨b2, 0, none⟩)) (by kernel_rfl) (fun _ => by kernel_rfl) ?_
   refine T.step (W1.store 0 [.int .i64 r2.1, .int .i64 0, .int .i64 0, .int .i64 0, .int .i64 0] [box b2 98 [.int .i64 r2.1, .int .i64 0, .int .i64 0, .int .i64 0, .int .i64 0], box b1 36 [.int .i64 0, .int .i64 0, .int .i64 0, .int .i64 0, .int .i64 0, .string (ByteArray.mk #[])]] (by rfl) rfl (by kernel_rfl) (fun w' hw => exec_store (vs := [.int .i64 r2.1]) rfl rfl rfl rfl (by kernel_rfl) (one_of rfl) (by simp) rfl hw) ?_)
   refine T.nil ?_
   refine T.region ?_
   refine T.pure (.int .i64 1) (by kernel_rfl) (fun _ => by kernel_rfl) ?_
   refine T.pure (.int .i64 1) (by kernel_rfl) (fun _ => by kernel_rfl) ?_
   refine T.nil ?_
   refine T.round ?_
   refine T.seq ?_
   refine T.region ?_
   refine T.pure (.bool true) (by kernel_rfl) (fun _ => by kernel_rfl) ?_
   refine T.nil ?_
   refine T.seq ?_
   refine T.cond true (by kernel_rfl) (by kernel_rfl) (fun _ => ?_) (fun h => Bool.noConfusion h)
   refine T.skip_code ?_
   refine T.seq ?_
   refine T.block ?_
   refine T.seq ?_
   refine T.region ?_
   refine T.pure (.int .i64 1) (by kernel_rfl) (fun _ => by kernel_rfl) ?_
   refine T.pure (.int .i64 1) (by kernel_rfl) (fun _ => by kernel_rfl) ?_
   refine T.nil ?_
   refine T.seq ?_
   refine T.region ?_
   refine T.pure (.slice A1 r1.length c1) (by kernel_rfl) (fun _ => by kernel_rfl) ?_
   refine T.pure (.int .i64 1) (by kernel_rfl) (fun _ => by kernel_rfl) ?_
   obtain ⟨e2, hb4, hF⟩ := Option.bind_eq_some_iff.1 hF
   obtain ⟨hi4, hi5, hi6⟩ := idx_some hb4
   refine T.look (.pointer (some ((sadr A1).add (((1 : Int).toNat) * 1)))) (by kernel_rfl) (fun w' hh => exec_indexAddr (e := 9) (s := 1) rfl rfl rfl (by kernel_rfl) (by kernel_rfl) hi4 hi5 ((SlOk.mono hs1 (View.le_trans (made_le _ _) hV2)).some_ hi6 (by decide))) ?_
   refine T.look (.string e2) (by kernel_rfl) (fun w' hh => exec_load1 rfl rfl (by kernel_rfl) (hh.cell_view (SlOk.cellF0 (E := eStr) (SlOk.mono hs1 (View.le_trans (made_le _ _) hV2)) hi6 (fun _ _ _ h => h) rfl))) ?_
   obtain ⟨r3, hb5, hF⟩ := Option.bind_eq_some_iff.1 hF
   refine T.step (W1.call (vT2 (vSc eInt) vErr) r3 59 #[.string e2] (by kernel_rfl) (fun _ => by kernel_rfl) (fun w' hh => strconv_Atoi_l e2 r3 hb5 w' (Glob.mono hGl (View.le_trans hh.base hh.view))) ?_)
   intro u V3 hV3 hu
   obtain ⟨u3, u4, rfl, hu3, hu4⟩ := vT2_elim hu
   obtain rfl := sureInt _ _ _ hu3
   obtain ⟨t2, p2, rfl⟩ := hu4
   refine T.pure (.tuple #[.int .i64 r3.1, errV r3.2 t2 p2]) (by kernel_rfl) (fun _ => by kernel_rfl) ?_
   refine T.pure (.int .i64 r3.1) (by kernel_rfl) (fun _ => by kernel_rfl) ?_
   refine T.pure (errV r3.2 t2 p2) (by kernel_rfl) (fun _ => by kernel_rfl) ?_
   refine T.pure (.int .i64 r3.1) (by kernel_rfl) (fun _ => by kernel_rfl) ?_
   refine T.pure (errV r3.2 t2 p2) (by kernel_rfl) (fun _ => by kernel_rfl) ?_
   refine T.nil ?_
   refine T.seq ?_
   refine T.seq ?_
   refine T.region ?_
   refine T.pure (errV r3.2 t2 p2) (by kernel_rfl) (fun _ => by kernel_rfl) ?_
   refine T.look (.bool r3.2) (by kernel_rfl) (fun w' hh => exec_err_neq rfl rfl (fun _ => by kernel_rfl) (fun _ _ _ => by kernel_rfl)) ?_
   refine T.nil ?_
   refine T.cond r3.2 (by kernel_rfl) (by kernel_rfl) (fun hc3 => ?_) (fun hc3 => ?_)
   ·
    rw [hc3, cond_true] at hF
    refine T.seq ?_
    refine T.region ?_
    refine T.pure (.agg #[.int .i64 0, .int .i64 0, .int .i64 0, .int .i64 0, .int .i64 0, .string (ByteArray.mk #[])]) (by kernel_rfl) (fun _ => by kernel_rfl) ?_
    refine T.step (W1.store 1 [.int .i64 0, .int .i64 0, .int .i64 0, .int .i64 0, .int .i64 0, .string (ByteArray.mk #[])] [box b2 98 [.int .i64 r2.1, .int .i64 0, .int .i64 0, .int .i64 0, .int .i64 0], box b1 36 [.int .i64 0, .int .i64 0, .int .i64 0, .int .i64 0, .int .i64 0, .string (ByteArray.mk #[])]] (by rfl) rfl (by kernel_rfl) (fun w' hw => exec_store (vs := [.int .i64 0, .int .i64 0, .int .i64 0, .int .i64 0, .int .i64 0, .string (ByteArray.mk #[])]) rfl rfl rfl rfl (by kernel_rfl) (one_of rfl) (by simp) rfl hw) ?_)
    refine T.pure (.bool false) (by kernel_rfl) (fun _ => by kernel_rfl) ?_
    refine T.nil ?_
    cases hF
    refine T.ret rfl ?_
    exact T.ret2 rfl (ResIs.cellN 1 rfl (by rfl) (fun _ => by kernel_rfl) (fun _ => by kernel_rfl)) (ResIs.tmp rfl) fun w' hh => ⟨_, rfl, hh.below, (vT2.mk (vAg.mk rfl) (show _ from rfl))⟩
   ·
    rw [hc3, cond_false] at hF
    refine T.skip_code ?_
    refine T.region ?_
    refine T.pure (.int .i64 1) (by kernel_rfl) (fun _ => by kernel_rfl) ?_
    refine T.pure (.int .i64 r3.1) (by kernel_rfl) (fun _ => by kernel_rfl) ?_
    refine T.pure (.pointer (some ⟨b2, 1, none⟩)) (by kernel_rfl) (fun _ => by kernel_rfl) ?_
    refine T.step (W1.store 0 [.int .i64 r2.1, .int .i64 r3.1, .int .i64 0, .int .i64 0, .int .i64 0] [box b2 98 [.int .i64 r2.1, .int .i64 r3.1, .int .i64 0, .int .i64 0, .int .i64 0], box b1 36 [.int .i64 0, .int .i64 0, .int .i64 0, .int .i64 0, .int .i64 0, .string (ByteArray.mk #[])]] (by rfl) rfl (by kernel_rfl) (fun w' hw => exec_store (vs := [.int .i64 r3.1]) rfl rfl rfl rfl (by kernel_rfl) (one_of rfl) (by simp) rfl hw) ?_)
    refine T.nil ?_
    refine T.region ?_
    refine T.pure (.int .i64 2) (by kernel_rfl) (fun _ => by kernel_rfl) ?_
    refine T.pure (.int .i64 2) (by kernel_rfl) (fun _ => by kernel_rfl) ?_
    refine T.nil ?_
    refine T.round ?_
    refine T.seq ?_
    refine T.region ?_
    refine T.pure (.bool true) (by kernel_rfl) (fun _ => by kernel_rfl) ?_
    refine T.nil ?_
    refine T.seq ?_
    refine T.cond true (by kernel_rfl) (by kernel_rfl) (fun _ => ?_) (fun h => Bool.noConfusion h)
    refine T.skip_code ?_
    refine T.seq ?_
    refine T.block ?_
    refine T.seq ?_
    refine T.region ?_
    refine T.pure (.int .i64 2) (by kernel_rfl) (fun _ => by kernel_rfl) ?_
    refine T.pure (.int .i64 2) (by kernel_rfl) (fun _ => by kernel_rfl) ?_
    refine T.nil ?_
    refine T.seq ?_
    refine T.region ?_
    refine T.pure (.slice A1 r1.length c1) (by kernel_rfl) (fun _ => by kernel_rfl) ?_
    refine T.pure (.int .i64 2) (by kernel_rfl) (fun _ => by kernel_rfl) ?_
    obtain ⟨e3, hb6, hF⟩ := Option.bind_eq_some_iff.1 hF
    obtain ⟨hi7, hi8, hi9⟩ := idx_some hb6
    refine T.look (.pointer (some ((sadr A1).add (((2 : Int).toNat) * 1)))) (by kernel_rfl) (fun w' hh => exec_indexAddr (e := 9) (s := 1) rfl rfl rfl (by kernel_rfl) (by kernel_rfl) hi7 hi8 ((SlOk.mono hs1 (View.le_trans (made_le _ _) (View.le_trans hV2 hV3))).some_ hi9 (by decide))) ?_
    refine T.look (.string e3) (by kernel_rfl) (fun w' hh => exec_load1 rfl rfl (by kernel_rfl) (hh.cell_view (SlOk.cellF0 (E := eStr) (SlOk.mono hs1 (View.le_trans (made_le _ _) (View.le_trans hV2 hV3))) hi9 (fun _ _ _ h => h) rfl))) ?_
    obtain ⟨r4, hb7, hF⟩ := Option.bind_eq_some_iff.1 hF
    refine T.step (W1.call (vT2 (vSc eInt) vErr) r4 59 #[.string e3] (by kernel_rfl) (fun _ => by kernel_rfl) (fun w' hh => strconv_Atoi_l e3 r4 hb7 w' (Glob.mono hGl (View.le_trans hh.base hh.view))) ?_)
    intro u V4 hV4 hu
    obtain ⟨u5, u6, rfl, hu5, hu6⟩ := vT2_elim hu
    obtain rfl := sureInt _ _ _ hu5
    obtain ⟨t3, p3, rfl⟩ := hu6
    refine T.pure (.tuple #[.int .i64 r4.1, errV r4.2 t3 p3]) (by kernel_rfl) (fun _ => by kernel_rfl) ?_
    refine T.pure (.int .i64 r4.1) (by kernel_rfl) (fun _ => by kernel_rfl) ?_
    refine T.pure (errV r4.2 t3 p3) (by kernel_rfl) (fun _ => by kernel_rfl) ?_
    refine T.pure (.int .i64 r4.1) (by kernel_rfl) (fun _ => by kernel_rfl) ?_
    refine T.pure (errV r4.2 t3 p3) (by kernel_rfl) (fun _ => by kernel_rfl) ?_
    refine T.nil ?_
    refine T.seq ?_
    refine T.seq ?_
    refine T.region ?_
    refine T.pure (errV r4.2 t3 p3) (by kernel_rfl) (fun _ => by kernel_rfl) ?_
    refine T.look (.bool r4.2) (by kernel_rfl) (fun w' hh => exec_err_neq rfl rfl (fun _ => by kernel_rfl) (fun _ _ _ => by kernel_rfl)) ?_
    refine T.nil ?_
    refine T.cond r4.2 (by kernel_rfl) (by kernel_rfl) (fun hc4 => ?_) (fun hc4 => ?_)
    ·
     rw [hc4, cond_true] at hF
     refine T.seq ?_
     refine T.region ?_
     refine T.pure (.agg #[.int .i64 0, .int .i64 0, .int .i64 0, .int .i64 0, .int .i64 0, .string (ByteArray.mk #[])]) (by kernel_rfl) (fun _ => by kernel_rfl) ?_
     refine T.step (W1.store 1 [.int .i64 0, .int .i64 0, .int .i64 0, .int .i64 0, .int .i64 0, .string (ByteArray.mk #[])] [box b2 98 [.int .i64 r2.1, .int .i64 r3.1, .int .i64 0, .int .i64 0, .int .i64 0], box b1 36 [.int .i64 0, .int .i64 0, .int .i64 0, .int .i64 0, .int .i64 0, .string (ByteArray.mk #[])]] (by rfl) rfl (by kernel_rfl) (fun w' hw => exec_store (vs := [.int .i64 0, .int .i64 0, .int .i64 0, .int .i64 0, .int .i64 0, .string (ByteArray.mk #[])]) rfl rfl rfl rfl (by kernel_rfl) (one_of rfl) (by simp) rfl hw) ?_)
     refine T.pure (.bool false) (by kernel_rfl) (fun _ => by kernel_rfl) ?_
     refine T.nil ?_
     cases hF
     refine T.ret rfl ?_
     exact T.ret2 rfl (ResIs.cellN 1 rfl (by rfl) (fun _ => by kernel_rfl) (fun _ => by kernel_rfl)) (ResIs.tmp rfl) fun w' hh => ⟨_, rfl, hh.below, (vT2.mk (vAg.mk rfl) (show _ from rfl))⟩
    ·
     rw [hc4, cond_false] at hF
     refine T.skip_code ?_
     refine T.region ?_
     refine T.pure (.int .i64 2) (by kernel_rfl) (fun _ => by kernel_rfl) ?_
     refine T.pure (.int .i64 r4.1) (by kernel_rfl) (fun _ => by kernel_rfl) ?_
     refine T.pure (.pointer (some ⟨b2, 2, none⟩)) (by kernel_rfl) (fun _ => by kernel_rfl) ?_
     refine T.step (W1.store 0 [.int .i64 r2.1, .int .i64 r3.1, .int .i64 r4.1, .int .i64 0, .int .i64 0] [box b2 98 [.int .i64 r2.1, .int .i64 r3.1, .int .i64 r4.1, .int .i64 0, .int .i64 0], box b1 36 [.int .i64 0, .int .i64 0, .int .i64 0, .int .i64 0, .int .i64 0, .string (ByteArray.mk #[])]] (by rfl) rfl (by kernel_rfl) (fun w' hw => exec_store (vs := [.int .i64 r4.1]) rfl rfl rfl rfl (by kernel_rfl) (one_of rfl) (by simp) rfl hw) ?_)
     refine T.nil ?_
     refine T.region ?_
     refine T.pure (.int .i64 3) (by kernel_rfl) (fun _ => by kernel_rfl) ?_
     refine T.pure (.int .i64 3) (by kernel_rfl) (fun _ => by kernel_rfl) ?_
     refine T.nil ?_
     refine T.round ?_
     refine T.seq ?_
     refine T.region ?_
     refine T.pure (.bool true) (by kernel_rfl) (fun _ => by kernel_rfl) ?_
     refine T.nil ?_
     refine T.seq ?_
     refine T.cond true (by kernel_rfl) (by kernel_rfl) (fun _ => ?_) (fun h => Bool.noConfusion h)
     refine T.skip_code ?_
     refine T.seq ?_
     refine T.block ?_
     refine T.seq ?_
     refine T.region ?_
     refine T.pure (.int .i64 3) (by kernel_rfl) (fun _ => by kernel_rfl) ?_
     refine T.pure (.int .i64 3) (by kernel_rfl) (fun _ => by kernel_rfl) ?_
     refine T.nil ?_
     refine T.seq ?_
     refine T.region ?_
     refine T.pure (.slice A1 r1.length c1) (by kernel_rfl) (fun _ => by kernel_rfl) ?_
     refine T.pure (.int .i64 3) (by kernel_rfl) (fun _ => by kernel_rfl) ?_
     obtain ⟨e4, hb8, hF⟩ := Option.bind_eq_some_iff.1 hF
     obtain ⟨hi10, hi11, hi12⟩ := idx_some hb8
     refine T.look (.pointer (some ((sadr A1).add (((3 : Int).toNat) * 1)))) (by kernel_rfl) (fun w' hh => exec_indexAddr (e := 9) (s := 1) rfl rfl rfl (by kernel_rfl) (by kernel_rfl) hi10 hi11 ((SlOk.mono hs1 (View.le_trans (made_le _ _) (View.le_trans (View.le_trans hV2 hV3) hV4))).some_ hi12 (by decide))) ?_
     refine T.look (.string e4) (by kernel_rfl) (fun w' hh => exec_load1 rfl rfl (by kernel_rfl) (hh.cell_view (SlOk.cellF0 (E := eStr) (SlOk.mono hs1 (View.le_trans (made_le _ _) (View.le_trans (View.le_trans hV2 hV3) hV4))) hi12 (fun _ _ _ h => h) rfl))) ?_
     obtain ⟨r5, hb9, hF⟩ := Option.bind_eq_some_iff.1 hF
     refine T.step (W1.call (vT2 (vSc eInt) vErr) r5 59 #[.string e4] (by kernel_rfl) (fun _ => by kernel_rfl) (fun w' hh => strconv_Atoi_l e4 r5 hb9 w' (Glob.mono hGl (View.le_trans hh.base hh.view))) ?_)
     intro u V5 hV5 hu
     obtain ⟨u7, u8, rfl, hu7, hu8⟩ := vT2_elim hu
     obtain rfl := sureInt _ _ _ hu7
     obtain ⟨t4, p4, rfl⟩ := hu8
     refine T.pure (.tuple #[.int .i64 r5.1, errV r5.2 t4 p4]) (by kernel_rfl) (fun _ => by kernel_rfl) ?_
     refine T.pure (.int .i64 r5.1) (by kernel_rfl) (fun _ => by kernel_rfl) ?_
     refine T.pure (errV r5.2 t4 p4) (by kernel_rfl) (fun _ => by kernel_rfl) ?_
     refine T.pure (.int .i64 r5.1) (by kernel_rfl) (fun _ => by kernel_rfl) ?_
     refine T.pure (errV r5.2 t4 p4) (by kernel_rfl) (fun _ => by kernel_rfl) ?_
     refine T.nil ?_
     refine T.seq ?_
     refine T.seq ?_
     refine T.region ?_
     refine T.pure (errV r5.2 t4 p4) (by kernel_rfl) (fun _ => by kernel_rfl) ?_
     refine T.look (.bool r5.2) (by kernel_rfl) (fun w' hh => exec_err_neq rfl rfl (fun _ => by kernel_rfl) (fun _ _ _ => by kernel_rfl)) ?_
     refine T.nil ?_
     refine T.cond r5.2 (by kernel_rfl) (by kernel_rfl) (fun hc5 => ?_) (fun hc5 => ?_)
     ·
      rw [hc5, cond_true] at hF
      refine T.seq ?_
      refine T.region ?_
      refine T.pure (.agg #[.int .i64 0, .int .i64 0, .int .i64 0, .int .i64 0, .int .i64 0, .string (ByteArray.mk #[])]) (by kernel_rfl) (fun _ => by kernel_rfl) ?_
      refine T.step (W1.store 1 [.int .i64 0, .int .i64 0, .int .i64 0, .int .i64 0, .int .i64 0, .string (ByteArray.mk #[])] [box b2 98 [.int .i64 r2.1, .int .i64 r3.1, .int .i64 r4.1, .int .i64 0, .int .i64 0], box b1 36 [.int .i64 0, .int .i64 0, .int .i64 0, .int .i64 0, .int .i64 0, .string (ByteArray.mk #[])]] (by rfl) rfl (by kernel_rfl) (fun w' hw => exec_store (vs := [.int .i64 0, .int .i64 0, .int .i64 0, .int .i64 0, .int .i64 0, .string (ByteArray.mk #[])]) rfl rfl rfl rfl (by kernel_rfl) (one_of rfl) (by simp) rfl hw) ?_)
      refine T.pure (.bool false) (by kernel_rfl) (fun _ => by kernel_rfl) ?_
      refine T.nil ?_
      cases hF
      refine T.ret rfl ?_
      exact T.ret2 rfl (ResIs.cellN 1 rfl (by rfl) (fun _ => by kernel_rfl) (fun _ => by kernel_rfl)) (ResIs.tmp rfl) fun w' hh => ⟨_, rfl, hh.below, (vT2.mk (vAg.mk rfl) (show _ from rfl))⟩
     ·
      rw [hc5, cond_false] at hF
      refine T.skip_code ?_
      refine T.region ?_
      refine T.pure (.int .i64 3) (by kernel_rfl) (fun _ => by kernel_rfl) ?_
      refine T.pure (.int .i64 r5.1) (by kernel_rfl) (fun _ => by kernel_rfl) ?_
      refine T.pure (.pointer (some ⟨b2, 3, none⟩)) (by kernel_rfl) (fun _ => by kernel_rfl) ?_
      refine T.step (W1.store 0 [.int .i64 r2.1, .int .i64 r3.1, .int .i64 r4.1, .int .i64 r5.1, .int .i64 0] [box b2 98 [.int .i64 r2.1, .int .i64 r3.1, .int .i64 r4.1, .int .i64 r5.1, .int .i64 0], box b1 36 [.int .i64 0, .int .i64 0, .int .i64 0, .int .i64 0, .int .i64 0, .string (ByteArray.mk #[])]] (by rfl) rfl (by kernel_rfl) (fun w' hw => exec_store (vs := [.int .i64 r5.1]) rfl rfl rfl rfl (by kernel_rfl) (one_of rfl) (by simp) rfl hw) ?_)
      refine T.nil ?_
      refine T.region ?_
      refine T.pure (.int .i64 4) (by kernel_rfl) (fun _ => by kernel_rfl) ?_
      refine T.pure (.int .i64 4) (by kernel_rfl) (fun _ => by kernel_rfl) ?_
      refine T.nil ?_
      refine T.round ?_
      refine T.seq ?_
      refine T.region ?_
      refine T.pure (.bool true) (by kernel_rfl) (fun _ => by kernel_rfl) ?_
      refine T.nil ?_
      refine T.seq ?_
      refine T.cond true (by kernel_rfl) (by kernel_rfl) (fun _ => ?_) (fun h => Bool.noConfusion h)
      refine T.skip_code ?_
      refine T.seq ?_
      refine T.block ?_
      refine T.seq ?_
      refine T.region ?_
      refine T.pure (.int .i64 4) (by kernel_rfl) (fun _ => by kernel_rfl) ?_
      refine T.pure (.int .i64 4) (by kernel_rfl) (fun _ => by kernel_rfl) ?_
      refine T.nil ?_
      refine T.seq ?_
      refine T.region ?_
      refine T.pure (.slice A1 r1.length c1) (by kernel_rfl) (fun _ => by kernel_rfl) ?_
      refine T.pure (.int .i64 4) (by kernel_rfl) (fun _ => by kernel_rfl) ?_
      obtain ⟨e5, hb10, hF⟩ := Option.bind_eq_some_iff.1 hF
      obtain ⟨hi13, hi14, hi15⟩ := idx_some hb10
      refine T.look (.pointer (some ((sadr A1).add (((4 : Int).toNat) * 1)))) (by kernel_rfl) (fun w' hh => exec_indexAddr (e := 9) (s := 1) rfl rfl rfl (by kernel_rfl) (by kernel_rfl) hi13 hi14 ((SlOk.mono hs1 (View.le_trans (made_le _ _) (View.le_trans (View.le_trans (View.le_trans hV2 hV3) hV4) hV5))).some_ hi15 (by decide))) ?_
      refine T.look (.string e5) (by kernel_rfl) (fun w' hh => exec_load1 rfl rfl (by kernel_rfl) (hh.cell_view (SlOk.cellF0 (E := eStr) (SlOk.mono hs1 (View.le_trans (made_le _ _) (View.le_trans (View.le_trans (View.le_trans hV2 hV3) hV4) hV5))) hi15 (fun _ _ _ h => h) rfl))) ?_
      obtain ⟨r6, hb11, hF⟩ := Option.bind_eq_some_iff.1 hF
      refine T.step (W1.call (vT2 (vSc eInt) vErr) r6 59 #[.string e5] (by kernel_rfl) (fun _ => by kernel_rfl) (fun w' hh => strconv_Atoi_l e5 r6 hb11 w' (Glob.mono hGl (View.le_trans hh.base hh.view))) ?_)
      intro u V6 hV6 hu
      obtain ⟨u9, u10, rfl, hu9, hu10⟩ := vT2_elim hu
      obtain rfl := sureInt _ _ _ hu9
      obtain ⟨t5, p5, rfl⟩ := hu10
      refine T.pure (.tuple #[.int .i64 r6.1, errV r6.2 t5 p5]) (by kernel_rfl) (fun _ => by kernel_rfl) ?_
      refine T.pure (.int .i64 r6.1) (by kernel_rfl) (fun _ => by kernel_rfl) ?_
      refine T.pure (errV r6.2 t5 p5) (by kernel_rfl) (fun _ => by kernel_rfl) ?_
      refine T.pure (.int .i64 r6.1) (by kernel_rfl) (fun _ => by kernel_rfl) ?_
      refine T.pure (errV r6.2 t5 p5) (by kernel_rfl) (fun _ => by kernel_rfl) ?_
      refine T.nil ?_
      refine T.seq ?_
      refine T.seq ?_
      refine T.region ?_
      refine T.pure (errV r6.2 t5 p5) (by kernel_rfl) (fun _ => by kernel_rfl) ?_
      refine T.look (.bool r6.2) (by kernel_rfl) (fun w' hh => exec_err_neq rfl rfl (fun _ => by kernel_rfl) (fun _ _ _ => by kernel_rfl)) ?_
      refine T.nil ?_
      refine T.cond r6.2 (by kernel_rfl) (by kernel_rfl) (fun hc6 => ?_) (fun hc6 => ?_)
      ·
       rw [hc6, cond_true] at hF
       refine T.seq ?_
       refine T.region ?_
       refine T.pure (.agg #[.int .i64 0, .int .i64 0, .int .i64 0, .int .i64 0, .int .i64 0, .string (ByteArray.mk #[])]) (by kernel_rfl) (fun _ => by kernel_rfl) ?_
       refine T.step (W1.store 1 [.int .i64 0, .int .i64 0, .int .i64 0, .int .i64 0, .int .i64 0, .string (ByteArray.mk #[])] [box b2 98 [.int .i64 r2.1, .int .i64 r3.1, .int .i64 r4.1, .int .i64 r5.1, .int .i64 0], box b1 36 [.int .i64 0, .int .i64 0, .int .i64 0, .int .i64 0, .int .i64 0, .string (ByteArray.mk #[])]] (by rfl) rfl (by kernel_rfl) (fun w' hw => exec_store (vs := [.int .i64 0, .int .i64 0, .int .i64 0, .int .i64 0, .int .i64 0, .string (ByteArray.mk #[])]) rfl rfl rfl rfl (by kernel_rfl) (one_of rfl) (by simp) rfl hw) ?_)
       refine T.pure (.bool false) (by kernel_rfl) (fun _ => by kernel_rfl) ?_
       refine T.nil ?_
       cases hF
       refine T.ret rfl ?_
       exact T.ret2 rfl (ResIs.cellN 1 rfl (by rfl) (fun _ => by kernel_rfl) (fun _ => by kernel_rfl)) (ResIs.tmp rfl) fun w' hh => ⟨_, rfl, hh.below, (vT2.mk (vAg.mk rfl) (show _ from rfl))⟩
      ·
       rw [hc6, cond_false] at hF
       refine T.skip_code ?_
       refine T.region ?_
       refine T.pure (.int .i64 4) (by kernel_rfl) (fun _ => by kernel_rfl) ?_
       refine T.pure (.int .i64 r6.1) (by kernel_rfl) (fun _ => by kernel_rfl) ?_
       refine T.pure (.pointer (some ⟨b2, 4, none⟩)) (by kernel_rfl) (fun _ => by kernel_rfl) ?_
       refine T.step (W1.store 0 [.int .i64 r2.1, .int .i64 r3.1, .int .i64 r4.1, .int .i64 r5.1, .int .i64 r6.1] [box b2 98 [.int .i64 r2.1, .int .i64 r3.1, .int .i64 r4.1, .int .i64 r5.1, .int .i64 r6.1], box b1 36 [.int .i64 0, .int .i64 0, .int .i64 0, .int .i64 0, .int .i64 0, .string (ByteArray.mk #[])]] (by rfl) rfl (by kernel_rfl) (fun w' hw => exec_store (vs := [.int .i64 r6.1]) rfl rfl rfl rfl (by kernel_rfl) (one_of rfl) (by simp) rfl hw) ?_)
       refine T.nil ?_
       refine T.region ?_
       refine T.pure (.int .i64 5) (by kernel_rfl) (fun _ => by kernel_rfl) ?_
       refine T.pure (.int .i64 5) (by kernel_rfl) (fun _ => by kernel_rfl) ?_
       refine T.nil ?_
       refine T.round ?_
       refine T.seq ?_
       refine T.region ?_
       refine T.pure (.bool false) (by kernel_rfl) (fun _ => by kernel_rfl) ?_
       refine T.nil ?_
       refine T.seq ?_
       refine T.cond false (by kernel_rfl) (by kernel_rfl) (fun h => Bool.noConfusion h) (fun _ => ?_)
       refine T.exit ?_
       refine T.seq ?_
       refine T.region ?_
       refine T.pure (.slice A1 r1.length c1) (by kernel_rfl) (fun _ => by kernel_rfl) ?_
       obtain ⟨e6, hb12, hF⟩ := Option.bind_eq_some_iff.1 hF
       obtain ⟨hi16, hi17, hi18⟩ := idx_some hb12
       refine T.look (.pointer (some ((sadr A1).add (((5 : Int).toNat) * 1)))) (by kernel_rfl) (fun w' hh => exec_indexAddr (e := 9) (s := 1) rfl rfl rfl (by kernel_rfl) (by kernel_rfl) hi16 hi17 ((SlOk.mono hs1 (View.le_trans (made_le _ _) (View.le_trans (View.le_trans (View.le_trans (View.le_trans hV2 hV3) hV4) hV5) hV6))).some_ hi18 (by decide))) ?_
       refine T.look (.string e6) (by kernel_rfl) (fun w' hh => exec_load1 rfl rfl (by kernel_rfl) (hh.cell_view (SlOk.cellF0 (E := eStr) (SlOk.mono hs1 (View.le_trans (made_le _ _) (View.le_trans (View.le_trans (View.le_trans (View.le_trans hV2 hV3) hV4) hV5) hV6))) hi18 (fun _ _ _ h => h) rfl))) ?_
       obtain ⟨r7, hb13, hF⟩ := Option.bind_eq_some_iff.1 hF
       refine T.step (W1.call (vT2 (vSc eStr) (vSc eBool)) r7 60 #[.string e6] (by kernel_rfl) (fun _ => by kernel_rfl) (fun w' hh => dump_value_l F e6 r7 hb13 w' ) ?_)
       intro u V7 hV7 hu
       obtain rfl := (Sure.t2 sureStr sureBool) _ _ _ hu
       refine T.pure (.tuple #[.string r7.1, .bool r7.2]) (by kernel_rfl) (fun _ => by kernel_rfl) ?_
       refine T.pure (.string r7.1) (by kernel_rfl) (fun _ => by kernel_rfl) ?_
       refine T.pure (.bool r7.2) (by kernel_rfl) (fun _ => by kernel_rfl) ?_
       refine T.pure (.string r7.1) (by kernel_rfl) (fun _ => by kernel_rfl) ?_
       refine T.pure (.bool r7.2) (by kernel_rfl) (fun _ => by kernel_rfl) ?_
       refine T.nil ?_
       refine T.seq ?_
       refine T.region ?_
       refine T.pure (.pointer (some ⟨b2, 0, none⟩)) (by kernel_rfl) (fun _ => by kernel_rfl) ?_
       refine T.look (.int .i64 r2.1) (by kernel_rfl) (fun w' hh => exec_load1 rfl rfl (by kernel_rfl) (hh.cellBox (i := 0) (by rfl) 0)) ?_
       refine T.pure (.pointer (some ⟨b2, 1, none⟩)) (by kernel_rfl) (fun _ => by kernel_rfl) ?_
       refine T.look (.int .i64 r3.1) (by kernel_rfl) (fun w' hh => exec_load1 rfl rfl (by kernel_rfl) (hh.cellBox (i := 0) (by rfl) 1)) ?_
       refine T.pure (.pointer (some ⟨b2, 2, none⟩)) (by kernel_rfl) (fun _ => by kernel_rfl) ?_
       refine T.look (.int .i64 r4.1) (by kernel_rfl) (fun w' hh => exec_load1 rfl rfl (by kernel_rfl) (hh.cellBox (i := 0) (by rfl) 2)) ?_
       refine T.pure (.agg #[.int .i64 r2.1, .int .i64 r3.1, .int .i64 r4.1]) (by kernel_rfl) (fun _ => by kernel_rfl) ?_
       refine T.pure (.pointer (some ⟨b2, 3, none⟩)) (by kernel_rfl) (fun _ => by kernel_rfl) ?_
       refine T.look (.int .i64 r5.1) (by kernel_rfl) (fun w' hh => exec_load1 rfl rfl (by kernel_rfl) (hh.cellBox (i := 0) (by rfl) 3)) ?_
       refine T.pure (.pointer (some ⟨b2, 4, none⟩)) (by kernel_rfl) (fun _ => by kernel_rfl) ?_
       refine T.look (.int .i64 r6.1) (by kernel_rfl) (fun w' hh => exec_load1 rfl rfl (by kernel_rfl) (hh.cellBox (i := 0) (by rfl) 4)) ?_
       refine T.pure (.string r7.1) (by kernel_rfl) (fun _ => by kernel_rfl) ?_
       refine T.pure (.agg #[.int .i64 r2.1, .int .i64 r3.1, .int .i64 r4.1, .int .i64 r5.1, .int .i64 r6.1, .string r7.1]) (by kernel_rfl) (fun _ => by kernel_rfl) ?_
       refine T.step (W1.new 36 [.int .i64 0, .int .i64 0, .int .i64 0, .int .i64 0, .int .i64 0, .string (ByteArray.mk #[])] (fun b => .pointer (some ⟨b, 0, none⟩)) (by kernel_rfl) (fun _ => by kernel_rfl) (fun b3 => ?_))
       refine T.step (W1.store 0 [.int .i64 r2.1, .int .i64 r3.1, .int .i64 r4.1, .int .i64 r5.1, .int .i64 r6.1, .string r7.1] [box b3 36 [.int .i64 r2.1, .int .i64 r3.1, .int .i64 r4.1, .int .i64 r5.1, .int .i64 r6.1, .string r7.1], box b2 98 [.int .i64 r2.1, .int .i64 r3.1, .int .i64 r4.1, .int .i64 r5.1, .int .i64 r6.1], box b1 36 [.int .i64 0, .int .i64 0, .int .i64 0, .int .i64 0, .int .i64 0, .string (ByteArray.mk #[])]] (by rfl) rfl (by kernel_rfl) (fun w' hw => exec_store (vs := [.int .i64 r2.1, .int .i64 r3.1, .int .i64 r4.1, .int .i64 r5.1, .int .i64 r6.1, .string r7.1]) rfl rfl rfl rfl (by kernel_rfl) (one_of rfl) (by simp) rfl hw) ?_)
       refine T.nil ?_
       obtain ⟨z1, hX1, hF⟩ := Option.bind_eq_some_iff.1 hF
       refine T.cut (fun a w' => ∃ (V8 : View), View.le V7 V8 ∧ Fr 65 [(2, .pointer (some ⟨b1, 0, none⟩)), (3, .bool z1)] a ∧ Hp w V8 [box b1 36 [.int .i64 r2.1, .int .i64 r3.1, .int .i64 r4.1, .int .i64 r5.1, .int .i64 r6.1, .string r7.1]] w') ?_ ?_
       ·
        refine T.held [box b3 36 [.int .i64 r2.1, .int .i64 r3.1, .int .i64 r4.1, .int .i64 r5.1, .int .i64 r6.1, .string r7.1], box b2 98 [.int .i64 r2.1, .int .i64 r3.1, .int .i64 r4.1, .int .i64 r5.1, .int .i64 r6.1]] (by kernel_rfl) ?_
        refine TA.take 0 (.agg #[.int .i64 r2.1, .int .i64 r3.1, .int .i64 r4.1, .int .i64 r5.1, .int .i64 r6.1, .string r7.1]) rfl (by kernel_rfl) (by kernel_rfl) (by kernel_rfl) (fun _ _ _ h => h) (Hp.old (View.le_refl _) (View.le_trans (View.le_trans (View.le_trans (View.le_trans (View.le_trans (View.le_trans hV1 hV2) hV3) hV4) hV5) hV6) hV7) (.cons_cons _ (.cons_cons _ (.cons _ List.Sublist.slnil))) (OldAll.box (OldAll.box OldAll.nil))) (by kernel_rfl) (fun w' hh => exec_loadN (cs := [.int .i64 r2.1, .int .i64 r3.1, .int .i64 r4.1, .int .i64 r5.1, .int .i64 r6.1, .string r7.1]) rfl rfl (by kernel_rfl) (by kernel_rfl) (fun j u hj => (hh.box_at (i := 0) (cs := [.int .i64 r2.1, .int .i64 r3.1, .int .i64 r4.1, .int .i64 r5.1, .int .i64 r6.1, .string r7.1]) (by rfl) 0 j).trans (seg_at (n := 6) (by rfl) hj))) ?_
        refine TA.take 1 (.bool r7.2) rfl (by kernel_rfl) (by kernel_rfl) (by kernel_rfl) (fun _ _ _ h => h) (Hp.old (View.le_refl _) (View.le_trans (View.le_trans (View.le_trans (View.le_trans (View.le_trans (View.le_trans hV1 hV2) hV3) hV4) hV5) hV6) hV7) (.cons_cons _ (.cons_cons _ (.cons _ List.Sublist.slnil))) (OldAll.box (OldAll.box OldAll.nil))) (by kernel_rfl) (fun _ _ => by kernel_rfl) ?_
        refine TA.take 2 (.bool r7.2) rfl (by kernel_rfl) (by kernel_rfl) (by kernel_rfl) (fun _ _ _ h => h) (Hp.old (View.le_refl _) (View.le_trans (View.le_trans (View.le_trans (View.le_trans (View.le_trans (View.le_trans hV1 hV2) hV3) hV4) hV5) hV6) hV7) (.cons_cons _ (.cons_cons _ (.cons _ List.Sublist.slnil))) (OldAll.box (OldAll.box OldAll.nil))) (by kernel_rfl) (fun _ _ => by kernel_rfl) ?_
        cases hg1 : r7.2
        ·
         rw [hg1, cond_false] at hX1
         refine TA.takeNo 3 rfl (by kernel_rfl) (by kernel_rfl) (by kernel_rfl) (fun _ _ _ h => h) (Hp.old (View.le_refl _) (View.le_trans (View.le_trans (View.le_trans (View.le_trans (View.le_trans (View.le_trans hV1 hV2) hV3) hV4) hV5) hV6) hV7) (.cons_cons _ (.cons_cons _ (.cons _ List.Sublist.slnil))) (OldAll.box (OldAll.box OldAll.nil))) (by kernel_rfl) (by kernel_rfl) ?_
         refine TA.takeNo 4 rfl (by kernel_rfl) (by kernel_rfl) (by kernel_rfl) (fun _ _ _ h => h) (Hp.old (View.le_refl _) (View.le_trans (View.le_trans (View.le_trans (View.le_trans (View.le_trans (View.le_trans hV1 hV2) hV3) hV4) hV5) hV6) hV7) (.cons_cons _ (.cons_cons _ (.cons _ List.Sublist.slnil))) (OldAll.box (OldAll.box OldAll.nil))) (by kernel_rfl) (by kernel_rfl) ?_
         refine TA.takeNo 5 rfl (by kernel_rfl) (by kernel_rfl) (by kernel_rfl) (fun _ _ _ h => h) (Hp.old (View.le_refl _) (View.le_trans (View.le_trans (View.le_trans (View.le_trans (View.le_trans (View.le_trans hV1 hV2) hV3) hV4) hV5) hV6) hV7) (.cons_cons _ (.cons_cons _ (.cons _ List.Sublist.slnil))) (OldAll.box (OldAll.box OldAll.nil))) (by kernel_rfl) (by kernel_rfl) ?_
         refine TA.takeNo 6 rfl (by kernel_rfl) (by kernel_rfl) (by kernel_rfl) (fun _ _ _ h => h) (Hp.old (View.le_refl _) (View.le_trans (View.le_trans (View.le_trans (View.le_trans (View.le_trans (View.le_trans hV1 hV2) hV3) hV4) hV5) hV6) hV7) (.cons_cons _ (.cons_cons _ (.cons _ List.Sublist.slnil))) (OldAll.box (OldAll.box OldAll.nil))) (by kernel_rfl) (by kernel_rfl) ?_
         refine TA.takeNo 7 rfl (by kernel_rfl) (by kernel_rfl) (by kernel_rfl) (fun _ _ _ h => h) (Hp.old (View.le_refl _) (View.le_trans (View.le_trans (View.le_trans (View.le_trans (View.le_trans (View.le_trans hV1 hV2) hV3) hV4) hV5) hV6) hV7) (.cons_cons _ (.cons_cons _ (.cons _ List.Sublist.slnil))) (OldAll.box (OldAll.box OldAll.nil))) (by kernel_rfl) (by kernel_rfl) ?_
         refine TA.take 8 (.bool false) rfl (by kernel_rfl) (by kernel_rfl) (by kernel_rfl) (fun _ _ _ h => h) (Hp.old (View.le_refl _) (View.le_trans (View.le_trans (View.le_trans (View.le_trans (View.le_trans (View.le_trans hV1 hV2) hV3) hV4) hV5) hV6) hV7) (.cons_cons _ (.cons_cons _ (.cons _ List.Sublist.slnil))) (OldAll.box (OldAll.box OldAll.nil))) (by kernel_rfl) (fun _ _ => by kernel_rfl) ?_
         refine TA.all [9] (by kernel_rfl) rfl ⟨?_, trivial⟩
         refine TA.br rfl (W1.store 2 [.int .i64 r2.1, .int .i64 r3.1, .int .i64 r4.1, .int .i64 r5.1, .int .i64 r6.1, .string r7.1] [box b3 36 [.int .i64 r2.1, .int .i64 r3.1, .int .i64 r4.1, .int .i64 r5.1, .int .i64 r6.1, .string r7.1], box b2 98 [.int .i64 r2.1, .int .i64 r3.1, .int .i64 r4.1, .int .i64 r5.1, .int .i64 r6.1], box b1 36 [.int .i64 r2.1, .int .i64 r3.1, .int .i64 r4.1, .int .i64 r5.1, .int .i64 r6.1, .string r7.1]] (by rfl) rfl (by kernel_rfl) (fun w' hw => exec_store (vs := [.int .i64 r2.1, .int .i64 r3.1, .int .i64 r4.1, .int .i64 r5.1, .int .i64 r6.1, .string r7.1]) rfl rfl rfl rfl (by kernel_rfl) (one_of rfl) (by simp) rfl hw) ?_)
         refine TA.on (Hp.old (View.le_refl _) (View.le_trans (View.le_trans (View.le_trans (View.le_trans (View.le_trans (View.le_trans hV1 hV2) hV3) hV4) hV5) hV6) hV7) (.cons_cons _ (.cons_cons _ (.cons _ List.Sublist.slnil))) (OldAll.box (OldAll.box OldAll.nil))) ?_
         refine TA.take 10 (.bool false) rfl (by kernel_rfl) (by kernel_rfl) (by kernel_rfl) (fun _ _ _ h => h) (Hp.old (View.le_refl _) (View.le_trans (View.le_trans (View.le_trans (View.le_trans (View.le_trans (View.le_trans hV1 hV2) hV3) hV4) hV5) hV6) hV7) (.cons_cons _ (.cons_cons _ (.cons _ List.Sublist.slnil))) (OldAll.box (OldAll.box OldAll.nil))) (by kernel_rfl) (fun _ _ => by kernel_rfl) ?_
         refine TA.done (by kernel_rfl) ?_
         cases hX1
         exact fun a w' hf hh => Exists.intro V7 (And.intro (View.le_refl _) (And.intro (((Fr.nil hf).pick hf 3 rfl).pick hf 2 rfl) (hh.sub (.cons _ (.cons _ (.cons_cons _ List.Sublist.slnil))))))
        ·
         rw [hg1, cond_true] at hX1
         refine TA.take 3 (.agg #[.int .i64 r2.1, .int .i64 r3.1, .int .i64 r4.1, .int .i64 r5.1, .int .i64 r6.1, .string r7.1]) rfl (by kernel_rfl) (by kernel_rfl) (by kernel_rfl) (fun _ _ _ h => h) (Hp.old (View.le_refl _) (View.le_trans (View.le_trans (View.le_trans (View.le_trans (View.le_trans (View.le_trans hV1 hV2) hV3) hV4) hV5) hV6) hV7) (.cons_cons _ (.cons_cons _ (.cons _ List.Sublist.slnil))) (OldAll.box (OldAll.box OldAll.nil))) (by kernel_rfl) (fun w' hh => exec_loadN (cs := [.int .i64 r2.1, .int .i64 r3.1, .int .i64 r4.1, .int .i64 r5.1, .int .i64 r6.1, .string r7.1]) rfl rfl (by kernel_rfl) (by kernel_rfl) (fun j u hj => (hh.box_at (i := 0) (cs := [.int .i64 r2.1, .int .i64 r3.1, .int .i64 r4.1, .int .i64 r5.1, .int .i64 r6.1, .string r7.1]) (by rfl) 0 j).trans (seg_at (n := 6) (by rfl) hj))) ?_
         refine TA.take 5 (.string p0) rfl (by kernel_rfl) (by kernel_rfl) (by kernel_rfl) (fun _ _ _ h => h) (Hp.old (View.le_refl _) (View.le_trans (View.le_trans (View.le_trans (View.le_trans (View.le_trans (View.le_trans hV1 hV2) hV3) hV4) hV5) hV6) hV7) (.cons_cons _ (.cons_cons _ (.cons _ List.Sublist.slnil))) (OldAll.box (OldAll.box OldAll.nil))) (by kernel_rfl) (fun _ _ => by kernel_rfl) ?_
         obtain ⟨s1, hb14, hX1⟩ := Option.bind_eq_some_iff.1 hX1
         refine TA.take 6 (.string s1) rfl (by kernel_rfl) (by kernel_rfl) (by kernel_rfl) (fun _ _ _ h => h) (Hp.old (View.le_refl _) (View.le_trans (View.le_trans (View.le_trans (View.le_trans (View.le_trans (View.le_trans hV1 hV2) hV3) hV4) hV5) hV6) hV7) (.cons_cons _ (.cons_cons _ (.cons _ List.Sublist.slnil))) (OldAll.box (OldAll.box OldAll.nil))) (by kernel_rfl) (fun w' hh => exec_scat rfl rfl rfl hb14) ?_
         refine TA.all [4] (by kernel_rfl) rfl ⟨?_, trivial⟩
         obtain ⟨r8, hb15, hX1⟩ := Option.bind_eq_some_iff.1 hX1
         refine TA.br rfl (W1.call (vSc eStr) r8 35 #[.agg #[.int .i64 r2.1, .int .i64 r3.1, .int .i64 r4.1, .int .i64 r5.1, .int .i64 r6.1, .string r7.1]] (by kernel_rfl) (fun _ => by kernel_rfl) (fun w' hh => dump_line_l F (DElem.mk (DKey.mk r2.1 r3.1 r4.1) r5.1 r6.1 r7.1) r8 hb15 w' (Glob.mono hGl (View.le_trans hh.base hh.view))) ?_)
         intro u V9 hV9 hu
         obtain rfl := sureStr _ _ _ hu
         refine TA.on (Hp.old hV9 (View.le_trans (View.le_trans (View.le_trans (View.le_trans (View.le_trans (View.le_trans hV1 hV2) hV3) hV4) hV5) hV6) hV7) (.cons_cons _ (.cons_cons _ (.cons _ List.Sublist.slnil))) (OldAll.box (OldAll.box OldAll.nil))) ?_
         refine TA.take 7 (.bool (seq r8 s1)) rfl (by kernel_rfl) (by kernel_rfl) (by kernel_rfl) (fun _ _ _ h => h) (Hp.old hV9 (View.le_trans (View.le_trans (View.le_trans (View.le_trans (View.le_trans (View.le_trans hV1 hV2) hV3) hV4) hV5) hV6) hV7) (.cons_cons _ (.cons_cons _ (.cons _ List.Sublist.slnil))) (OldAll.box (OldAll.box OldAll.nil))) (by kernel_rfl) (fun _ _ => by kernel_rfl) ?_
         refine TA.take 8 (.bool (seq r8 s1)) rfl (by kernel_rfl) (by kernel_rfl) (by kernel_rfl) (fun _ _ _ h => h) (Hp.old hV9 (View.le_trans (View.le_trans (View.le_trans (View.le_trans (View.le_trans (View.le_trans hV1 hV2) hV3) hV4) hV5) hV6) hV7) (.cons_cons _ (.cons_cons _ (.cons _ List.Sublist.slnil))) (OldAll.box (OldAll.box OldAll.nil))) (by kernel_rfl) (fun _ _ => by kernel_rfl) ?_
         refine TA.all [9] (by kernel_rfl) rfl ⟨?_, trivial⟩
         refine TA.br rfl (W1.store 2 [.int .i64 r2.1, .int .i64 r3.1, .int .i64 r4.1, .int .i64 r5.1, .int .i64 r6.1, .string r7.1] [box b3 36 [.int .i64 r2.1, .int .i64 r3.1, .int .i64 r4.1, .int .i64 r5.1, .int .i64 r6.1, .string r7.1], box b2 98 [.int .i64 r2.1, .int .i64 r3.1, .int .i64 r4.1, .int .i64 r5.1, .int .i64 r6.1], box b1 36 [.int .i64 r2.1, .int .i64 r3.1, .int .i64 r4.1, .int .i64 r5.1, .int .i64 r6.1, .string r7.1]] (by rfl) rfl (by kernel_rfl) (fun w' hw => exec_store (vs := [.int .i64 r2.1, .int .i64 r3.1, .int .i64 r4.1, .int .i64 r5.1, .int .i64 r6.1, .string r7.1]) rfl rfl rfl rfl (by kernel_rfl) (one_of rfl) (by simp) rfl hw) ?_)
         refine TA.on (Hp.old hV9 (View.le_trans (View.le_trans (View.le_trans (View.le_trans (View.le_trans (View.le_trans hV1 hV2) hV3) hV4) hV5) hV6) hV7) (.cons_cons _ (.cons_cons _ (.cons _ List.Sublist.slnil))) (OldAll.box (OldAll.box OldAll.nil))) ?_
         refine TA.take 10 (.bool (seq r8 s1)) rfl (by kernel_rfl) (by kernel_rfl) (by kernel_rfl) (fun _ _ _ h => h) (Hp.old hV9 (View.le_trans (View.le_trans (View.le_trans (View.le_trans (View.le_trans (View.le_trans hV1 hV2) hV3) hV4) hV5) hV6) hV7) (.cons_cons _ (.cons_cons _ (.cons _ List.Sublist.slnil))) (OldAll.box (OldAll.box OldAll.nil))) (by kernel_rfl) (fun _ _ => by kernel_rfl) ?_
         refine TA.done (by kernel_rfl) ?_
         cases hX1
         exact fun a w' hf hh => Exists.intro V9 (And.intro hV9 (And.intro (((Fr.nil hf).pick hf 3 rfl).pick hf 2 rfl) (hh.sub (.cons _ (.cons _ (.cons_cons _ List.Sublist.slnil))))))
       ·
        rintro a w' ⟨V8, hV8, hf, hh⟩
        refine (?_ : T 65 w V8 [box b1 36 [.int .i64 r2.1, .int .i64 r3.1, .int .i64 r4.1, .int .i64 r5.1, .int .i64 r6.1, .string r7.1]] [(2, .pointer (some ⟨b1, 0, none⟩)), (3, .bool z1)] _) a w' hf hh
        clear hf hh
        cases hF
        refine T.ret rfl ?_
        exact T.ret2 rfl (ResIs.cellN 0 rfl (by rfl) (fun _ => by kernel_rfl) (fun _ => by kernel_rfl)) (ResIs.tmp rfl) fun w' hh => ⟨_, rfl, hh.below, (vT2.mk (vAg.mk rfl) (show _ from rfl))⟩

set_option maxRecDepth 100000 in
set_option maxHeartbeats 4000000 in
theorem dump_Read_l (F : Nat) (p0 : ByteArray) (r : ((List DElem)) × Int) (hF : dump_Read F p0 = some r) (w : World) (hGl : Glob w) :
    Calls Tryd.prog 12 #[.string p0] w (Post (vT2 (vSc (eList eElem)) (vSc eInt)) r w) := by
 unfold dump_Read at hF
 refine T.start (l := [.string p0]) Tryd.func12 rfl rfl rfl ?_
 refine T.seq ?_
 refine T.region ?_
 refine T.pure (.slice none 0 0) (by kernel_rfl) (fun _ => by kernel_rfl) ?_
 refine T.pure (.int .i64 0) (by kernel_rfl) (fun _ => by kernel_rfl) ?_
 refine T.nil ?_
 refine T.seq ?_
 refine T.region ?_
 refine T.pure (.slice none 0 0) (by kernel_rfl) (fun _ => by kernel_rfl) ?_
 refine T.nil ?_
 refine T.rownil 36 eElem ?_
 obtain ⟨q1, hz1, hF⟩ := Option.bind_eq_some_iff.1 hF
 refine T.cut (fun a w' => ∃ (z1 : List DElem), q1 = Sum.inl z1 ∧ ∃ (A2 : Option Addr) (c2 : Nat) (V2 : View), View.le (vw w) V2 ∧ Fr 38 [(4, .slice A2 z1.length c2)] a ∧ Hp w V2 [row 36 eElem A2 c2 z1] w') ?_ ?_
 ·
  refine T.block ?_
  refine T.iter (fun s1 a w' => ∃ (x1 : List DElem) (x2 : ByteArray), s1 = (x1, x2) ∧ ∃ (A1 : Option Addr) (c1 : Nat) (V1 : View), View.le (vw w) V1 ∧ Fr 38 [(0, .string x2), (4, .slice A1 x1.length c1)] a ∧ Hp w V1 [row 36 eElem A1 c1 x1] w') hz1 ?_ ?_
  ·
   exact fun a w' hf hh => Exists.intro [] (Exists.intro p0 (And.intro rfl (Exists.intro none (Exists.intro 0 (Exists.intro (vw w) (And.intro (View.le_refl _) (And.intro (((Fr.nil hf).pick hf 4 rfl).pick hf 0 rfl) (hh.sub (.cons_cons _ List.Sublist.slnil)))))))))
  ·
   rintro s1 y1 hY1 hr1 a w' ⟨x1, x2, rfl, A1, c1, V1, hV1, hf, hh⟩
   refine (?_ : T 38 w V1 [row 36 eElem A1 c1 x1] [(0, .string x2), (4, .slice A1 x1.length c1)] _) a w' hf hh
   clear hf hh
   try dsimp only at hY1
   refine T.seq ?_
   refine T.seq ?_
   refine T.region ?_
   refine T.pure (.string x2) (by kernel_rfl) (fun _ => by kernel_rfl) ?_
   refine T.pure (.bool (!(seq x2 (ByteArray.mk #[])))) (by kernel_rfl) (fun _ => by kernel_rfl) ?_
   refine T.nil ?_
   refine T.cond (!(seq x2 (ByteArray.mk #[]))) (by kernel_rfl) (by kernel_rfl) (fun hc1 => ?_) (fun hc1 => ?_)
   ·
    rw [hc1, cond_true] at hY1
    refine T.skip_code ?_
    refine T.block ?_
    refine T.seq ?_
    refine T.region ?_
    refine T.pure (.string x2) (by kernel_rfl) (fun _ => by kernel_rfl) ?_
    obtain ⟨r2, hb1, hY1⟩ := Option.bind_eq_some_iff.1 hY1
    refine T.step (W1.call (vT3 (vSc eStr) (vSc eStr) (vSc eBool)) r2 32 #[.string x2, .string (ByteArray.mk #[10])] (by kernel_rfl) (fun _ => by kernel_rfl) (fun w' hh => strings_Cut_l x2 (ByteArray.mk #[10]) r2 hb1 w' (Glob.mono hGl (View.le_trans hh.base hh.view))) ?_)
    intro u V3 hV3 hu
    obtain rfl := (Sure.t3 sureStr sureStr sureBool) _ _ _ hu
    refine T.pure (.tuple #[.string r2.1, .string r2.2.1, .bool r2.2.2]) (by kernel_rfl) (fun _ => by kernel_rfl) ?_
    refine T.pure (.string r2.1) (by kernel_rfl) (fun _ => by kernel_rfl) ?_
    refine T.pure (.string r2.2.1) (by kernel_rfl) (fun _ => by kernel_rfl) ?_
    refine T.pure (.bool r2.2.2) (by kernel_rfl) (fun _ => by kernel_rfl) ?_
    refine T.pure (.string r2.1) (by kernel_rfl) (fun _ => by kernel_rfl) ?_
    refine T.pure (.string r2.2.1) (by kernel_rfl) (fun _ => by kernel_rfl) ?_
    refine T.pure (.bool r2.2.2) (by kernel_rfl) (fun _ => by kernel_rfl) ?_
    refine T.nil ?_
    refine T.seq ?_
    refine T.region ?_
    refine T.pure (.string r2.1) (by kernel_rfl) (fun _ => by kernel_rfl) ?_
    obtain ⟨r3, hb2, hY1⟩ := Option.bind_eq_some_iff.1 hY1
    refine T.step (W1.call (vT2 (vAg eElem) (vSc eBool)) r3 33 #[.string r2.1] (by kernel_rfl) (fun _ => by kernel_rfl) (fun w' hh => dump_record_l F r2.1 r3 hb2 w' (Glob.mono hGl (View.le_trans hh.base hh.view))) ?_)
    intro u V4 hV4 hu
    obtain rfl := (Sure.t2 sureElem sureBool) _ _ _ hu
    refine T.pure (.tuple #[.agg #[.int .i64 r3.1.key.pfs, .int .i64 r3.1.key.obj, .int .i64 r3.1.key.off, .int .i64 r3.1.made, .int .i64 r3.1.gone, .string r3.1.val], .bool r3.2]) (by kernel_rfl) (fun _ => by kernel_rfl) ?_
    refine T.pure (.agg #[.int .i64 r3.1.key.pfs, .int .i64 r3.1.key.obj, .int .i64 r3.1.key.off, .int .i64 r3.1.made, .int .i64 r3.1.gone, .string r3.1.val]) (by kernel_rfl) (fun _ => by kernel_rfl) ?_
    refine T.pure (.bool r3.2) (by kernel_rfl) (fun _ => by kernel_rfl) ?_
    refine T.step (W1.new 36 [.int .i64 0, .int .i64 0, .int .i64 0, .int .i64 0, .int .i64 0, .string (ByteArray.mk #[])] (fun b => .pointer (some ⟨b, 0, none⟩)) (by kernel_rfl) (fun _ => by kernel_rfl) (fun b1 => ?_))
    refine T.step (W1.store 0 [.int .i64 r3.1.key.pfs, .int .i64 r3.1.key.obj, .int .i64 r3.1.key.off, .int .i64 r3.1.made, .int .i64 r3.1.gone, .string r3.1.val] [box b1 36 [.int .i64 r3.1.key.pfs, .int .i64 r3.1.key.obj, .int .i64 r3.1.key.off, .int .i64 r3.1.made, .int .i64 r3.1.gone, .string r3.1.val], row 36 eElem A1 c1 x1] (by rfl) rfl (by kernel_rfl) (fun w' hw => exec_store (vs := [.int .i64 r3.1.key.pfs, .int .i64 r3.1.key.obj, .int .i64 r3.1.key.off, .int .i64 r3.1.made, .int .i64 r3.1.gone, .string r3.1.val]) rfl rfl rfl rfl (by kernel_rfl) (one_of rfl) (by simp) rfl hw) ?_)
    refine T.pure (.bool r3.2) (by kernel_rfl) (fun _ => by kernel_rfl) ?_
    refine T.nil ?_
    refine T.seq ?_
    refine T.cut (fun a w' => Fr 38 [(4, .slice A1 x1.length c1), (6, .string r2.2.1), (8, .pointer (some ⟨b1, 0, none⟩)), (28, .bool ((!r2.2.2) || (!r3.2)))] a ∧ Hp w V4 [box b1 36 [.int .i64 r3.1.key.pfs, .int .i64 r3.1.key.obj, .int .i64 r3.1.key.off, .int .i64 r3.1.made, .int .i64 r3.1.gone, .string r3.1.val], row 36 eElem A1 c1 x1] w') ?_ ?_
    ·
     refine T.region ?_
     refine T.pure (.bool r2.2.2) (by kernel_rfl) (fun _ => by kernel_rfl) ?_
     refine T.pure (.bool (!r2.2.2)) (by kernel_rfl) (fun _ => by kernel_rfl) ?_
     refine T.pure (.bool (!r2.2.2)) (by kernel_rfl) (fun _ => by kernel_rfl) ?_
     cases hg1 : (!r2.2.2)
     ·
      skip
      refine T.pure (.bool r3.2) (by kernel_rfl) (fun _ => by kernel_rfl) ?_
      refine T.pure (.bool (!r3.2)) (by kernel_rfl) (fun _ => by kernel_rfl) ?_
      refine T.pure (.bool (!r3.2)) (by kernel_rfl) (fun _ => by kernel_rfl) ?_
      refine T.nil ?_
      exact fun a w' hf hh => And.intro (((((Fr.nil hf).pick hf 28 rfl).pick hf 8 rfl).pick hf 6 rfl).pick hf 4 rfl) (hh.sub (.cons_cons _ (.cons_cons _ List.Sublist.slnil)))
     ·
      skip
      refine T.pass (by kernel_rfl) (by kernel_rfl) ?_
      refine T.pass (by kernel_rfl) (by kernel_rfl) ?_
      refine T.pure (.bool true) (by kernel_rfl) (fun _ => by kernel_rfl) ?_
      refine T.nil ?_
      exact fun a w' hf hh => And.intro (((((Fr.nil hf).pick hf 28 rfl).pick hf 8 rfl).pick hf 6 rfl).pick hf 4 rfl) (hh.sub (.cons_cons _ (.cons_cons _ List.Sublist.slnil)))
    ·
     rintro a w' ⟨hf, hh⟩
     refine (?_ : T 38 w V4 [box b1 36 [.int .i64 r3.1.key.pfs, .int .i64 r3.1.key.obj, .int .i64 r3.1.key.off, .int .i64 r3.1.made, .int .i64 r3.1.gone, .string r3.1.val], row 36 eElem A1 c1 x1] [(4, .slice A1 x1.length c1), (6, .string r2.2.1), (8, .pointer (some ⟨b1, 0, none⟩)), (28, .bool ((!r2.2.2) || (!r3.2)))] _) a w' hf hh
     clear hf hh
     refine T.cond ((!r2.2.2) || (!r3.2)) (by kernel_rfl) (by kernel_rfl) (fun hc2 => ?_) (fun hc2 => ?_)
     ·
      rw [hc2, cond_true] at hY1
      refine T.seq ?_
      refine T.region ?_
      refine T.pure (.slice none 0 0) (by kernel_rfl) (fun _ => by kernel_rfl) ?_
      refine T.pure (.int .i64 3) (by kernel_rfl) (fun _ => by kernel_rfl) ?_
      refine T.nil ?_
      cases hY1
      cases (hr1 _ rfl)
      try dsimp only at hF
      cases hF
      refine T.ret rfl ?_
      exact T.ret2 rfl (ResIs.tmp rfl) (ResIs.tmp rfl) fun w' hh => ⟨_, rfl, hh.below, (vT2.mk ⟨_, _, rfl, (SlOk.nil _ _)⟩ (show _ from rfl))⟩
     ·
      rw [hc2, cond_false] at hY1
      refine T.skip_code ?_
      refine T.seq ?_
      refine T.region ?_
      refine T.pure (.slice A1 x1.length c1) (by kernel_rfl) (fun _ => by kernel_rfl) ?_
      refine T.look (.agg #[.int .i64 r3.1.key.pfs, .int .i64 r3.1.key.obj, .int .i64 r3.1.key.off, .int .i64 r3.1.made, .int .i64 r3.1.gone, .string r3.1.val]) (by kernel_rfl) (fun w' hh => exec_loadN (cs := [.int .i64 r3.1.key.pfs, .int .i64 r3.1.key.obj, .int .i64 r3.1.key.off, .int .i64 r3.1.made, .int .i64 r3.1.gone, .string r3.1.val]) rfl rfl (by kernel_rfl) (by kernel_rfl) (fun j u hj => (hh.box_at (i := 0) (cs := [.int .i64 r3.1.key.pfs, .int .i64 r3.1.key.obj, .int .i64 r3.1.key.off, .int .i64 r3.1.made, .int .i64 r3.1.gone, .string r3.1.val]) (by rfl) 0 j).trans (seg_at (n := 6) (by rfl) hj))) ?_
      refine T.step (W1.new 36 [.int .i64 r3.1.key.pfs, .int .i64 r3.1.key.obj, .int .i64 r3.1.key.off, .int .i64 r3.1.made, .int .i64 r3.1.gone, .string r3.1.val] (fun b => .slice (some ⟨b, 0, none⟩) 1 1) (by kernel_rfl) (fun _ => by kernel_rfl) (fun b2 => ?_))
      obtain ⟨y2, hb3, hY1⟩ := Option.bind_eq_some_iff.1 hY1
      obtain ⟨hb3_r, hb3_m, rfl⟩ := grow_some hb3
      obtain ⟨ti, hti, hz1, hz2, hz3⟩ := info_parts (P := Tryd.prog) (e := 36) (z := .agg #[.int .i64 0, .int .i64 0, .int .i64 0, .int .i64 0, .int .i64 0, .string (ByteArray.mk #[])]) (size := 6) (bytes := 56) (by kernel_rfl)
      refine T.step (W1.append (E := eElem) (l := x1) (m := [r3.1]) 2 _ _ 56 ti _ (by rfl) (by kernel_rfl) rfl (by kernel_rfl) hti hz1 hz2 hz3 rfl (by decide) rfl rfl (fun w' hh => (SlOk.srcF (slok_lit (E := eElem) (f := DElem.cells) [r3.1] (fun _ _ => rfl) (Nat.le_of_ble_eq_true (by rfl)) (fun j => hh.cellBox (i := 0) (by rfl) j)) (fun _ _ _ _ h => h))) hb3_r hb3_m (fun A3 c3 => ?_))
      refine T.pure (.slice A3 ((x1 ++ [r3.1]).length) c3) (by kernel_rfl) (fun _ => by kernel_rfl) ?_
      refine T.nil ?_
      refine T.region ?_
      refine T.pure (.string r2.2.1) (by kernel_rfl) (fun _ => by kernel_rfl) ?_
      refine T.pure (.string r2.2.1) (by kernel_rfl) (fun _ => by kernel_rfl) ?_
      refine T.nil ?_
      cases hY1
      exact fun a w' hf hh => Exists.intro ((x1 ++ [r3.1]), r2.2.1) (And.intro rfl (Exists.intro (x1 ++ [r3.1]) (Exists.intro r2.2.1 (And.intro rfl (Exists.intro A3 (Exists.intro c3 (Exists.intro V4 (And.intro (View.le_trans (View.le_trans hV1 hV3) hV4) (And.intro (((Fr.nil hf).pick hf 4 rfl).pick hf 0 rfl) (hh.sub (.cons _ (.cons _ (.cons_cons _ List.Sublist.slnil)))))))))))))
   ·
    rw [hc1, cond_false] at hY1
    refine T.exit ?_
    cases hY1
    cases (hr1 _ rfl)
    exact fun a w' hf hh => Exists.intro x1 (And.intro rfl (Exists.intro A1 (Exists.intro c1 (Exists.intro V1 (And.intro hV1 (And.intro ((Fr.nil hf).pick hf 4 rfl) (hh.sub (.cons_cons _ List.Sublist.slnil))))))))
 ·
  rintro a w' ⟨z1, rfl, A2, c2, V2, hV2, hf, hh⟩
  try dsimp only at hF
  refine (?_ : T 38 w V2 [row 36 eElem A2 c2 z1] [(4, .slice A2 z1.length c2)] _) a w' hf hh
  clear hf hh
  refine T.seq ?_
  refine T.seq ?_
  refine T.region ?_
  refine T.pure (.slice A2 z1.length c2) (by kernel_rfl) (fun _ => by kernel_rfl) ?_
  obtain ⟨r4, hb4, hF⟩ := Option.bind_eq_some_iff.1 hF
  refine T.step (W1.call (vSc eInt) r4 15 #[.slice A2 z1.length c2] (by kernel_rfl) (fun _ => by kernel_rfl) (fun w' hh => run_Check_l F z1 r4 hb4 w' A2 c2 (hh.row_slOk (i := 0) (by rfl))) ?_)
  intro u V5 hV5 hu
  obtain rfl := sureInt _ _ _ hu
  refine T.pure (.bool (r4 != 0)) (by kernel_rfl) (fun _ => by kernel_rfl) ?_
  refine T.nil ?_
  refine T.cond (r4 != 0) (by kernel_rfl) (by kernel_rfl) (fun hc3 => ?_) (fun hc3 => ?_)
  ·
   rw [hc3, cond_true] at hF
   refine T.seq ?_
   refine T.region ?_
   refine T.pure (.slice none 0 0) (by kernel_rfl) (fun _ => by kernel_rfl) ?_
   refine T.pure (.int .i64 3) (by kernel_rfl) (fun _ => by kernel_rfl) ?_
   refine T.nil ?_
   cases hF
   refine T.ret rfl ?_
   exact T.ret2 rfl (ResIs.tmp rfl) (ResIs.tmp rfl) fun w' hh => ⟨_, rfl, hh.below, (vT2.mk ⟨_, _, rfl, (SlOk.nil _ _)⟩ (show _ from rfl))⟩
  ·
   rw [hc3, cond_false] at hF
   refine T.skip_code ?_
   refine T.seq ?_
   refine T.region ?_
   refine T.pure (.slice A2 z1.length c2) (by kernel_rfl) (fun _ => by kernel_rfl) ?_
   refine T.pure (.slice A2 z1.length c2) (by kernel_rfl) (fun _ => by kernel_rfl) ?_
   refine T.pure (.int .i64 0) (by kernel_rfl) (fun _ => by kernel_rfl) ?_
   refine T.nil ?_
   cases hF
   refine T.ret rfl ?_
   exact T.ret2 rfl (ResIs.tmp rfl) (ResIs.tmp rfl) fun w' hh => ⟨_, rfl, hh.below, (vT2.mk ⟨_, _, rfl, (hh.row_fresh (i := 0) (by rfl) (fun _ h => h))⟩ (show _ from rfl))⟩

end Go.Proofs.YtaccejbajgmdnaaDoor
