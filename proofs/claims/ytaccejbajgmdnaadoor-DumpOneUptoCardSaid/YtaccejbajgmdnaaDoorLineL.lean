/- The Go functions of group Line compute the pure functions of that group: written by walkgen.py. Condition of each: the pure function yields a result. -/
import Derived.Test.YtaccejbajgmdnaaDoorWordL
import Derived.Test.YtaccejbajgmdnaaDoorRunL
import Derived.Test.YtaccejbajgmdnaaDoorLineF
import Derived.Test.YtaccejbajgmdnaaDoorEqL
namespace Go.Proofs.YtaccejbajgmdnaaDoor
set_option linter.unusedVariables false

set_option maxRecDepth 100000 in
set_option maxHeartbeats 4000000 in
theorem dump_line_l (F : Nat) (p0 : DElem) (r : ByteArray) (hF : dump_line F p0 = some r) (w : World) (hGl : Glob w) :
    Calls Tryd.prog 35 #[.agg #[.int .i64 p0.key.pfs, .int .i64 p0.key.obj, .int .i64 p0.key.off, .int .i64 p0.made, .int .i64 p0.gone, .string p0.val]] w (Post (vSc eStr) r w) := by
 unfold dump_line at hF
 refine T.start (l := [.agg #[.int .i64 p0.key.pfs, .int .i64 p0.key.obj, .int .i64 p0.key.off, .int .i64 p0.made, .int .i64 p0.gone, .string p0.val]]) Tryd.func35 rfl rfl rfl ?_
 refine T.seq ?_
 refine T.region ?_
 refine T.step (W1.new 36 [.int .i64 p0.key.pfs, .int .i64 p0.key.obj, .int .i64 p0.key.off, .int .i64 p0.made, .int .i64 p0.gone, .string p0.val] (fun b => .pointer (some ⟨b, 0, none⟩)) (by kernel_rfl) (fun _ => by kernel_rfl) (fun b1 => ?_))
 refine T.pure (.string (ByteArray.mk #[])) (by kernel_rfl) (fun _ => by kernel_rfl) ?_
 refine T.nil ?_
 refine T.seq ?_
 refine T.region ?_
 refine T.step (W1.new 70 [.pointer none, .slice none 0 0] (fun b => .pointer (some ⟨b, 0, none⟩)) (by kernel_rfl) (fun _ => by kernel_rfl) (fun b2 => ?_))
 refine T.bld (e := 5) ?_
 refine T.nil ?_
 refine T.seq ?_
 refine T.seq ?_
 refine T.region ?_
 refine T.pure (.pointer (some ⟨b1, 0, none⟩)) (by kernel_rfl) (fun _ => by kernel_rfl) ?_
 refine T.pure (.pointer (some ⟨b1, 0, none⟩)) (by kernel_rfl) (fun _ => by kernel_rfl) ?_
 refine T.look (.int .i64 p0.key.pfs) (by kernel_rfl) (fun w' hh => exec_load1 rfl rfl (by kernel_rfl) (hh.cellBox (i := 1) (by rfl) 0)) ?_
 refine T.pure (.pointer (some ⟨b1, 0, none⟩)) (by kernel_rfl) (fun _ => by kernel_rfl) ?_
 refine T.pure (.pointer (some ⟨b1, 1, none⟩)) (by kernel_rfl) (fun _ => by kernel_rfl) ?_
 refine T.look (.int .i64 p0.key.obj) (by kernel_rfl) (fun w' hh => exec_load1 rfl rfl (by kernel_rfl) (hh.cellBox (i := 1) (by rfl) 1)) ?_
 refine T.pure (.pointer (some ⟨b1, 0, none⟩)) (by kernel_rfl) (fun _ => by kernel_rfl) ?_
 refine T.pure (.pointer (some ⟨b1, 2, none⟩)) (by kernel_rfl) (fun _ => by kernel_rfl) ?_
 refine T.look (.int .i64 p0.key.off) (by kernel_rfl) (fun w' hh => exec_load1 rfl rfl (by kernel_rfl) (hh.cellBox (i := 1) (by rfl) 2)) ?_
 refine T.pure (.pointer (some ⟨b1, 3, none⟩)) (by kernel_rfl) (fun _ => by kernel_rfl) ?_
 refine T.look (.int .i64 p0.made) (by kernel_rfl) (fun w' hh => exec_load1 rfl rfl (by kernel_rfl) (hh.cellBox (i := 1) (by rfl) 3)) ?_
 refine T.pure (.pointer (some ⟨b1, 4, none⟩)) (by kernel_rfl) (fun _ => by kernel_rfl) ?_
 refine T.look (.int .i64 p0.gone) (by kernel_rfl) (fun w' hh => exec_load1 rfl rfl (by kernel_rfl) (hh.cellBox (i := 1) (by rfl) 4)) ?_
 refine T.pure (.agg #[.int .i64 p0.key.pfs, .int .i64 p0.key.obj, .int .i64 p0.key.off, .int .i64 p0.made, .int .i64 p0.gone]) (by kernel_rfl) (fun _ => by kernel_rfl) ?_
 refine T.pure (.int .i64 0) (by kernel_rfl) (fun _ => by kernel_rfl) ?_
 refine T.nil ?_
 refine T.block ?_
 refine T.rounds 6 ?_
 refine T.round ?_
 refine T.seq ?_
 refine T.region ?_
 refine T.pure (.bool true) (by kernel_rfl) (fun _ => by kernel_rfl) ?_
 refine T.nil ?_
 refine T.seq ?_
 refine T.cond true (by kernel_rfl) (by kernel_rfl) (fun _ => ?_) (fun h => Bool.noConfusion h)
 refine T.skip_code ?_
 refine T.seq ?_
 refine T.block ?_
 refine T.seq ?_
 refine T.region ?_
 refine T.pure (.int .i64 p0.key.pfs) (by kernel_rfl) (fun _ => by kernel_rfl) ?_
 refine T.pure (.int .i64 p0.key.pfs) (by kernel_rfl) (fun _ => by kernel_rfl) ?_
 refine T.nil ?_
 refine T.region ?_
 refine T.pure (.int .i64 p0.key.pfs) (by kernel_rfl) (fun _ => by kernel_rfl) ?_
 obtain ⟨r1, hb1, hF⟩ := Option.bind_eq_some_iff.1 hF
 refine T.step (W1.callS (vSc eStr) r1 30 #[.int .i64 p0.key.pfs] (.string r1) (fun V u hu => sureStr V u _ hu) (by kernel_rfl) (fun _ => by kernel_rfl) (fun w' hh => strconv_Itoa_l p0.key.pfs r1 hb1 w' (Glob.mono hGl (View.le_trans hh.base hh.view))) ?_)
 obtain ⟨s1, hb2, hF⟩ := Option.bind_eq_some_iff.1 hF
 refine T.look (.string s1) (by kernel_rfl) (fun w' hh => exec_scat rfl rfl rfl hb2) ?_
 obtain ⟨y1, hb3, hF⟩ := Option.bind_eq_some_iff.1 hF
 obtain ⟨hb3_s, rfl⟩ := bgrow_some hb3
 refine T.step (W1.bldPut 0 34 #[.pointer (some ⟨b2, 0, none⟩), .string s1] (.tuple #[.int .i64 ((s1).size), .nilIface]) ((ByteArray.mk #[]) ++ s1) (by rfl) (fun x hx => by simp only [List.mem_cons, List.not_mem_nil, or_false] at hx; rcases hx with rfl <;> first | exact noRow_box (by decide) | exact noRow_row (by decide)) (by kernel_rfl) (fun _ => by kernel_rfl) (fun w' h hb => bld_WriteString b2 _ s1 hb3_s w' h hb) (fun go1 => ?_))
 refine T.nil ?_
 refine T.region ?_
 refine T.pure (.int .i64 1) (by kernel_rfl) (fun _ => by kernel_rfl) ?_
 refine T.pure (.int .i64 1) (by kernel_rfl) (fun _ => by kernel_rfl) ?_
 refine T.nil ?_
 refine T.round ?_
 refine T.seq ?_
 refine T.region ?_
 refine T.pure (.bool true) (by kernel_rfl) (fun _ => by kernel_rfl) ?_
 refine T.nil ?_
 refine T.seq ?_
 refine T.cond true (by kernel_rfl) (by kernel_rfl) (fun _ => ?_) (fun h => Bool.noConfusion h)
 refine T.skip_code ?_
 refine T.seq ?_
 refine T.block ?_
 refine T.seq ?_
 refine T.region ?_
 refine T.pure (.int .i64 p0.key.obj) (by kernel_rfl) (fun _ => by kernel_rfl) ?_
 refine T.pure (.int .i64 p0.key.obj) (by kernel_rfl) (fun _ => by kernel_rfl) ?_
 refine T.nil ?_
 refine T.region ?_
 refine T.pure (.int .i64 p0.key.obj) (by kernel_rfl) (fun _ => by kernel_rfl) ?_
 obtain ⟨r2, hb4, hF⟩ := Option.bind_eq_some_iff.1 hF
 refine T.step (W1.callS (vSc eStr) r2 30 #[.int .i64 p0.key.obj] (.string r2) (fun V u hu => sureStr V u _ hu) (by kernel_rfl) (fun _ => by kernel_rfl) (fun w' hh => strconv_Itoa_l p0.key.obj r2 hb4 w' (Glob.mono hGl (View.le_trans hh.base hh.view))) ?_)
 obtain ⟨s2, hb5, hF⟩ := Option.bind_eq_some_iff.1 hF
 refine T.look (.string s2) (by kernel_rfl) (fun w' hh => exec_scat rfl rfl rfl hb5) ?_
 obtain ⟨y2, hb6, hF⟩ := Option.bind_eq_some_iff.1 hF
 obtain ⟨hb6_s, rfl⟩ := bgrow_some hb6
 refine T.step (W1.bldPut 0 34 #[.pointer (some ⟨b2, 0, none⟩), .string s2] (.tuple #[.int .i64 ((s2).size), .nilIface]) (((ByteArray.mk #[]) ++ s1) ++ s2) (by rfl) (fun x hx => by simp only [List.mem_cons, List.not_mem_nil, or_false] at hx; rcases hx with rfl <;> first | exact noRow_box (by decide) | exact noRow_row (by decide)) (by kernel_rfl) (fun _ => by kernel_rfl) (fun w' h hb => bld_WriteString b2 _ s2 hb6_s w' h hb) (fun go2 => ?_))
 refine T.nil ?_
 refine T.region ?_
 refine T.pure (.int .i64 2) (by kernel_rfl) (fun _ => by kernel_rfl) ?_
 refine T.pure (.int .i64 2) (by kernel_rfl) (fun _ => by kernel_rfl) ?_
 refine T.nil ?_
 refine T.round ?_
 refine T.seq ?_
 refine T.region ?_
 refine T.pure (.bool true) (by kernel_rfl) (fun _ => by kernel_rfl) ?_
 refine T.nil ?_
 refine T.seq ?_
 refine T.cond true (by kernel_rfl) (by kernel_rfl) (fun _ => ?_) (fun h => Bool.noConfusion h)
 refine T.skip_code ?_
 refine T.seq ?_
 refine T.block ?_
 refine T.seq ?_
 refine T.region ?_
 refine T.pure (.int .i64 p0.key.off) (by kernel_rfl) (fun _ => by kernel_rfl) ?_
 refine T.pure (.int .i64 p0.key.off) (by kernel_rfl) (fun _ => by kernel_rfl) ?_
 refine T.nil ?_
 refine T.region ?_
 refine T.pure (.int .i64 p0.key.off) (by kernel_rfl) (fun _ => by kernel_rfl) ?_
 obtain ⟨r3, hb7, hF⟩ := Option.bind_eq_some_iff.1 hF
 refine T.step (W1.callS (vSc eStr) r3 30 #[.int .i64 p0.key.off] (.string r3) (fun V u hu => sureStr V u _ hu) (by kernel_rfl) (fun _ => by kernel_rfl) (fun w' hh => strconv_Itoa_l p0.key.off r3 hb7 w' (Glob.mono hGl (View.le_trans hh.base hh.view))) ?_)
 obtain ⟨s3, hb8, hF⟩ := Option.bind_eq_some_iff.1 hF
 refine T.look (.string s3) (by kernel_rfl) (fun w' hh => exec_scat rfl rfl rfl hb8) ?_
 obtain ⟨y3, hb9, hF⟩ := Option.bind_eq_some_iff.1 hF
 obtain ⟨hb9_s, rfl⟩ := bgrow_some hb9
 refine T.step (W1.bldPut 0 34 #[.pointer (some ⟨b2, 0, none⟩), .string s3] (.tuple #[.int .i64 ((s3).size), .nilIface]) ((((ByteArray.mk #[]) ++ s1) ++ s2) ++ s3) (by rfl) (fun x hx => by simp only [List.mem_cons, List.not_mem_nil, or_false] at hx; rcases hx with rfl <;> first | exact noRow_box (by decide) | exact noRow_row (by decide)) (by kernel_rfl) (fun _ => by kernel_rfl) (fun w' h hb => bld_WriteString b2 _ s3 hb9_s w' h hb) (fun go3 => ?_))
 refine T.nil ?_
 refine T.region ?_
 refine T.pure (.int .i64 3) (by kernel_rfl) (fun _ => by kernel_rfl) ?_
 refine T.pure (.int .i64 3) (by kernel_rfl) (fun _ => by kernel_rfl) ?_
 refine T.nil ?_
 refine T.round ?_
 refine T.seq ?_
 refine T.region ?_
 refine T.pure (.bool true) (by kernel_rfl) (fun _ => by kernel_rfl) ?_
 refine T.nil ?_
 refine T.seq ?_
 refine T.cond true (by kernel_rfl) (by kernel_rfl) (fun _ => ?_) (fun h => Bool.noConfusion h)
 refine T.skip_code ?_
 refine T.seq ?_
 refine T.block ?_
 refine T.seq ?_
 refine T.region ?_
 refine T.pure (.int .i64 p0.made) (by kernel_rfl) (fun _ => by kernel_rfl) ?_
 refine T.pure (.int .i64 p0.made) (by kernel_rfl) (fun _ => by kernel_rfl) ?_
 refine T.nil ?_
 refine T.region ?_
 refine T.pure (.int .i64 p0.made) (by kernel_rfl) (fun _ => by kernel_rfl) ?_
 obtain ⟨r4, hb10, hF⟩ := Option.bind_eq_some_iff.1 hF
 refine T.step (W1.callS (vSc eStr) r4 30 #[.int .i64 p0.made] (.string r4) (fun V u hu => sureStr V u _ hu) (by kernel_rfl) (fun _ => by kernel_rfl) (fun w' hh => strconv_Itoa_l p0.made r4 hb10 w' (Glob.mono hGl (View.le_trans hh.base hh.view))) ?_)
 obtain ⟨s4, hb11, hF⟩ := Option.bind_eq_some_iff.1 hF
 refine T.look (.string s4) (by kernel_rfl) (fun w' hh => exec_scat rfl rfl rfl hb11) ?_
 obtain ⟨y4, hb12, hF⟩ := Option.bind_eq_some_iff.1 hF
 obtain ⟨hb12_s, rfl⟩ := bgrow_some hb12
 refine T.step (W1.bldPut 0 34 #[.pointer (some ⟨b2, 0, none⟩), .string s4] (.tuple #[.int .i64 ((s4).size), .nilIface]) (((((ByteArray.mk #[]) ++ s1) ++ s2) ++ s3) ++ s4) (by rfl) (fun x hx => by simp only [List.mem_cons, List.not_mem_nil, or_false] at hx; rcases hx with rfl <;> first | exact noRow_box (by decide) | exact noRow_row (by decide)) (by kernel_rfl) (fun _ => by kernel_rfl) (fun w' h hb => bld_WriteString b2 _ s4 hb12_s w' h hb) (fun go4 => ?_))
 refine T.nil ?_
 refine T.region ?_
 refine T.pure (.int .i64 4) (by kernel_rfl) (fun _ => by kernel_rfl) ?_
 refine T.pure (.int .i64 4) (by kernel_rfl) (fun _ => by kernel_rfl) ?_
 refine T.nil ?_
 refine T.round ?_
 refine T.seq ?_
 refine T.region ?_
 refine T.pure (.bool true) (by kernel_rfl) (fun _ => by kernel_rfl) ?_
 refine T.nil ?_
 refine T.seq ?_
 refine T.cond true (by kernel_rfl) (by kernel_rfl) (fun _ => ?_) (fun h => Bool.noConfusion h)
 refine T.skip_code ?_
 refine T.seq ?_
 refine T.block ?_
 refine T.seq ?_
 refine T.region ?_
 refine T.pure (.int .i64 p0.gone) (by kernel_rfl) (fun _ => by kernel_rfl) ?_
 refine T.pure (.int .i64 p0.gone) (by kernel_rfl) (fun _ => by kernel_rfl) ?_
 refine T.nil ?_
 refine T.region ?_
 refine T.pure (.int .i64 p0.gone) (by kernel_rfl) (fun _ => by kernel_rfl) ?_
 obtain ⟨r5, hb13, hF⟩ := Option.bind_eq_some_iff.1 hF
 refine T.step (W1.callS (vSc eStr) r5 30 #[.int .i64 p0.gone] (.string r5) (fun V u hu => sureStr V u _ hu) (by kernel_rfl) (fun _ => by kernel_rfl) (fun w' hh => strconv_Itoa_l p0.gone r5 hb13 w' (Glob.mono hGl (View.le_trans hh.base hh.view))) ?_)
 obtain ⟨s5, hb14, hF⟩ := Option.bind_eq_some_iff.1 hF
 refine T.look (.string s5) (by kernel_rfl) (fun w' hh => exec_scat rfl rfl rfl hb14) ?_
 obtain ⟨y5, hb15, hF⟩ := Option.bind_eq_some_iff.1 hF
 obtain ⟨hb15_s, rfl⟩ := bgrow_some hb15
 refine T.step (W1.bldPut 0 34 #[.pointer (some ⟨b2, 0, none⟩), .string s5] (.tuple #[.int .i64 ((s5).size), .nilIface]) ((((((ByteArray.mk #[]) ++ s1) ++ s2) ++ s3) ++ s4) ++ s5) (by rfl) (fun x hx => by simp only [List.mem_cons, List.not_mem_nil, or_false] at hx; rcases hx with rfl <;> first | exact noRow_box (by decide) | exact noRow_row (by decide)) (by kernel_rfl) (fun _ => by kernel_rfl) (fun w' h hb => bld_WriteString b2 _ s5 hb15_s w' h hb) (fun go5 => ?_))
 refine T.nil ?_
 refine T.region ?_
 refine T.pure (.int .i64 5) (by kernel_rfl) (fun _ => by kernel_rfl) ?_
 refine T.pure (.int .i64 5) (by kernel_rfl) (fun _ => by kernel_rfl) ?_
 refine T.nil ?_
 refine T.round ?_
 refine T.seq ?_
 refine T.region ?_
 refine T.pure (.bool false) (by kernel_rfl) (fun _ => by kernel_rfl) ?_
 refine T.nil ?_
 refine T.seq ?_
 refine T.cond false (by kernel_rfl) (by kernel_rfl) (fun h => Bool.noConfusion h) (fun _ => ?_)
 refine T.exit ?_
 refine T.seq ?_
 refine T.held [box b1 36 [.int .i64 p0.key.pfs, .int .i64 p0.key.obj, .int .i64 p0.key.off, .int .i64 p0.made, .int .i64 p0.gone, .string p0.val]] (by kernel_rfl) ?_
 refine TA.take 1 (.pointer (some ⟨b1, 5, none⟩)) rfl (by kernel_rfl) (by kernel_rfl) (by kernel_rfl) (fun _ _ _ h => h) (Hp.old (View.le_refl _) (View.le_refl _) (.cons _ (.cons_cons _ List.Sublist.slnil)) (OldAll.box OldAll.nil)) (by kernel_rfl) (fun _ _ => by kernel_rfl) ?_
 refine TA.take 2 (.string p0.val) rfl (by kernel_rfl) (by kernel_rfl) (by kernel_rfl) (fun _ _ _ h => h) (Hp.old (View.le_refl _) (View.le_refl _) (.cons _ (.cons_cons _ List.Sublist.slnil)) (OldAll.box OldAll.nil)) (by kernel_rfl) (fun w' hh => exec_load1 rfl rfl (by kernel_rfl) (hh.cellBox (i := 0) (by rfl) 5)) ?_
 refine TA.all [0] (by kernel_rfl) rfl ⟨?_, trivial⟩
 refine TA.br rfl (W1.bldPut 0 36 #[.pointer (some ⟨b2, 0, none⟩)] (.string ((((((ByteArray.mk #[]) ++ s1) ++ s2) ++ s3) ++ s4) ++ s5)) ((((((ByteArray.mk #[]) ++ s1) ++ s2) ++ s3) ++ s4) ++ s5) (by rfl) (fun x hx => by simp only [List.mem_cons, List.not_mem_nil, or_false] at hx; rcases hx with rfl <;> first | exact noRow_box (by decide) | exact noRow_row (by decide)) (by kernel_rfl) (fun _ => by kernel_rfl) (fun w' h hb => bld_String b2 _ w' h hb) (fun go6 => ?_))
 refine TA.on (Hp.old (View.le_refl _) (View.le_refl _) (.cons _ (.cons_cons _ List.Sublist.slnil)) (OldAll.box OldAll.nil)) ?_
 refine TA.all [3] (by kernel_rfl) rfl ⟨?_, trivial⟩
 obtain ⟨r6, hb16, hF⟩ := Option.bind_eq_some_iff.1 hF
 refine TA.br rfl (W1.callS (vSc eStr) r6 62 #[.string p0.val] (.string r6) (fun V u hu => sureStr V u _ hu) (by kernel_rfl) (fun _ => by kernel_rfl) (fun w' hh => dump_word_l F p0.val r6 hb16 w' ) ?_)
 refine TA.on (Hp.old (View.le_refl _) (View.le_refl _) (.cons _ (.cons_cons _ List.Sublist.slnil)) (OldAll.box OldAll.nil)) ?_
 obtain ⟨s6, hb17, hF⟩ := Option.bind_eq_some_iff.1 hF
 refine TA.take 4 (.string s6) rfl (by kernel_rfl) (by kernel_rfl) (by kernel_rfl) (fun _ _ _ h => h) (Hp.old (View.le_refl _) (View.le_refl _) (.cons _ (.cons_cons _ List.Sublist.slnil)) (OldAll.box OldAll.nil)) (by kernel_rfl) (fun w' hh => exec_scat rfl rfl rfl hb17) ?_
 obtain ⟨s7, hb18, hF⟩ := Option.bind_eq_some_iff.1 hF
 refine TA.take 5 (.string s7) rfl (by kernel_rfl) (by kernel_rfl) (by kernel_rfl) (fun _ _ _ h => h) (Hp.old (View.le_refl _) (View.le_refl _) (.cons _ (.cons_cons _ List.Sublist.slnil)) (OldAll.box OldAll.nil)) (by kernel_rfl) (fun w' hh => exec_scat rfl rfl rfl hb18) ?_
 refine TA.take 6 (.string s7) rfl (by kernel_rfl) (by kernel_rfl) (by kernel_rfl) (fun _ _ _ h => h) (Hp.old (View.le_refl _) (View.le_refl _) (.cons _ (.cons_cons _ List.Sublist.slnil)) (OldAll.box OldAll.nil)) (by kernel_rfl) (fun _ _ => by kernel_rfl) ?_
 refine TA.done (by kernel_rfl) ?_
 cases hF
 refine T.ret rfl ?_
 exact T.ret1 rfl (ResIs.tmp rfl) fun w' hh => ⟨_, rfl, hh.below, (show _ from rfl)⟩

set_option maxRecDepth 100000 in
set_option maxHeartbeats 4000000 in
theorem dump_Print_l (F : Nat) (p0 : (List DElem)) (r : ByteArray × Int) (hF : dump_Print F p0 = some r) (w : World) (hGl : Glob w) (A1 : Option Addr) (c1 : Nat) (hs1 : SlOk (vw w) eElem A1 c1 p0) :
    Calls Tryd.prog 14 #[.slice A1 p0.length c1] w (Post (vT2 (vSc eStr) (vSc eInt)) r w) := by
 unfold dump_Print at hF
 refine T.start (l := [.slice A1 p0.length c1]) Tryd.func14 rfl rfl rfl ?_
 refine T.seq ?_
 refine T.region ?_
 refine T.pure (.string (ByteArray.mk #[])) (by kernel_rfl) (fun _ => by kernel_rfl) ?_
 refine T.pure (.int .i64 0) (by kernel_rfl) (fun _ => by kernel_rfl) ?_
 refine T.nil ?_
 refine T.seq ?_
 refine T.seq ?_
 refine T.region ?_
 refine T.pure (.slice A1 p0.length c1) (by kernel_rfl) (fun _ => by kernel_rfl) ?_
 obtain ⟨r1, hb1, hF⟩ := Option.bind_eq_some_iff.1 hF
 refine T.step (W1.callS (vSc eInt) r1 15 #[.slice A1 p0.length c1] (.int .i64 r1) (fun V u hu => sureInt V u _ hu) (by kernel_rfl) (fun _ => by kernel_rfl) (fun w' hh => run_Check_l F p0 r1 hb1 w' A1 c1 (SlOk.mono hs1 hh.view)) ?_)
 refine T.pure (.int .i64 r1) (by kernel_rfl) (fun _ => by kernel_rfl) ?_
 refine T.nil ?_
 refine T.seq ?_
 refine T.region ?_
 refine T.pure (.int .i64 r1) (by kernel_rfl) (fun _ => by kernel_rfl) ?_
 refine T.pure (.bool (r1 != 0)) (by kernel_rfl) (fun _ => by kernel_rfl) ?_
 refine T.nil ?_
 refine T.cond (r1 != 0) (by kernel_rfl) (by kernel_rfl) (fun hc1 => ?_) (fun hc1 => ?_)
 ·
  rw [hc1, cond_true] at hF
  refine T.seq ?_
  refine T.region ?_
  refine T.pure (.int .i64 r1) (by kernel_rfl) (fun _ => by kernel_rfl) ?_
  refine T.pure (.string (ByteArray.mk #[])) (by kernel_rfl) (fun _ => by kernel_rfl) ?_
  refine T.pure (.int .i64 r1) (by kernel_rfl) (fun _ => by kernel_rfl) ?_
  refine T.nil ?_
  cases hF
  refine T.ret rfl ?_
  exact T.ret2 rfl (ResIs.tmp rfl) (ResIs.tmp rfl) fun w' hh => ⟨_, rfl, hh.below, (vT2.mk (show _ from rfl) (show _ from rfl))⟩
 ·
  rw [hc1, cond_false] at hF
  refine T.skip_code ?_
  refine T.seq ?_
  refine T.region ?_
  refine T.step (W1.new 70 [.pointer none, .slice none 0 0] (fun b => .pointer (some ⟨b, 0, none⟩)) (by kernel_rfl) (fun _ => by kernel_rfl) (fun b1 => ?_))
  refine T.bld (e := 5) ?_
  refine T.nil ?_
  refine T.seq ?_
  refine T.seq ?_
  refine T.region ?_
  refine T.pure (.slice A1 p0.length c1) (by kernel_rfl) (fun _ => by kernel_rfl) ?_
  refine T.pure (.int .i64 (p0.length : Int)) (by kernel_rfl) (fun _ => by kernel_rfl) ?_
  refine T.pure (.int .i64 0) (by kernel_rfl) (fun _ => by kernel_rfl) ?_
  refine T.nil ?_
  obtain ⟨z1, hz1, hF⟩ := Option.bind_eq_some_iff.1 hF
  refine T.mid (fun a w' => ∃ (go2 : Option Nat), Fr 24 [(5, .pointer (some ⟨b1, 0, none⟩))] a ∧ Hp w (vw w) [bld 70 5 b1 go2 z1] w') ?_ ?_
  ·
   refine T.block ?_
   refine T.iter (fun s1 a w' => ∃ (x1 : ByteArray) (x2 : Int), s1 = (x1, x2) ∧ ∃ (go1 : Option Nat), Fr 24 [(5, .pointer (some ⟨b1, 0, none⟩)), (13, .slice A1 p0.length c1), (14, .int .i64 (p0.length : Int)), (15, .int .i64 x2)] a ∧ Hp w (vw w) [bld 70 5 b1 go1 x1] w') hz1 ?_ ?_
   ·
    exact fun a w' hf hh => Exists.intro (ByteArray.mk #[]) (Exists.intro 0 (And.intro rfl (Exists.intro none (And.intro (((((Fr.nil hf).pick hf 15 rfl).pick hf 14 rfl).pick hf 13 rfl).pick hf 5 rfl) (hh.sub (.cons_cons _ List.Sublist.slnil))))))
   ·
    rintro s1 y1 hY1 hr1 a w' ⟨x1, x2, rfl, go1, hf, hh⟩
    refine (?_ : T 24 w (vw w) [bld 70 5 b1 go1 x1] [(5, .pointer (some ⟨b1, 0, none⟩)), (13, .slice A1 p0.length c1), (14, .int .i64 (p0.length : Int)), (15, .int .i64 x2)] _) a w' hf hh
    clear hf hh
    try dsimp only at hY1
    refine T.seq ?_
    refine T.region ?_
    refine T.pure (.bool (decide (x2 < (p0.length : Int)))) (by kernel_rfl) (fun _ => by kernel_rfl) ?_
    refine T.nil ?_
    refine T.seq ?_
    refine T.cond (decide (x2 < (p0.length : Int))) (by kernel_rfl) (by kernel_rfl) (fun hc2 => ?_) (fun hc2 => ?_)
    ·
     rw [hc2, cond_true] at hY1
     refine T.skip_code ?_
     refine T.seq ?_
     refine T.block ?_
     refine T.seq ?_
     refine T.region ?_
     obtain ⟨e1, hb2, hY1⟩ := Option.bind_eq_some_iff.1 hY1
     obtain ⟨hi1, hi2, hi3⟩ := idx_some hb2
     refine T.look (.pointer (some ((sadr A1).add (x2.toNat * 6)))) (by kernel_rfl) (fun w' hh => exec_indexAddr (e := 36) (s := 6) rfl rfl rfl (by kernel_rfl) (by kernel_rfl) hi1 hi2 (hs1.some_ hi3 (by decide))) ?_
     refine T.look (.agg #[.int .i64 e1.key.pfs, .int .i64 e1.key.obj, .int .i64 e1.key.off, .int .i64 e1.made, .int .i64 e1.gone, .string e1.val]) (by kernel_rfl) (fun w' hh => exec_loadN (cs := [.int .i64 e1.key.pfs, .int .i64 e1.key.obj, .int .i64 e1.key.off, .int .i64 e1.made, .int .i64 e1.gone, .string e1.val]) rfl rfl (by kernel_rfl) (by kernel_rfl) (fun j u hj => (hh.cell_view (SlOk.cellF (E := eElem) hs1 hi3 j (fun _ _ _ h => h) hj)))) ?_
     refine T.step (W1.new 36 [.int .i64 0, .int .i64 0, .int .i64 0, .int .i64 0, .int .i64 0, .string (ByteArray.mk #[])] (fun b => .pointer (some ⟨b, 0, none⟩)) (by kernel_rfl) (fun _ => by kernel_rfl) (fun b2 => ?_))
     refine T.step (W1.store 0 [.int .i64 e1.key.pfs, .int .i64 e1.key.obj, .int .i64 e1.key.off, .int .i64 e1.made, .int .i64 e1.gone, .string e1.val] [box b2 36 [.int .i64 e1.key.pfs, .int .i64 e1.key.obj, .int .i64 e1.key.off, .int .i64 e1.made, .int .i64 e1.gone, .string e1.val], bld 70 5 b1 go1 x1] (by rfl) rfl (by kernel_rfl) (fun w' hw => exec_store (vs := [.int .i64 e1.key.pfs, .int .i64 e1.key.obj, .int .i64 e1.key.off, .int .i64 e1.made, .int .i64 e1.gone, .string e1.val]) rfl rfl rfl rfl (by kernel_rfl) (one_of rfl) (by simp) rfl hw) ?_)
     refine T.nil ?_
     refine T.region ?_
     refine T.look (.agg #[.int .i64 e1.key.pfs, .int .i64 e1.key.obj, .int .i64 e1.key.off, .int .i64 e1.made, .int .i64 e1.gone, .string e1.val]) (by kernel_rfl) (fun w' hh => exec_loadN (cs := [.int .i64 e1.key.pfs, .int .i64 e1.key.obj, .int .i64 e1.key.off, .int .i64 e1.made, .int .i64 e1.gone, .string e1.val]) rfl rfl (by kernel_rfl) (by kernel_rfl) (fun j u hj => (hh.box_at (i := 0) (cs := [.int .i64 e1.key.pfs, .int .i64 e1.key.obj, .int .i64 e1.key.off, .int .i64 e1.made, .int .i64 e1.gone, .string e1.val]) (by rfl) 0 j).trans (seg_at (n := 6) (by rfl) hj))) ?_
     obtain ⟨r2, hb3, hY1⟩ := Option.bind_eq_some_iff.1 hY1
     refine T.step (W1.callS (vSc eStr) r2 35 #[.agg #[.int .i64 e1.key.pfs, .int .i64 e1.key.obj, .int .i64 e1.key.off, .int .i64 e1.made, .int .i64 e1.gone, .string e1.val]] (.string r2) (fun V u hu => sureStr V u _ hu) (by kernel_rfl) (fun _ => by kernel_rfl) (fun w' hh => dump_line_l F e1 r2 hb3 w' (Glob.mono hGl (View.le_trans hh.base hh.view))) ?_)
     obtain ⟨y2, hb4, hY1⟩ := Option.bind_eq_some_iff.1 hY1
     obtain ⟨hb4_s, rfl⟩ := bgrow_some hb4
     refine T.step (W1.bldPut 1 34 #[.pointer (some ⟨b1, 0, none⟩), .string r2] (.tuple #[.int .i64 ((r2).size), .nilIface]) (x1 ++ r2) (by rfl) ⟨noRow_box (by decide), (fun x hx => by cases hx)⟩ (by kernel_rfl) (fun _ => by kernel_rfl) (fun w' h hb => bld_WriteString b1 _ r2 hb4_s w' h hb) (fun go3 => ?_))
     refine T.nil ?_
     refine T.region ?_
     refine T.pure (.int .i64 (IntKind.i64.wrap (x2 + 1))) (by kernel_rfl) (fun _ => by kernel_rfl) ?_
     refine T.pure (.int .i64 (IntKind.i64.wrap (x2 + 1))) (by kernel_rfl) (fun _ => by kernel_rfl) ?_
     refine T.nil ?_
     cases hY1
     exact fun a w' hf hh => Exists.intro ((x1 ++ r2), IntKind.i64.wrap (x2 + 1)) (And.intro rfl (Exists.intro (x1 ++ r2) (Exists.intro (IntKind.i64.wrap (x2 + 1)) (And.intro rfl (Exists.intro go3 (And.intro (((((Fr.nil hf).pick hf 15 rfl).pick hf 14 rfl).pick hf 13 rfl).pick hf 5 rfl) (hh.sub (.cons _ (.cons_cons _ List.Sublist.slnil)))))))))
    ·
     rw [hc2, cond_false] at hY1
     refine T.exit ?_
     cases hY1
     cases (hr1 _ rfl)
     exact fun a w' hf hh => Exists.intro go1 (And.intro ((Fr.nil hf).pick hf 5 rfl) (hh.sub (.cons_cons _ List.Sublist.slnil)))
  ·
   rintro a w' ⟨go2, hf, hh⟩
   refine (?_ : T 24 w (vw w) [bld 70 5 b1 go2 z1] [(5, .pointer (some ⟨b1, 0, none⟩))] _) a w' hf hh
   clear hf hh
   refine T.seq ?_
   refine T.region ?_
   refine T.step (W1.bldPut 0 36 #[.pointer (some ⟨b1, 0, none⟩)] (.string z1) z1 (by rfl) (fun x hx => by cases hx) (by kernel_rfl) (fun _ => by kernel_rfl) (fun w' h hb => bld_String b1 _ w' h hb) (fun go4 => ?_))
   refine T.pure (.string z1) (by kernel_rfl) (fun _ => by kernel_rfl) ?_
   refine T.pure (.int .i64 0) (by kernel_rfl) (fun _ => by kernel_rfl) ?_
   refine T.nil ?_
   cases hF
   refine T.ret rfl ?_
   exact T.ret2 rfl (ResIs.tmp rfl) (ResIs.tmp rfl) fun w' hh => ⟨_, rfl, hh.below, (vT2.mk (show _ from rfl) (show _ from rfl))⟩

end Go.Proofs.YtaccejbajgmdnaaDoor
