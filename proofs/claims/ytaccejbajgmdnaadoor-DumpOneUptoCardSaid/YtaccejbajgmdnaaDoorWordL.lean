/- The Go functions of group Word compute the pure functions of that group: written by walkgen.py. Condition of each: the pure function yields a result. -/
import Derived.Test.YtaccejbajgmdnaaDoorLibDL
import Derived.Test.YtaccejbajgmdnaaDoorBldC
import Derived.Test.YtaccejbajgmdnaaDoorWordF
import Derived.Test.YtaccejbajgmdnaaDoorEqL
namespace Go.Proofs.YtaccejbajgmdnaaDoor
set_option linter.unusedVariables false

set_option maxRecDepth 100000 in
set_option maxHeartbeats 4000000 in
theorem dump_word_l (F : Nat) (p0 : ByteArray) (r : ByteArray) (hF : dump_word F p0 = some r) (w : World)  :
    Calls Tryd.prog 62 #[.string p0] w (Post (vSc eStr) r w) := by
 unfold dump_word at hF
 refine T.start (l := [.string p0]) Tryd.func62 rfl rfl rfl ?_
 refine T.seq ?_
 refine T.region ?_
 refine T.pure (.string (ByteArray.mk #[])) (by kernel_rfl) (fun _ => by kernel_rfl) ?_
 refine T.nil ?_
 refine T.seq ?_
 refine T.seq ?_
 refine T.region ?_
 refine T.pure (.string p0) (by kernel_rfl) (fun _ => by kernel_rfl) ?_
 refine T.pure (.bool (seq p0 (ByteArray.mk #[]))) (by kernel_rfl) (fun _ => by kernel_rfl) ?_
 refine T.nil ?_
 refine T.cond (seq p0 (ByteArray.mk #[])) (by kernel_rfl) (by kernel_rfl) (fun hc1 => ?_) (fun hc1 => ?_)
 ·
  rw [hc1, cond_true] at hF
  refine T.seq ?_
  refine T.region ?_
  refine T.pure (.string (ByteArray.mk #[95])) (by kernel_rfl) (fun _ => by kernel_rfl) ?_
  refine T.nil ?_
  cases hF
  refine T.ret rfl ?_
  exact T.ret1 rfl (ResIs.tmp rfl) fun w' hh => ⟨_, rfl, hh.below, (show _ from rfl)⟩
 ·
  rw [hc1, cond_false] at hF
  refine T.skip_code ?_
  refine T.seq ?_
  refine T.region ?_
  refine T.step (W1.new 70 [.pointer none, .slice none 0 0] (fun b => .pointer (some ⟨b, 0, none⟩)) (by kernel_rfl) (fun _ => by kernel_rfl) (fun b1 => ?_))
  refine T.bld (e := 5) ?_
  refine T.nil ?_
  refine T.seq ?_
  refine T.seq ?_
  refine T.region ?_
  refine T.pure (.string p0) (by kernel_rfl) (fun _ => by kernel_rfl) ?_
  refine T.pure (.int .i64 (p0.size : Int)) (by kernel_rfl) (fun _ => by kernel_rfl) ?_
  refine T.pure (.int .i64 0) (by kernel_rfl) (fun _ => by kernel_rfl) ?_
  refine T.nil ?_
  obtain ⟨z1, hz1, hF⟩ := Option.bind_eq_some_iff.1 hF
  refine T.mid (fun a w' => ∃ (go2 : Option Nat), Fr 49 [(3, .pointer (some ⟨b1, 0, none⟩))] a ∧ Hp w (vw w) [bld 70 5 b1 go2 z1] w') ?_ ?_
  ·
   refine T.block ?_
   refine T.iter (fun s1 a w' => ∃ (x1 : ByteArray) (x2 : Int), s1 = (x1, x2) ∧ ∃ (go1 : Option Nat), Fr 49 [(0, .string p0), (3, .pointer (some ⟨b1, 0, none⟩)), (9, .int .i64 (p0.size : Int)), (10, .int .i64 x2)] a ∧ Hp w (vw w) [bld 70 5 b1 go1 x1] w') hz1 ?_ ?_
   ·
    exact fun a w' hf hh => Exists.intro (ByteArray.mk #[]) (Exists.intro 0 (And.intro rfl (Exists.intro none (And.intro (((((Fr.nil hf).pick hf 10 rfl).pick hf 9 rfl).pick hf 3 rfl).pick hf 0 rfl) (hh.sub (.cons_cons _ List.Sublist.slnil))))))
   ·
    rintro s1 y1 hY1 hr1 a w' ⟨x1, x2, rfl, go1, hf, hh⟩
    refine (?_ : T 49 w (vw w) [bld 70 5 b1 go1 x1] [(0, .string p0), (3, .pointer (some ⟨b1, 0, none⟩)), (9, .int .i64 (p0.size : Int)), (10, .int .i64 x2)] _) a w' hf hh
    clear hf hh
    try dsimp only at hY1
    refine T.seq ?_
    refine T.region ?_
    refine T.pure (.bool (decide (x2 < (p0.size : Int)))) (by kernel_rfl) (fun _ => by kernel_rfl) ?_
    refine T.nil ?_
    refine T.seq ?_
    refine T.cond (decide (x2 < (p0.size : Int))) (by kernel_rfl) (by kernel_rfl) (fun hc2 => ?_) (fun hc2 => ?_)
    ·
     rw [hc2, cond_true] at hY1
     refine T.skip_code ?_
     obtain ⟨z2, hX1, hY1⟩ := Option.bind_eq_some_iff.1 hY1
     refine T.cut (fun a w' => ∃ (go3 : Option Nat), Fr 49 [(0, .string p0), (3, .pointer (some ⟨b1, 0, none⟩)), (9, .int .i64 (p0.size : Int)), (10, .int .i64 x2)] a ∧ Hp w (vw w) [bld 70 5 b1 go3 z2] w') ?_ ?_
     ·
      refine T.block ?_
      refine T.seq ?_
      refine T.region ?_
      refine T.pure (.int .i64 x2) (by kernel_rfl) (fun _ => by kernel_rfl) ?_
      refine T.pure (.int .i64 x2) (by kernel_rfl) (fun _ => by kernel_rfl) ?_
      refine T.nil ?_
      refine T.seq ?_
      refine T.region ?_
      refine T.pure (.string p0) (by kernel_rfl) (fun _ => by kernel_rfl) ?_
      refine T.pure (.int .i64 x2) (by kernel_rfl) (fun _ => by kernel_rfl) ?_
      obtain ⟨b2, hb1, hX1⟩ := Option.bind_eq_some_iff.1 hX1
      refine T.look (.int .u8 (b2.toNat : Int)) (by kernel_rfl) (fun w' hh => exec_index_str rfl rfl rfl (by kernel_rfl) hb1) ?_
      refine T.pure (.int .u8 (b2.toNat : Int)) (by kernel_rfl) (fun _ => by kernel_rfl) ?_
      refine T.nil ?_
      refine T.cut (fun a w' => Fr 49 [(0, .string p0), (3, .pointer (some ⟨b1, 0, none⟩)), (5, .int .u8 (b2.toNat : Int)), (9, .int .i64 (p0.size : Int)), (10, .int .i64 x2), (29, .bool ((decide ((32 : Int) < (b2.toNat : Int))) && ((decide ((b2.toNat : Int) < 127)) && (((b2.toNat : Int) != 37) && ((b2.toNat : Int) != 95)))))] a ∧ Hp w (vw w) [bld 70 5 b1 go1 x1] w') ?_ ?_
      ·
       refine T.region ?_
       refine T.pure (.int .u8 (b2.toNat : Int)) (by kernel_rfl) (fun _ => by kernel_rfl) ?_
       refine T.pure (.bool (decide ((32 : Int) < (b2.toNat : Int)))) (by kernel_rfl) (fun _ => by kernel_rfl) ?_
       refine T.pure (.bool (decide ((32 : Int) < (b2.toNat : Int)))) (by kernel_rfl) (fun _ => by kernel_rfl) ?_
       cases hg1 : decide ((32 : Int) < (b2.toNat : Int))
       ·
        skip
        refine T.pass (by kernel_rfl) (by kernel_rfl) ?_
        refine T.pass (by kernel_rfl) (by kernel_rfl) ?_
        refine T.pure (.bool false) (by kernel_rfl) (fun _ => by kernel_rfl) ?_
        refine T.pure (.bool false) (by kernel_rfl) (fun _ => by kernel_rfl) ?_
        refine T.pass (by kernel_rfl) (by kernel_rfl) ?_
        refine T.pass (by kernel_rfl) (by kernel_rfl) ?_
        refine T.pure (.bool false) (by kernel_rfl) (fun _ => by kernel_rfl) ?_
        refine T.pure (.bool false) (by kernel_rfl) (fun _ => by kernel_rfl) ?_
        refine T.pass (by kernel_rfl) (by kernel_rfl) ?_
        refine T.pass (by kernel_rfl) (by kernel_rfl) ?_
        refine T.pure (.bool false) (by kernel_rfl) (fun _ => by kernel_rfl) ?_
        refine T.nil ?_
        exact fun a w' hf hh => And.intro (((((((Fr.nil hf).pick hf 29 rfl).pick hf 10 rfl).pick hf 9 rfl).pick hf 5 rfl).pick hf 3 rfl).pick hf 0 rfl) (hh.sub (.cons_cons _ List.Sublist.slnil))
       ·
        skip
        refine T.pure (.int .u8 (b2.toNat : Int)) (by kernel_rfl) (fun _ => by kernel_rfl) ?_
        refine T.pure (.bool (decide ((b2.toNat : Int) < 127))) (by kernel_rfl) (fun _ => by kernel_rfl) ?_
        refine T.pure (.bool (decide ((b2.toNat : Int) < 127))) (by kernel_rfl) (fun _ => by kernel_rfl) ?_
        refine T.pure (.bool (decide ((b2.toNat : Int) < 127))) (by kernel_rfl) (fun _ => by kernel_rfl) ?_
        cases hg2 : decide ((b2.toNat : Int) < 127)
        ·
         skip
         refine T.pass (by kernel_rfl) (by kernel_rfl) ?_
         refine T.pass (by kernel_rfl) (by kernel_rfl) ?_
         refine T.pure (.bool false) (by kernel_rfl) (fun _ => by kernel_rfl) ?_
         refine T.pure (.bool false) (by kernel_rfl) (fun _ => by kernel_rfl) ?_
         refine T.pass (by kernel_rfl) (by kernel_rfl) ?_
         refine T.pass (by kernel_rfl) (by kernel_rfl) ?_
         refine T.pure (.bool false) (by kernel_rfl) (fun _ => by kernel_rfl) ?_
         refine T.nil ?_
         exact fun a w' hf hh => And.intro (((((((Fr.nil hf).pick hf 29 rfl).pick hf 10 rfl).pick hf 9 rfl).pick hf 5 rfl).pick hf 3 rfl).pick hf 0 rfl) (hh.sub (.cons_cons _ List.Sublist.slnil))
        ·
         skip
         refine T.pure (.int .u8 (b2.toNat : Int)) (by kernel_rfl) (fun _ => by kernel_rfl) ?_
         refine T.pure (.bool ((b2.toNat : Int) != 37)) (by kernel_rfl) (fun _ => by kernel_rfl) ?_
         refine T.pure (.bool ((b2.toNat : Int) != 37)) (by kernel_rfl) (fun _ => by kernel_rfl) ?_
         refine T.pure (.bool ((b2.toNat : Int) != 37)) (by kernel_rfl) (fun _ => by kernel_rfl) ?_
         cases hg3 : ((b2.toNat : Int) != 37)
         ·
          skip
          refine T.pass (by kernel_rfl) (by kernel_rfl) ?_
          refine T.pass (by kernel_rfl) (by kernel_rfl) ?_
          refine T.pure (.bool false) (by kernel_rfl) (fun _ => by kernel_rfl) ?_
          refine T.nil ?_
          exact fun a w' hf hh => And.intro (((((((Fr.nil hf).pick hf 29 rfl).pick hf 10 rfl).pick hf 9 rfl).pick hf 5 rfl).pick hf 3 rfl).pick hf 0 rfl) (hh.sub (.cons_cons _ List.Sublist.slnil))
         ·
          skip
          refine T.pure (.int .u8 (b2.toNat : Int)) (by kernel_rfl) (fun _ => by kernel_rfl) ?_
          refine T.pure (.bool ((b2.toNat : Int) != 95)) (by kernel_rfl) (fun _ => by kernel_rfl) ?_
          refine T.pure (.bool ((b2.toNat : Int) != 95)) (by kernel_rfl) (fun _ => by kernel_rfl) ?_
          refine T.nil ?_
          exact fun a w' hf hh => And.intro (((((((Fr.nil hf).pick hf 29 rfl).pick hf 10 rfl).pick hf 9 rfl).pick hf 5 rfl).pick hf 3 rfl).pick hf 0 rfl) (hh.sub (.cons_cons _ List.Sublist.slnil))
      ·
       rintro a w' ⟨hf, hh⟩
       refine (?_ : T 49 w (vw w) [bld 70 5 b1 go1 x1] [(0, .string p0), (3, .pointer (some ⟨b1, 0, none⟩)), (5, .int .u8 (b2.toNat : Int)), (9, .int .i64 (p0.size : Int)), (10, .int .i64 x2), (29, .bool ((decide ((32 : Int) < (b2.toNat : Int))) && ((decide ((b2.toNat : Int) < 127)) && (((b2.toNat : Int) != 37) && ((b2.toNat : Int) != 95)))))] _) a w' hf hh
       clear hf hh
       refine T.cond ((decide ((32 : Int) < (b2.toNat : Int))) && ((decide ((b2.toNat : Int) < 127)) && (((b2.toNat : Int) != 37) && ((b2.toNat : Int) != 95)))) (by kernel_rfl) (by kernel_rfl) (fun hc3 => ?_) (fun hc3 => ?_)
       ·
        rw [hc3, cond_true] at hX1
        refine T.region ?_
        refine T.pure (.int .u8 (b2.toNat : Int)) (by kernel_rfl) (fun _ => by kernel_rfl) ?_
        obtain ⟨y2, hb2, hX1⟩ := Option.bind_eq_some_iff.1 hX1
        obtain ⟨hb2_s, rfl⟩ := bgrow_some hb2
        refine T.step (W1.bldPut 0 86 #[.pointer (some ⟨b1, 0, none⟩), .int .u8 (b2.toNat : Int)] (.nilIface) (x1 ++ (ByteArray.mk #[b2])) (by rfl) (fun x hx => by cases hx) (by kernel_rfl) (fun _ => by kernel_rfl) (fun w' h hb => bld_WriteByte b1 _ b2 hb2_s w' h hb) (fun go4 => ?_))
        refine T.nil ?_
        cases hX1
        exact fun a w' hf hh => Exists.intro go4 (And.intro (((((Fr.nil hf).pick hf 10 rfl).pick hf 9 rfl).pick hf 3 rfl).pick hf 0 rfl) (hh.sub (.cons_cons _ List.Sublist.slnil)))
       ·
        rw [hc3, cond_false] at hX1
        refine T.held [] (by kernel_rfl) ?_
        refine TA.take 0 (.int .u8 (b2.toNat : Int)) rfl (by kernel_rfl) (by kernel_rfl) (by kernel_rfl) (fun _ _ _ h => h) (Hp.old (View.le_refl _) (View.le_refl _) (.cons _ List.Sublist.slnil) OldAll.nil) (by kernel_rfl) (fun _ _ => by kernel_rfl) ?_
        refine TA.take 1 (.int .u8 (shr .u8 (b2.toNat : Int) 4)) rfl (by kernel_rfl) (by kernel_rfl) (by kernel_rfl) (fun _ _ _ h => h) (Hp.old (View.le_refl _) (View.le_refl _) (.cons _ List.Sublist.slnil) OldAll.nil) (by kernel_rfl) (fun _ _ => by kernel_rfl) ?_
        refine TA.take 2 (.int .u8 (b2.toNat : Int)) rfl (by kernel_rfl) (by kernel_rfl) (by kernel_rfl) (fun _ _ _ h => h) (Hp.old (View.le_refl _) (View.le_refl _) (.cons _ List.Sublist.slnil) OldAll.nil) (by kernel_rfl) (fun _ _ => by kernel_rfl) ?_
        refine TA.take 3 (.int .u8 (shr .u8 (b2.toNat : Int) 4)) rfl (by kernel_rfl) (by kernel_rfl) (by kernel_rfl) (fun _ _ _ h => h) (Hp.old (View.le_refl _) (View.le_refl _) (.cons _ List.Sublist.slnil) OldAll.nil) (by kernel_rfl) (fun _ _ => by kernel_rfl) ?_
        refine TA.take 4 (.int .u8 (IntKind.u8.wrap ((shr .u8 (b2.toNat : Int) 4) + 1))) rfl (by kernel_rfl) (by kernel_rfl) (by kernel_rfl) (fun _ _ _ h => h) (Hp.old (View.le_refl _) (View.le_refl _) (.cons _ List.Sublist.slnil) OldAll.nil) (by kernel_rfl) (fun _ _ => by kernel_rfl) ?_
        obtain ⟨s2, hb3, hX1⟩ := Option.bind_eq_some_iff.1 hX1
        refine TA.take 5 (.string s2) rfl (by kernel_rfl) (by kernel_rfl) (by kernel_rfl) (fun _ _ _ h => h) (Hp.old (View.le_refl _) (View.le_refl _) (.cons _ List.Sublist.slnil) OldAll.nil) (by kernel_rfl) (fun w' hh => exec_slice_str rfl rfl rfl rfl (by kernel_rfl) hb3) ?_
        obtain ⟨s3, hb4, hX1⟩ := Option.bind_eq_some_iff.1 hX1
        refine TA.take 6 (.string s3) rfl (by kernel_rfl) (by kernel_rfl) (by kernel_rfl) (fun _ _ _ h => h) (Hp.old (View.le_refl _) (View.le_refl _) (.cons _ List.Sublist.slnil) OldAll.nil) (by kernel_rfl) (fun w' hh => exec_scat rfl rfl rfl hb4) ?_
        refine TA.take 7 (.int .u8 (b2.toNat : Int)) rfl (by kernel_rfl) (by kernel_rfl) (by kernel_rfl) (fun _ _ _ h => h) (Hp.old (View.le_refl _) (View.le_refl _) (.cons _ List.Sublist.slnil) OldAll.nil) (by kernel_rfl) (fun _ _ => by kernel_rfl) ?_
        refine TA.take 8 (.int .u8 (band .u8 (b2.toNat : Int) 15)) rfl (by kernel_rfl) (by kernel_rfl) (by kernel_rfl) (fun _ _ _ h => h) (Hp.old (View.le_refl _) (View.le_refl _) (.cons _ List.Sublist.slnil) OldAll.nil) (by kernel_rfl) (fun _ _ => by kernel_rfl) ?_
        refine TA.take 9 (.int .u8 (b2.toNat : Int)) rfl (by kernel_rfl) (by kernel_rfl) (by kernel_rfl) (fun _ _ _ h => h) (Hp.old (View.le_refl _) (View.le_refl _) (.cons _ List.Sublist.slnil) OldAll.nil) (by kernel_rfl) (fun _ _ => by kernel_rfl) ?_
        refine TA.take 10 (.int .u8 (band .u8 (b2.toNat : Int) 15)) rfl (by kernel_rfl) (by kernel_rfl) (by kernel_rfl) (fun _ _ _ h => h) (Hp.old (View.le_refl _) (View.le_refl _) (.cons _ List.Sublist.slnil) OldAll.nil) (by kernel_rfl) (fun _ _ => by kernel_rfl) ?_
        refine TA.take 11 (.int .u8 (IntKind.u8.wrap ((band .u8 (b2.toNat : Int) 15) + 1))) rfl (by kernel_rfl) (by kernel_rfl) (by kernel_rfl) (fun _ _ _ h => h) (Hp.old (View.le_refl _) (View.le_refl _) (.cons _ List.Sublist.slnil) OldAll.nil) (by kernel_rfl) (fun _ _ => by kernel_rfl) ?_
        obtain ⟨s4, hb5, hX1⟩ := Option.bind_eq_some_iff.1 hX1
        refine TA.take 12 (.string s4) rfl (by kernel_rfl) (by kernel_rfl) (by kernel_rfl) (fun _ _ _ h => h) (Hp.old (View.le_refl _) (View.le_refl _) (.cons _ List.Sublist.slnil) OldAll.nil) (by kernel_rfl) (fun w' hh => exec_slice_str rfl rfl rfl rfl (by kernel_rfl) hb5) ?_
        obtain ⟨s5, hb6, hX1⟩ := Option.bind_eq_some_iff.1 hX1
        refine TA.take 13 (.string s5) rfl (by kernel_rfl) (by kernel_rfl) (by kernel_rfl) (fun _ _ _ h => h) (Hp.old (View.le_refl _) (View.le_refl _) (.cons _ List.Sublist.slnil) OldAll.nil) (by kernel_rfl) (fun w' hh => exec_scat rfl rfl rfl hb6) ?_
        refine TA.all [14] (by kernel_rfl) rfl ⟨?_, trivial⟩
        obtain ⟨y3, hb7, hX1⟩ := Option.bind_eq_some_iff.1 hX1
        obtain ⟨hb7_s, rfl⟩ := bgrow_some hb7
        refine TA.br rfl (W1.bldPut 0 34 #[.pointer (some ⟨b1, 0, none⟩), .string s5] (.tuple #[.int .i64 ((s5).size), .nilIface]) (x1 ++ s5) (by rfl) (fun x hx => by cases hx) (by kernel_rfl) (fun _ => by kernel_rfl) (fun w' h hb => bld_WriteString b1 _ s5 hb7_s w' h hb) (fun go5 => ?_))
        refine TA.on (Hp.old (View.le_refl _) (View.le_refl _) (.cons _ List.Sublist.slnil) OldAll.nil) ?_
        refine TA.done (by kernel_rfl) ?_
        cases hX1
        exact fun a w' hf hh => Exists.intro go5 (And.intro (((((Fr.nil hf).pick hf 10 rfl).pick hf 9 rfl).pick hf 3 rfl).pick hf 0 rfl) (hh.sub (.cons_cons _ List.Sublist.slnil)))
     ·
      rintro a w' ⟨go3, hf, hh⟩
      refine (?_ : T 49 w (vw w) [bld 70 5 b1 go3 z2] [(0, .string p0), (3, .pointer (some ⟨b1, 0, none⟩)), (9, .int .i64 (p0.size : Int)), (10, .int .i64 x2)] _) a w' hf hh
      clear hf hh
      refine T.region ?_
      refine T.pure (.int .i64 (IntKind.i64.wrap (x2 + 1))) (by kernel_rfl) (fun _ => by kernel_rfl) ?_
      refine T.pure (.int .i64 (IntKind.i64.wrap (x2 + 1))) (by kernel_rfl) (fun _ => by kernel_rfl) ?_
      refine T.nil ?_
      cases hY1
      exact fun a w' hf hh => Exists.intro (z2, IntKind.i64.wrap (x2 + 1)) (And.intro rfl (Exists.intro z2 (Exists.intro (IntKind.i64.wrap (x2 + 1)) (And.intro rfl (Exists.intro go3 (And.intro (((((Fr.nil hf).pick hf 10 rfl).pick hf 9 rfl).pick hf 3 rfl).pick hf 0 rfl) (hh.sub (.cons_cons _ List.Sublist.slnil))))))))
    ·
     rw [hc2, cond_false] at hY1
     refine T.exit ?_
     cases hY1
     cases (hr1 _ rfl)
     exact fun a w' hf hh => Exists.intro go1 (And.intro ((Fr.nil hf).pick hf 3 rfl) (hh.sub (.cons_cons _ List.Sublist.slnil)))
  ·
   rintro a w' ⟨go2, hf, hh⟩
   refine (?_ : T 49 w (vw w) [bld 70 5 b1 go2 z1] [(3, .pointer (some ⟨b1, 0, none⟩))] _) a w' hf hh
   clear hf hh
   refine T.seq ?_
   refine T.region ?_
   refine T.step (W1.bldPut 0 36 #[.pointer (some ⟨b1, 0, none⟩)] (.string z1) z1 (by rfl) (fun x hx => by cases hx) (by kernel_rfl) (fun _ => by kernel_rfl) (fun w' h hb => bld_String b1 _ w' h hb) (fun go6 => ?_))
   refine T.pure (.string z1) (by kernel_rfl) (fun _ => by kernel_rfl) ?_
   refine T.nil ?_
   cases hF
   refine T.ret rfl ?_
   exact T.ret1 rfl (ResIs.tmp rfl) fun w' hh => ⟨_, rfl, hh.below, (show _ from rfl)⟩

set_option maxRecDepth 100000 in
set_option maxHeartbeats 4000000 in
theorem dump_value_l (F : Nat) (p0 : ByteArray) (r : ByteArray × Bool) (hF : dump_value F p0 = some r) (w : World)  :
    Calls Tryd.prog 60 #[.string p0] w (Post (vT2 (vSc eStr) (vSc eBool)) r w) := by
 unfold dump_value at hF
 refine T.start (l := [.string p0]) Tryd.func60 rfl rfl rfl ?_
 refine T.seq ?_
 refine T.region ?_
 refine T.pure (.string (ByteArray.mk #[])) (by kernel_rfl) (fun _ => by kernel_rfl) ?_
 refine T.pure (.bool false) (by kernel_rfl) (fun _ => by kernel_rfl) ?_
 refine T.nil ?_
 refine T.seq ?_
 refine T.seq ?_
 refine T.region ?_
 refine T.pure (.string p0) (by kernel_rfl) (fun _ => by kernel_rfl) ?_
 refine T.pure (.bool (seq p0 (ByteArray.mk #[95]))) (by kernel_rfl) (fun _ => by kernel_rfl) ?_
 refine T.nil ?_
 refine T.cond (seq p0 (ByteArray.mk #[95])) (by kernel_rfl) (by kernel_rfl) (fun hc1 => ?_) (fun hc1 => ?_)
 ·
  rw [hc1, cond_true] at hF
  refine T.seq ?_
  refine T.region ?_
  refine T.pure (.string (ByteArray.mk #[])) (by kernel_rfl) (fun _ => by kernel_rfl) ?_
  refine T.pure (.bool true) (by kernel_rfl) (fun _ => by kernel_rfl) ?_
  refine T.nil ?_
  cases hF
  refine T.ret rfl ?_
  exact T.ret2 rfl (ResIs.tmp rfl) (ResIs.tmp rfl) fun w' hh => ⟨_, rfl, hh.below, (vT2.mk (show _ from rfl) (show _ from rfl))⟩
 ·
  rw [hc1, cond_false] at hF
  refine T.skip_code ?_
  refine T.seq ?_
  refine T.region ?_
  refine T.pure (.slice none 0 0) (by kernel_rfl) (fun _ => by kernel_rfl) ?_
  refine T.nil ?_
  refine T.seq ?_
  refine T.seq ?_
  refine T.region ?_
  refine T.pure (.int .i64 0) (by kernel_rfl) (fun _ => by kernel_rfl) ?_
  refine T.nil ?_
  refine T.rownil 5 (eK .u8) ?_
  obtain ⟨q1, hz1, hF⟩ := Option.bind_eq_some_iff.1 hF
  refine T.mid (fun a w' => ∃ (z1 : List Int), q1 = Sum.inl z1 ∧ ∃ (A2 : Option Addr) (c2 : Nat), Fr 59 [(4, .slice A2 z1.length c2)] a ∧ Hp w (vw w) [row 5 (eK .u8) A2 c2 z1] w') ?_ ?_
  ·
   refine T.block ?_
   refine T.iter (fun s1 a w' => ∃ (x1 : List Int) (x2 : Int), s1 = (x1, x2) ∧ ∃ (A1 : Option Addr) (c1 : Nat), Fr 59 [(0, .string p0), (4, .slice A1 x1.length c1), (5, .int .i64 x2)] a ∧ Hp w (vw w) [row 5 (eK .u8) A1 c1 x1] w') hz1 ?_ ?_
   ·
    exact fun a w' hf hh => Exists.intro [] (Exists.intro 0 (And.intro rfl (Exists.intro none (Exists.intro 0 (And.intro ((((Fr.nil hf).pick hf 5 rfl).pick hf 4 rfl).pick hf 0 rfl) (hh.sub (.cons_cons _ List.Sublist.slnil)))))))
   ·
    rintro s1 y1 hY1 hr1 a w' ⟨x1, x2, rfl, A1, c1, hf, hh⟩
    refine (?_ : T 59 w (vw w) [row 5 (eK .u8) A1 c1 x1] [(0, .string p0), (4, .slice A1 x1.length c1), (5, .int .i64 x2)] _) a w' hf hh
    clear hf hh
    try dsimp only at hY1
    refine T.seq ?_
    refine T.seq ?_
    refine T.region ?_
    refine T.pure (.int .i64 x2) (by kernel_rfl) (fun _ => by kernel_rfl) ?_
    refine T.pure (.string p0) (by kernel_rfl) (fun _ => by kernel_rfl) ?_
    refine T.pure (.int .i64 (p0.size : Int)) (by kernel_rfl) (fun _ => by kernel_rfl) ?_
    refine T.pure (.bool (decide (x2 < (p0.size : Int)))) (by kernel_rfl) (fun _ => by kernel_rfl) ?_
    refine T.nil ?_
    refine T.cond (decide (x2 < (p0.size : Int))) (by kernel_rfl) (by kernel_rfl) (fun hc2 => ?_) (fun hc2 => ?_)
    ·
     rw [hc2, cond_true] at hY1
     refine T.skip_code ?_
     obtain ⟨q2, hX1, hY1⟩ := Option.bind_eq_some_iff.1 hY1
     refine T.cut (fun a w' => ∃ (z2 : List Int) (z3 : Int), q2 = Sum.inl (z2, z3) ∧ ∃ (A3 : Option Addr) (c3 : Nat), Fr 59 [(0, .string p0), (4, .slice A3 z2.length c3), (5, .int .i64 z3)] a ∧ Hp w (vw w) [row 5 (eK .u8) A3 c3 z2] w') ?_ ?_
     ·
      refine T.block ?_
      refine T.seq ?_
      refine T.seq ?_
      refine T.region ?_
      refine T.pure (.string p0) (by kernel_rfl) (fun _ => by kernel_rfl) ?_
      refine T.pure (.int .i64 x2) (by kernel_rfl) (fun _ => by kernel_rfl) ?_
      obtain ⟨b1, hb1, hX1⟩ := Option.bind_eq_some_iff.1 hX1
      refine T.look (.int .u8 (b1.toNat : Int)) (by kernel_rfl) (fun w' hh => exec_index_str rfl rfl rfl (by kernel_rfl) hb1) ?_
      refine T.pure (.bool ((b1.toNat : Int) != 37)) (by kernel_rfl) (fun _ => by kernel_rfl) ?_
      refine T.nil ?_
      refine T.cond ((b1.toNat : Int) != 37) (by kernel_rfl) (by kernel_rfl) (fun hc3 => ?_) (fun hc3 => ?_)
      ·
       rw [hc3, cond_true] at hX1
       refine T.seq ?_
       refine T.region ?_
       refine T.pure (.slice A1 x1.length c1) (by kernel_rfl) (fun _ => by kernel_rfl) ?_
       refine T.pure (.string p0) (by kernel_rfl) (fun _ => by kernel_rfl) ?_
       refine T.pure (.int .i64 x2) (by kernel_rfl) (fun _ => by kernel_rfl) ?_
       obtain ⟨b2, hb2, hX1⟩ := Option.bind_eq_some_iff.1 hX1
       refine T.look (.int .u8 (b2.toNat : Int)) (by kernel_rfl) (fun w' hh => exec_index_str rfl rfl rfl (by kernel_rfl) hb2) ?_
       refine T.step (W1.new 5 [.int .u8 (b2.toNat : Int)] (fun b => .slice (some ⟨b, 0, none⟩) 1 1) (by kernel_rfl) (fun _ => by kernel_rfl) (fun b3 => ?_))
       obtain ⟨y2, hb3, hX1⟩ := Option.bind_eq_some_iff.1 hX1
       obtain ⟨hb3_r, hb3_m, rfl⟩ := grow_some hb3
       obtain ⟨ti, hti, hz1, hz2, hz3⟩ := info_parts (P := Tryd.prog) (e := 5) (z := .int .u8 0) (size := 1) (bytes := 1) (by kernel_rfl)
       refine T.step (W1.append (E := (eK .u8)) (l := x1) (m := [(b2.toNat : Int)]) 1 _ _ 1 ti _ (by rfl) (by kernel_rfl) rfl (by kernel_rfl) hti hz1 hz2 hz3 rfl (by decide) rfl rfl (fun w' hh => (SlOk.srcF (slok_lit (E := (eK .u8)) (f := (fun x => [.int .u8 x])) [(b2.toNat : Int)] (fun _ _ => rfl) (Nat.le_of_ble_eq_true (by rfl)) (fun j => hh.cellBox (i := 0) (by rfl) j)) (fun _ _ _ _ h => h))) hb3_r hb3_m (fun A4 c4 => ?_))
       refine T.pure (.slice A4 ((x1 ++ [(b2.toNat : Int)]).length) c4) (by kernel_rfl) (fun _ => by kernel_rfl) ?_
       refine T.nil ?_
       refine T.exit ?_
       cases hX1
       exact fun a w' hf hh => Exists.intro (x1 ++ [(b2.toNat : Int)]) (Exists.intro x2 (And.intro rfl (Exists.intro A4 (Exists.intro c4 (And.intro ((((Fr.nil hf).pick hf 5 rfl).pick hf 4 rfl).pick hf 0 rfl) (hh.sub (.cons _ (.cons_cons _ List.Sublist.slnil))))))))
      ·
       rw [hc3, cond_false] at hX1
       refine T.skip_code ?_
       refine T.seq ?_
       refine T.seq ?_
       refine T.region ?_
       refine T.pure (.int .i64 x2) (by kernel_rfl) (fun _ => by kernel_rfl) ?_
       refine T.pure (.int .i64 (IntKind.i64.wrap (x2 + 2))) (by kernel_rfl) (fun _ => by kernel_rfl) ?_
       refine T.pure (.string p0) (by kernel_rfl) (fun _ => by kernel_rfl) ?_
       refine T.pure (.int .i64 (p0.size : Int)) (by kernel_rfl) (fun _ => by kernel_rfl) ?_
       refine T.pure (.bool (decide ((p0.size : Int) ≤ (IntKind.i64.wrap (x2 + 2))))) (by kernel_rfl) (fun _ => by kernel_rfl) ?_
       refine T.nil ?_
       refine T.cond (decide ((p0.size : Int) ≤ (IntKind.i64.wrap (x2 + 2)))) (by kernel_rfl) (by kernel_rfl) (fun hc4 => ?_) (fun hc4 => ?_)
       ·
        rw [hc4, cond_true] at hX1
        refine T.seq ?_
        refine T.region ?_
        refine T.pure (.string (ByteArray.mk #[])) (by kernel_rfl) (fun _ => by kernel_rfl) ?_
        refine T.pure (.bool false) (by kernel_rfl) (fun _ => by kernel_rfl) ?_
        refine T.nil ?_
        cases hX1
        try dsimp only at hY1
        cases hY1
        cases (hr1 _ rfl)
        try dsimp only at hF
        cases hF
        refine T.ret rfl ?_
        exact T.ret2 rfl (ResIs.tmp rfl) (ResIs.tmp rfl) fun w' hh => ⟨_, rfl, hh.below, (vT2.mk (show _ from rfl) (show _ from rfl))⟩
       ·
        rw [hc4, cond_false] at hX1
        refine T.skip_code ?_
        refine T.seq ?_
        refine T.quiet (by kernel_rfl) (by kernel_rfl) ?_
        refine TQ.pure (.string p0) (by kernel_rfl) (fun _ => by kernel_rfl) ?_
        refine TQ.pure (.int .i64 x2) (by kernel_rfl) (fun _ => by kernel_rfl) ?_
        refine TQ.pure (.int .i64 (IntKind.i64.wrap (x2 + 1))) (by kernel_rfl) (fun _ => by kernel_rfl) ?_
        obtain ⟨b4, hb4, hX1⟩ := Option.bind_eq_some_iff.1 hX1
        refine TQ.look (.int .u8 (b4.toNat : Int)) (by kernel_rfl) (fun w' hh => exec_index_str rfl rfl rfl (by kernel_rfl) hb4) ?_
        obtain ⟨r2, hb5, hX1⟩ := Option.bind_eq_some_iff.1 hX1
        refine TQ.call (vSc eInt) r2 84 #[.string (ByteArray.mk #[48, 49, 50, 51, 52, 53, 54, 55, 56, 57, 97, 98, 99, 100, 101, 102]), .int .u8 (b4.toNat : Int)] (.int .i64 r2) (fun V u hu => sureInt V u _ hu) (by kernel_rfl) (fun _ => by kernel_rfl) (fun w' hh => strings_IndexByte_l (ByteArray.mk #[48, 49, 50, 51, 52, 53, 54, 55, 56, 57, 97, 98, 99, 100, 101, 102]) (b4.toNat : Int) r2 hb5 w' ) ?_
        refine TQ.pure (.string p0) (by kernel_rfl) (fun _ => by kernel_rfl) ?_
        refine TQ.pure (.int .i64 x2) (by kernel_rfl) (fun _ => by kernel_rfl) ?_
        refine TQ.pure (.int .i64 (IntKind.i64.wrap (x2 + 2))) (by kernel_rfl) (fun _ => by kernel_rfl) ?_
        obtain ⟨b5, hb6, hX1⟩ := Option.bind_eq_some_iff.1 hX1
        refine TQ.look (.int .u8 (b5.toNat : Int)) (by kernel_rfl) (fun w' hh => exec_index_str rfl rfl rfl (by kernel_rfl) hb6) ?_
        obtain ⟨r3, hb7, hX1⟩ := Option.bind_eq_some_iff.1 hX1
        refine TQ.call (vSc eInt) r3 84 #[.string (ByteArray.mk #[48, 49, 50, 51, 52, 53, 54, 55, 56, 57, 97, 98, 99, 100, 101, 102]), .int .u8 (b5.toNat : Int)] (.int .i64 r3) (fun V u hu => sureInt V u _ hu) (by kernel_rfl) (fun _ => by kernel_rfl) (fun w' hh => strings_IndexByte_l (ByteArray.mk #[48, 49, 50, 51, 52, 53, 54, 55, 56, 57, 97, 98, 99, 100, 101, 102]) (b5.toNat : Int) r3 hb7 w' ) ?_
        refine TQ.pure (.int .i64 r2) (by kernel_rfl) (fun _ => by kernel_rfl) ?_
        refine TQ.pure (.int .i64 r3) (by kernel_rfl) (fun _ => by kernel_rfl) ?_
        refine TQ.nil ?_
        refine T.seq ?_
        refine T.cut (fun a w' => Fr 59 [(0, .string p0), (4, .slice A1 x1.length c1), (5, .int .i64 x2), (6, .int .i64 r2), (7, .int .i64 r3), (46, .bool ((decide (r2 < 0)) || (decide (r3 < 0))))] a ∧ Hp w (vw w) [row 5 (eK .u8) A1 c1 x1] w') ?_ ?_
        ·
         refine T.region ?_
         refine T.pure (.int .i64 r2) (by kernel_rfl) (fun _ => by kernel_rfl) ?_
         refine T.pure (.bool (decide (r2 < 0))) (by kernel_rfl) (fun _ => by kernel_rfl) ?_
         refine T.pure (.bool (decide (r2 < 0))) (by kernel_rfl) (fun _ => by kernel_rfl) ?_
         cases hg1 : decide (r2 < 0)
         ·
          skip
          refine T.pure (.int .i64 r3) (by kernel_rfl) (fun _ => by kernel_rfl) ?_
          refine T.pure (.bool (decide (r3 < 0))) (by kernel_rfl) (fun _ => by kernel_rfl) ?_
          refine T.pure (.bool (decide (r3 < 0))) (by kernel_rfl) (fun _ => by kernel_rfl) ?_
          refine T.nil ?_
          exact fun a w' hf hh => And.intro (((((((Fr.nil hf).pick hf 46 rfl).pick hf 7 rfl).pick hf 6 rfl).pick hf 5 rfl).pick hf 4 rfl).pick hf 0 rfl) (hh.sub (.cons_cons _ List.Sublist.slnil))
         ·
          skip
          refine T.pass (by kernel_rfl) (by kernel_rfl) ?_
          refine T.pass (by kernel_rfl) (by kernel_rfl) ?_
          refine T.pure (.bool true) (by kernel_rfl) (fun _ => by kernel_rfl) ?_
          refine T.nil ?_
          exact fun a w' hf hh => And.intro (((((((Fr.nil hf).pick hf 46 rfl).pick hf 7 rfl).pick hf 6 rfl).pick hf 5 rfl).pick hf 4 rfl).pick hf 0 rfl) (hh.sub (.cons_cons _ List.Sublist.slnil))
        ·
         rintro a w' ⟨hf, hh⟩
         refine (?_ : T 59 w (vw w) [row 5 (eK .u8) A1 c1 x1] [(0, .string p0), (4, .slice A1 x1.length c1), (5, .int .i64 x2), (6, .int .i64 r2), (7, .int .i64 r3), (46, .bool ((decide (r2 < 0)) || (decide (r3 < 0))))] _) a w' hf hh
         clear hf hh
         refine T.cond ((decide (r2 < 0)) || (decide (r3 < 0))) (by kernel_rfl) (by kernel_rfl) (fun hc5 => ?_) (fun hc5 => ?_)
         ·
          rw [hc5, cond_true] at hX1
          refine T.seq ?_
          refine T.region ?_
          refine T.pure (.string (ByteArray.mk #[])) (by kernel_rfl) (fun _ => by kernel_rfl) ?_
          refine T.pure (.bool false) (by kernel_rfl) (fun _ => by kernel_rfl) ?_
          refine T.nil ?_
          cases hX1
          try dsimp only at hY1
          cases hY1
          cases (hr1 _ rfl)
          try dsimp only at hF
          cases hF
          refine T.ret rfl ?_
          exact T.ret2 rfl (ResIs.tmp rfl) (ResIs.tmp rfl) fun w' hh => ⟨_, rfl, hh.below, (vT2.mk (show _ from rfl) (show _ from rfl))⟩
         ·
          rw [hc5, cond_false] at hX1
          refine T.skip_code ?_
          refine T.seq ?_
          refine T.region ?_
          refine T.pure (.slice A1 x1.length c1) (by kernel_rfl) (fun _ => by kernel_rfl) ?_
          refine T.pure (.int .i64 r2) (by kernel_rfl) (fun _ => by kernel_rfl) ?_
          refine T.pure (.int .i64 (shl .i64 r2 4)) (by kernel_rfl) (fun _ => by kernel_rfl) ?_
          refine T.pure (.int .i64 r3) (by kernel_rfl) (fun _ => by kernel_rfl) ?_
          refine T.pure (.int .i64 (bor .i64 (shl .i64 r2 4) r3)) (by kernel_rfl) (fun _ => by kernel_rfl) ?_
          refine T.pure (.int .u8 (IntKind.u8.wrap (bor .i64 (shl .i64 r2 4) r3))) (by kernel_rfl) (fun _ => by kernel_rfl) ?_
          refine T.step (W1.new 5 [.int .u8 (IntKind.u8.wrap (bor .i64 (shl .i64 r2 4) r3))] (fun b => .slice (some ⟨b, 0, none⟩) 1 1) (by kernel_rfl) (fun _ => by kernel_rfl) (fun b6 => ?_))
          obtain ⟨y3, hb8, hX1⟩ := Option.bind_eq_some_iff.1 hX1
          obtain ⟨hb8_r, hb8_m, rfl⟩ := grow_some hb8
          obtain ⟨ti, hti, hz1, hz2, hz3⟩ := info_parts (P := Tryd.prog) (e := 5) (z := .int .u8 0) (size := 1) (bytes := 1) (by kernel_rfl)
          refine T.step (W1.append (E := (eK .u8)) (l := x1) (m := [IntKind.u8.wrap (bor .i64 (shl .i64 r2 4) r3)]) 1 _ _ 1 ti _ (by rfl) (by kernel_rfl) rfl (by kernel_rfl) hti hz1 hz2 hz3 rfl (by decide) rfl rfl (fun w' hh => (SlOk.srcF (slok_lit (E := (eK .u8)) (f := (fun x => [.int .u8 x])) [IntKind.u8.wrap (bor .i64 (shl .i64 r2 4) r3)] (fun _ _ => rfl) (Nat.le_of_ble_eq_true (by rfl)) (fun j => hh.cellBox (i := 0) (by rfl) j)) (fun _ _ _ _ h => h))) hb8_r hb8_m (fun A5 c5 => ?_))
          refine T.pure (.slice A5 ((x1 ++ [IntKind.u8.wrap (bor .i64 (shl .i64 r2 4) r3)]).length) c5) (by kernel_rfl) (fun _ => by kernel_rfl) ?_
          refine T.nil ?_
          refine T.region ?_
          refine T.pure (.int .i64 x2) (by kernel_rfl) (fun _ => by kernel_rfl) ?_
          refine T.pure (.int .i64 (IntKind.i64.wrap (x2 + 2))) (by kernel_rfl) (fun _ => by kernel_rfl) ?_
          refine T.pure (.int .i64 (IntKind.i64.wrap (x2 + 2))) (by kernel_rfl) (fun _ => by kernel_rfl) ?_
          refine T.nil ?_
          cases hX1
          exact fun a w' hf hh => Exists.intro (x1 ++ [IntKind.u8.wrap (bor .i64 (shl .i64 r2 4) r3)]) (Exists.intro (IntKind.i64.wrap (x2 + 2)) (And.intro rfl (Exists.intro A5 (Exists.intro c5 (And.intro ((((Fr.nil hf).pick hf 5 rfl).pick hf 4 rfl).pick hf 0 rfl) (hh.sub (.cons _ (.cons_cons _ List.Sublist.slnil))))))))
     ·
      rintro a w' ⟨z2, z3, rfl, A3, c3, hf, hh⟩
      try dsimp only at hY1
      refine (?_ : T 59 w (vw w) [row 5 (eK .u8) A3 c3 z2] [(0, .string p0), (4, .slice A3 z2.length c3), (5, .int .i64 z3)] _) a w' hf hh
      clear hf hh
      refine T.region ?_
      refine T.pure (.int .i64 z3) (by kernel_rfl) (fun _ => by kernel_rfl) ?_
      refine T.pure (.int .i64 (IntKind.i64.wrap (z3 + 1))) (by kernel_rfl) (fun _ => by kernel_rfl) ?_
      refine T.pure (.int .i64 (IntKind.i64.wrap (z3 + 1))) (by kernel_rfl) (fun _ => by kernel_rfl) ?_
      refine T.nil ?_
      cases hY1
      exact fun a w' hf hh => Exists.intro (z2, IntKind.i64.wrap (z3 + 1)) (And.intro rfl (Exists.intro z2 (Exists.intro (IntKind.i64.wrap (z3 + 1)) (And.intro rfl (Exists.intro A3 (Exists.intro c3 (And.intro ((((Fr.nil hf).pick hf 5 rfl).pick hf 4 rfl).pick hf 0 rfl) (hh.sub (.cons_cons _ List.Sublist.slnil)))))))))
    ·
     rw [hc2, cond_false] at hY1
     refine T.exit ?_
     cases hY1
     cases (hr1 _ rfl)
     exact fun a w' hf hh => Exists.intro x1 (And.intro rfl (Exists.intro A1 (Exists.intro c1 (And.intro ((Fr.nil hf).pick hf 4 rfl) (hh.sub (.cons_cons _ List.Sublist.slnil))))))
  ·
   rintro a w' ⟨z1, rfl, A2, c2, hf, hh⟩
   try dsimp only at hF
   refine (?_ : T 59 w (vw w) [row 5 (eK .u8) A2 c2 z1] [(4, .slice A2 z1.length c2)] _) a w' hf hh
   clear hf hh
   refine T.seq ?_
   refine T.region ?_
   refine T.pure (.slice A2 z1.length c2) (by kernel_rfl) (fun _ => by kernel_rfl) ?_
   refine T.look (.string (bytesOf z1)) (by kernel_rfl) (fun w' hh => exec_bytes_str (e := 5) rfl rfl (by kernel_rfl) (by kernel_rfl) (by kernel_rfl) (hh.row_slOk (i := 0) (by rfl))) ?_
   refine T.pure (.string (bytesOf z1)) (by kernel_rfl) (fun _ => by kernel_rfl) ?_
   refine T.pure (.bool true) (by kernel_rfl) (fun _ => by kernel_rfl) ?_
   refine T.nil ?_
   cases hF
   refine T.ret rfl ?_
   exact T.ret2 rfl (ResIs.tmp rfl) (ResIs.tmp rfl) fun w' hh => ⟨_, rfl, hh.below, (vT2.mk (show _ from rfl) (show _ from rfl))⟩

end Go.Proofs.YtaccejbajgmdnaaDoor
