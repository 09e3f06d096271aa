/- The Go functions of group Code compute the pure functions of that group: written by walkgen.py. Condition of each: the pure function yields a result. -/
import Derived.Test.YtfbjmeehmanjnaaKeyLJ
import Derived.Test.YtfbjmeehmanjnaaCodeFJ
import Derived.Test.YtfbjmeehmanjnaaEqLJ
namespace Go.Proofs.Ytfbjmeehmanjnaa
set_option linter.unusedVariables false
set_option maxRecDepth 100000 in
set_option maxHeartbeats 4000000 in
theorem sum_Of_l (F : Nat) (p0 : ByteArray) (r : Int) (hF : sum_Of F p0 = some r) (w : World)  :
 Calls Try.prog 45 #[.string p0] w (Post (vSc eInt) r w) := by
 unfold sum_Of at hF
 refine T.start (l := [.string p0]) Try.func45 rfl rfl rfl ?_
 refine T.seq ?_
 refine T.region ?_
 refine T.pure (.int .i64 0) (by kernel_rfl) (fun _ => by kernel_rfl) ?_
 refine T.nil ?_
 refine T.seq ?_
 refine T.region ?_
 refine T.pure (.int .u16 0) (by kernel_rfl) (fun _ => by kernel_rfl) ?_
 refine T.nil ?_
 refine T.seq ?_
 refine T.seq ?_
 refine T.region ?_
 refine T.pure (.string p0) (by kernel_rfl) (fun _ => by kernel_rfl) ?_
 refine T.pure (.int .i64 (p0.size : Int)) (by kernel_rfl) (fun _ => by kernel_rfl) ?_
 refine T.pure (.int .i64 0) (by kernel_rfl) (fun _ => by kernel_rfl) ?_
 refine T.nil ?_
 obtain ⟨z1, hz1, hF⟩ := Option.bind_eq_some_iff.1 hF
 refine T.mid (fun a w' => Fr 31 [(3, .int .u16 z1)] a ∧ Hp w (vw w) [] w') ?_ ?_
 ·
  refine T.block ?_
  refine T.iter (fun s1 a w' => ∃ (x1 : Int) (x2 : Int), s1 = (x1, x2) ∧ Fr 31 [(0, .string p0), (3, .int .u16 x1), (6, .int .i64 (p0.size : Int)), (7, .int .i64 x2)] a ∧ Hp w (vw w) [] w') hz1 ?_ ?_
  ·
   exact fun a w' hf hh => Exists.intro 0 (Exists.intro 0 (And.intro rfl (And.intro (((((Fr.nil hf).pick hf 7 rfl).pick hf 6 rfl).pick hf 3 rfl).pick hf 0 rfl) (hh.sub List.Sublist.slnil))))
  ·
   rintro s1 y1 hY1 hr1 a w' ⟨x1, x2, rfl, hf, hh⟩
   refine (?_ : T 31 w (vw w) [] [(0, .string p0), (3, .int .u16 x1), (6, .int .i64 (p0.size : Int)), (7, .int .i64 x2)] _) a w' hf hh
   clear hf hh
   try dsimp only at hY1
   refine T.seq ?_
   refine T.region ?_
   refine T.pure (.bool (decide (x2 < (p0.size : Int)))) (by kernel_rfl) (fun _ => by kernel_rfl) ?_
   refine T.nil ?_
   refine T.seq ?_
   refine T.cond (decide (x2 < (p0.size : Int))) (by kernel_rfl) (by kernel_rfl) (fun hc1 => ?_) (fun hc1 => ?_)
   ·
    rw [hc1, cond_true] at hY1
    refine T.skip_code ?_
    refine T.seq ?_
    refine T.block ?_
    refine T.seq ?_
    refine T.region ?_
    refine T.pure (.int .i64 x2) (by kernel_rfl) (fun _ => by kernel_rfl) ?_
    refine T.pure (.int .i64 x2) (by kernel_rfl) (fun _ => by kernel_rfl) ?_
    refine T.nil ?_
    refine T.seq ?_
    refine T.region ?_
    refine T.pure (.int .u16 x1) (by kernel_rfl) (fun _ => by kernel_rfl) ?_
    refine T.pure (.string p0) (by kernel_rfl) (fun _ => by kernel_rfl) ?_
    refine T.pure (.int .i64 x2) (by kernel_rfl) (fun _ => by kernel_rfl) ?_
    obtain ⟨b1, hb1, hY1⟩ := Option.bind_eq_some_iff.1 hY1
    refine T.look (.int .u8 (b1.toNat : Int)) (by kernel_rfl) (fun w' hh => exec_index_str rfl rfl rfl (by kernel_rfl) hb1) ?_
    refine T.pure (.int .u16 (IntKind.u16.wrap (b1.toNat : Int))) (by kernel_rfl) (fun _ => by kernel_rfl) ?_
    refine T.pure (.int .u16 (shl .u16 (IntKind.u16.wrap (b1.toNat : Int)) 8)) (by kernel_rfl) (fun _ => by kernel_rfl) ?_
    refine T.pure (.int .u16 (bxor .u16 x1 (shl .u16 (IntKind.u16.wrap (b1.toNat : Int)) 8))) (by kernel_rfl) (fun _ => by kernel_rfl) ?_
    refine T.pure (.int .u16 (bxor .u16 x1 (shl .u16 (IntKind.u16.wrap (b1.toNat : Int)) 8))) (by kernel_rfl) (fun _ => by kernel_rfl) ?_
    refine T.nil ?_
    refine T.seq ?_
    refine T.region ?_
    refine T.pure (.int .i64 0) (by kernel_rfl) (fun _ => by kernel_rfl) ?_
    refine T.nil ?_
    obtain ⟨z2, hz2, hY1⟩ := Option.bind_eq_some_iff.1 hY1
    refine T.mid (fun a w' => Fr 31 [(0, .string p0), (3, .int .u16 z2), (6, .int .i64 (p0.size : Int)), (7, .int .i64 x2)] a ∧ Hp w (vw w) [] w') ?_ ?_
    ·
     refine T.block ?_
     refine T.iter (fun s2 a w' => ∃ (x3 : Int) (x4 : Int), s2 = (x3, x4) ∧ Fr 31 [(0, .string p0), (3, .int .u16 x3), (6, .int .i64 (p0.size : Int)), (7, .int .i64 x2), (17, .int .i64 x4)] a ∧ Hp w (vw w) [] w') hz2 ?_ ?_
     ·
      exact fun a w' hf hh => Exists.intro (bxor .u16 x1 (shl .u16 (IntKind.u16.wrap (b1.toNat : Int)) 8)) (Exists.intro 0 (And.intro rfl (And.intro ((((((Fr.nil hf).pick hf 17 rfl).pick hf 7 rfl).pick hf 6 rfl).pick hf 3 rfl).pick hf 0 rfl) (hh.sub List.Sublist.slnil))))
     ·
      rintro s2 y2 hY2 hr2 a w' ⟨x3, x4, rfl, hf, hh⟩
      refine (?_ : T 31 w (vw w) [] [(0, .string p0), (3, .int .u16 x3), (6, .int .i64 (p0.size : Int)), (7, .int .i64 x2), (17, .int .i64 x4)] _) a w' hf hh
      clear hf hh
      try dsimp only at hY2
      refine T.seq ?_
      refine T.region ?_
      refine T.pure (.bool (decide (x4 < 8))) (by kernel_rfl) (fun _ => by kernel_rfl) ?_
      refine T.nil ?_
      refine T.seq ?_
      refine T.cond (decide (x4 < 8)) (by kernel_rfl) (by kernel_rfl) (fun hc2 => ?_) (fun hc2 => ?_)
      ·
       rw [hc2, cond_true] at hY2
       refine T.skip_code ?_
       obtain ⟨z3, hX1, hY2⟩ := Option.bind_eq_some_iff.1 hY2
       refine T.cut (fun a w' => Fr 31 [(0, .string p0), (3, .int .u16 z3), (6, .int .i64 (p0.size : Int)), (7, .int .i64 x2), (17, .int .i64 x4)] a ∧ Hp w (vw w) [] w') ?_ ?_
       ·
        refine T.block ?_
        refine T.seq ?_
        refine T.region ?_
        refine T.pure (.int .u16 x3) (by kernel_rfl) (fun _ => by kernel_rfl) ?_
        refine T.pure (.int .u16 (band .u16 x3 32768)) (by kernel_rfl) (fun _ => by kernel_rfl) ?_
        refine T.pure (.bool ((band .u16 x3 32768) != 0)) (by kernel_rfl) (fun _ => by kernel_rfl) ?_
        refine T.nil ?_
        refine T.cond ((band .u16 x3 32768) != 0) (by kernel_rfl) (by kernel_rfl) (fun hc3 => ?_) (fun hc3 => ?_)
        ·
         rw [hc3, cond_true] at hX1
         refine T.region ?_
         refine T.pure (.int .u16 x3) (by kernel_rfl) (fun _ => by kernel_rfl) ?_
         refine T.pure (.int .u16 (shl .u16 x3 1)) (by kernel_rfl) (fun _ => by kernel_rfl) ?_
         refine T.pure (.int .u16 (bxor .u16 (shl .u16 x3 1) 4129)) (by kernel_rfl) (fun _ => by kernel_rfl) ?_
         refine T.pure (.int .u16 (bxor .u16 (shl .u16 x3 1) 4129)) (by kernel_rfl) (fun _ => by kernel_rfl) ?_
         refine T.nil ?_
         cases hX1
         exact fun a w' hf hh => And.intro ((((((Fr.nil hf).pick hf 17 rfl).pick hf 7 rfl).pick hf 6 rfl).pick hf 3 rfl).pick hf 0 rfl) (hh.sub List.Sublist.slnil)
        ·
         rw [hc3, cond_false] at hX1
         refine T.region ?_
         refine T.pure (.int .u16 x3) (by kernel_rfl) (fun _ => by kernel_rfl) ?_
         refine T.pure (.int .u16 (shl .u16 x3 1)) (by kernel_rfl) (fun _ => by kernel_rfl) ?_
         refine T.pure (.int .u16 (shl .u16 x3 1)) (by kernel_rfl) (fun _ => by kernel_rfl) ?_
         refine T.nil ?_
         cases hX1
         exact fun a w' hf hh => And.intro ((((((Fr.nil hf).pick hf 17 rfl).pick hf 7 rfl).pick hf 6 rfl).pick hf 3 rfl).pick hf 0 rfl) (hh.sub List.Sublist.slnil)
       ·
        rintro a w' ⟨hf, hh⟩
        refine (?_ : T 31 w (vw w) [] [(0, .string p0), (3, .int .u16 z3), (6, .int .i64 (p0.size : Int)), (7, .int .i64 x2), (17, .int .i64 x4)] _) a w' hf hh
        clear hf hh
        refine T.region ?_
        refine T.pure (.int .i64 (IntKind.i64.wrap (x4 + 1))) (by kernel_rfl) (fun _ => by kernel_rfl) ?_
        refine T.pure (.int .i64 (IntKind.i64.wrap (x4 + 1))) (by kernel_rfl) (fun _ => by kernel_rfl) ?_
        refine T.nil ?_
        cases hY2
        exact fun a w' hf hh => Exists.intro (z3, IntKind.i64.wrap (x4 + 1)) (And.intro rfl (Exists.intro z3 (Exists.intro (IntKind.i64.wrap (x4 + 1)) (And.intro rfl (And.intro ((((((Fr.nil hf).pick hf 17 rfl).pick hf 7 rfl).pick hf 6 rfl).pick hf 3 rfl).pick hf 0 rfl) (hh.sub List.Sublist.slnil))))))
      ·
       rw [hc2, cond_false] at hY2
       refine T.exit ?_
       cases hY2
       cases (hr2 _ rfl)
       exact fun a w' hf hh => And.intro (((((Fr.nil hf).pick hf 7 rfl).pick hf 6 rfl).pick hf 3 rfl).pick hf 0 rfl) (hh.sub List.Sublist.slnil)
    ·
     rintro a w' ⟨hf, hh⟩
     refine (?_ : T 31 w (vw w) [] [(0, .string p0), (3, .int .u16 z2), (6, .int .i64 (p0.size : Int)), (7, .int .i64 x2)] _) a w' hf hh
     clear hf hh
     refine T.region ?_
     refine T.pure (.int .i64 (IntKind.i64.wrap (x2 + 1))) (by kernel_rfl) (fun _ => by kernel_rfl) ?_
     refine T.pure (.int .i64 (IntKind.i64.wrap (x2 + 1))) (by kernel_rfl) (fun _ => by kernel_rfl) ?_
     refine T.nil ?_
     cases hY1
     exact fun a w' hf hh => Exists.intro (z2, IntKind.i64.wrap (x2 + 1)) (And.intro rfl (Exists.intro z2 (Exists.intro (IntKind.i64.wrap (x2 + 1)) (And.intro rfl (And.intro (((((Fr.nil hf).pick hf 7 rfl).pick hf 6 rfl).pick hf 3 rfl).pick hf 0 rfl) (hh.sub List.Sublist.slnil))))))
   ·
    rw [hc1, cond_false] at hY1
    refine T.exit ?_
    cases hY1
    cases (hr1 _ rfl)
    exact fun a w' hf hh => And.intro ((Fr.nil hf).pick hf 3 rfl) (hh.sub List.Sublist.slnil)
 ·
  rintro a w' ⟨hf, hh⟩
  refine (?_ : T 31 w (vw w) [] [(3, .int .u16 z1)] _) a w' hf hh
  clear hf hh
  refine T.seq ?_
  refine T.region ?_
  refine T.pure (.int .u16 z1) (by kernel_rfl) (fun _ => by kernel_rfl) ?_
  refine T.pure (.int .i64 (IntKind.i64.wrap z1)) (by kernel_rfl) (fun _ => by kernel_rfl) ?_
  refine T.pure (.int .i64 (IntKind.i64.wrap z1)) (by kernel_rfl) (fun _ => by kernel_rfl) ?_
  refine T.nil ?_
  cases hF
  refine T.ret rfl ?_
  exact T.ret1 rfl (ResIs.tmp rfl) fun w' hh => ⟨_, rfl, hh.below, (show _ from rfl)⟩
set_option maxRecDepth 100000 in
set_option maxHeartbeats 4000000 in
theorem frame_number_l (p0 : ByteArray) (r : Int) (hF : frame_number p0 = some r) (w : World)  :
 Calls Try.prog 44 #[.string p0] w (Post (vSc eInt) r w) := by
 unfold frame_number at hF
 refine T.start (l := [.string p0]) Try.func44 rfl rfl rfl ?_
 refine T.seq ?_
 refine T.region ?_
 refine T.pure (.int .i64 0) (by kernel_rfl) (fun _ => by kernel_rfl) ?_
 refine T.nil ?_
 refine T.seq ?_
 refine T.quiet (by kernel_rfl) (by kernel_rfl) ?_
 refine TQ.pure (.string p0) (by kernel_rfl) (fun _ => by kernel_rfl) ?_
 obtain ⟨b1, hb1, hF⟩ := Option.bind_eq_some_iff.1 hF
 refine TQ.look (.int .u8 (b1.toNat : Int)) (by kernel_rfl) (fun w' hh => exec_index_str rfl rfl rfl (by kernel_rfl) hb1) ?_
 refine TQ.pure (.int .i64 (IntKind.i64.wrap (b1.toNat : Int))) (by kernel_rfl) (fun _ => by kernel_rfl) ?_
 refine TQ.pure (.int .i64 (shl .i64 (IntKind.i64.wrap (b1.toNat : Int)) 8)) (by kernel_rfl) (fun _ => by kernel_rfl) ?_
 refine TQ.pure (.string p0) (by kernel_rfl) (fun _ => by kernel_rfl) ?_
 obtain ⟨b2, hb2, hF⟩ := Option.bind_eq_some_iff.1 hF
 refine TQ.look (.int .u8 (b2.toNat : Int)) (by kernel_rfl) (fun w' hh => exec_index_str rfl rfl rfl (by kernel_rfl) hb2) ?_
 refine TQ.pure (.int .i64 (IntKind.i64.wrap (b2.toNat : Int))) (by kernel_rfl) (fun _ => by kernel_rfl) ?_
 refine TQ.pure (.int .i64 (bor .i64 (shl .i64 (IntKind.i64.wrap (b1.toNat : Int)) 8) (IntKind.i64.wrap (b2.toNat : Int)))) (by kernel_rfl) (fun _ => by kernel_rfl) ?_
 refine TQ.pure (.int .i64 (bor .i64 (shl .i64 (IntKind.i64.wrap (b1.toNat : Int)) 8) (IntKind.i64.wrap (b2.toNat : Int)))) (by kernel_rfl) (fun _ => by kernel_rfl) ?_
 refine TQ.nil ?_
 cases hF
 refine T.ret rfl ?_
 exact T.ret1 rfl (ResIs.tmp rfl) fun w' hh => ⟨_, rfl, hh.below, (show _ from rfl)⟩
set_option maxRecDepth 100000 in
set_option maxHeartbeats 4000000 in
theorem frame_Get_l (F : Nat) (p0 : ByteArray) (r : DFrame × Int × Int) (hF : frame_Get F p0 = some r) (w : World)  :
 Calls Try.prog 35 #[.string p0] w (Post (vT3 (vAg eFrame) (vSc eInt) (vSc eInt)) r w) := by
 unfold frame_Get at hF
 refine T.start (l := [.string p0]) Try.func35 rfl rfl rfl ?_
 refine T.seq ?_
 refine T.region ?_
 refine T.step (W1.new 74 [.int .i64 0, .string (ByteArray.mk #[])] (fun b => .pointer (some ⟨b, 0, none⟩)) (by kernel_rfl) (fun _ => by kernel_rfl) (fun b1 => ?_))
 refine T.pure (.int .i64 0) (by kernel_rfl) (fun _ => by kernel_rfl) ?_
 refine T.pure (.int .i64 0) (by kernel_rfl) (fun _ => by kernel_rfl) ?_
 refine T.nil ?_
 refine T.seq ?_
 refine T.seq ?_
 refine T.region ?_
 refine T.pure (.string p0) (by kernel_rfl) (fun _ => by kernel_rfl) ?_
 refine T.pure (.int .i64 (p0.size : Int)) (by kernel_rfl) (fun _ => by kernel_rfl) ?_
 refine T.pure (.bool (decide ((p0.size : Int) < 5))) (by kernel_rfl) (fun _ => by kernel_rfl) ?_
 refine T.nil ?_
 refine T.cond (decide ((p0.size : Int) < 5)) (by kernel_rfl) (by kernel_rfl) (fun hc1 => ?_) (fun hc1 => ?_)
 ·
  rw [hc1, cond_true] at hF
  refine T.seq ?_
  refine T.region ?_
  refine T.pure (.agg #[.int .i64 0, .string (ByteArray.mk #[])]) (by kernel_rfl) (fun _ => by kernel_rfl) ?_
  refine T.step (W1.store 0 [.int .i64 0, .string (ByteArray.mk #[])] [box b1 74 [.int .i64 0, .string (ByteArray.mk #[])]] (by rfl) rfl (by kernel_rfl) (fun w' hw => exec_store (vs := [.int .i64 0, .string (ByteArray.mk #[])]) rfl rfl rfl rfl (by kernel_rfl) (one_of rfl) (by simp) rfl hw) ?_)
  refine T.pure (.int .i64 0) (by kernel_rfl) (fun _ => by kernel_rfl) ?_
  refine T.pure (.int .i64 7) (by kernel_rfl) (fun _ => by kernel_rfl) ?_
  refine T.nil ?_
  cases hF
  refine T.ret rfl ?_
  exact T.ret3 rfl (ResIs.cellN 0 rfl (by rfl) (fun _ => by kernel_rfl) (fun _ => by kernel_rfl)) (ResIs.tmp rfl) (ResIs.tmp rfl) fun w' hh => ⟨_, rfl, hh.below, (vT3.mk (vAg.mk rfl) (show _ from rfl) (show _ from rfl))⟩
 ·
  rw [hc1, cond_false] at hF
  refine T.skip_code ?_
  refine T.seq ?_
  refine T.region ?_
  refine T.pure (.string p0) (by kernel_rfl) (fun _ => by kernel_rfl) ?_
  obtain ⟨s1, hb1, hF⟩ := Option.bind_eq_some_iff.1 hF
  refine T.look (.string s1) (by kernel_rfl) (fun w' hh => exec_slice_str_lo rfl rfl rfl (by kernel_rfl) hb1) ?_
  obtain ⟨r1, hb2, hF⟩ := Option.bind_eq_some_iff.1 hF
  refine T.step (W1.call (vSc eInt) r1 44 #[.string s1] (by kernel_rfl) (fun _ => by kernel_rfl) (fun w' hh => frame_number_l s1 r1 hb2 w' ) ?_)
  intro u V1 hV1 hu
  obtain rfl := sureInt _ _ _ hu
  refine T.pure (.int .i64 r1) (by kernel_rfl) (fun _ => by kernel_rfl) ?_
  refine T.nil ?_
  refine T.seq ?_
  obtain ⟨z1, hX1, hF⟩ := Option.bind_eq_some_iff.1 hF
  refine T.cut (fun a w' => Fr 49 [(0, .string p0), (2, .pointer (some ⟨b1, 0, none⟩)), (5, .int .i64 r1), (19, .bool z1)] a ∧ Hp w V1 [box b1 74 [.int .i64 0, .string (ByteArray.mk #[])]] w') ?_ ?_
  ·
   refine T.region ?_
   refine T.pure (.string p0) (by kernel_rfl) (fun _ => by kernel_rfl) ?_
   obtain ⟨b2, hb3, hX1⟩ := Option.bind_eq_some_iff.1 hX1
   refine T.look (.int .u8 (b2.toNat : Int)) (by kernel_rfl) (fun w' hh => exec_index_str rfl rfl rfl (by kernel_rfl) hb3) ?_
   refine T.pure (.bool ((b2.toNat : Int) == 0)) (by kernel_rfl) (fun _ => by kernel_rfl) ?_
   refine T.pure (.bool ((b2.toNat : Int) == 0)) (by kernel_rfl) (fun _ => by kernel_rfl) ?_
   cases hg1 : ((b2.toNat : Int) == 0)
   ·
    skip
    rw [hg1, cond_false] at hX1
    refine T.pure (.int .i64 r1) (by kernel_rfl) (fun _ => by kernel_rfl) ?_
    refine T.pure (.bool (decide ((3000 : Int) < r1))) (by kernel_rfl) (fun _ => by kernel_rfl) ?_
    refine T.pure (.bool (decide ((3000 : Int) < r1))) (by kernel_rfl) (fun _ => by kernel_rfl) ?_
    refine T.nil ?_
    cases hX1
    exact fun a w' hf hh => And.intro (((((Fr.nil hf).pick hf 19 rfl).pick hf 5 rfl).pick hf 2 rfl).pick hf 0 rfl) (hh.sub (.cons_cons _ List.Sublist.slnil))
   ·
    skip
    rw [hg1, cond_true] at hX1
    refine T.pass (by kernel_rfl) (by kernel_rfl) ?_
    refine T.pass (by kernel_rfl) (by kernel_rfl) ?_
    refine T.pure (.bool true) (by kernel_rfl) (fun _ => by kernel_rfl) ?_
    refine T.nil ?_
    cases hX1
    exact fun a w' hf hh => And.intro (((((Fr.nil hf).pick hf 19 rfl).pick hf 5 rfl).pick hf 2 rfl).pick hf 0 rfl) (hh.sub (.cons_cons _ List.Sublist.slnil))
  ·
   rintro a w' ⟨hf, hh⟩
   refine (?_ : T 49 w V1 [box b1 74 [.int .i64 0, .string (ByteArray.mk #[])]] [(0, .string p0), (2, .pointer (some ⟨b1, 0, none⟩)), (5, .int .i64 r1), (19, .bool z1)] _) a w' hf hh
   clear hf hh
   refine T.cond z1 (by kernel_rfl) (by kernel_rfl) (fun hc2 => ?_) (fun hc2 => ?_)
   ·
    rw [hc2, cond_true] at hF
    refine T.seq ?_
    refine T.region ?_
    refine T.pure (.agg #[.int .i64 0, .string (ByteArray.mk #[])]) (by kernel_rfl) (fun _ => by kernel_rfl) ?_
    refine T.step (W1.store 0 [.int .i64 0, .string (ByteArray.mk #[])] [box b1 74 [.int .i64 0, .string (ByteArray.mk #[])]] (by rfl) rfl (by kernel_rfl) (fun w' hw => exec_store (vs := [.int .i64 0, .string (ByteArray.mk #[])]) rfl rfl rfl rfl (by kernel_rfl) (one_of rfl) (by simp) rfl hw) ?_)
    refine T.pure (.int .i64 0) (by kernel_rfl) (fun _ => by kernel_rfl) ?_
    refine T.pure (.int .i64 3) (by kernel_rfl) (fun _ => by kernel_rfl) ?_
    refine T.nil ?_
    cases hF
    refine T.ret rfl ?_
    exact T.ret3 rfl (ResIs.cellN 0 rfl (by rfl) (fun _ => by kernel_rfl) (fun _ => by kernel_rfl)) (ResIs.tmp rfl) (ResIs.tmp rfl) fun w' hh => ⟨_, rfl, hh.below, (vT3.mk (vAg.mk rfl) (show _ from rfl) (show _ from rfl))⟩
   ·
    rw [hc2, cond_false] at hF
    refine T.skip_code ?_
    refine T.seq ?_
    refine T.seq ?_
    refine T.region ?_
    refine T.pure (.string p0) (by kernel_rfl) (fun _ => by kernel_rfl) ?_
    refine T.pure (.int .i64 (p0.size : Int)) (by kernel_rfl) (fun _ => by kernel_rfl) ?_
    refine T.pure (.int .i64 r1) (by kernel_rfl) (fun _ => by kernel_rfl) ?_
    refine T.pure (.int .i64 (IntKind.i64.wrap (r1 + 5))) (by kernel_rfl) (fun _ => by kernel_rfl) ?_
    refine T.pure (.bool (decide ((p0.size : Int) < (IntKind.i64.wrap (r1 + 5))))) (by kernel_rfl) (fun _ => by kernel_rfl) ?_
    refine T.nil ?_
    refine T.cond (decide ((p0.size : Int) < (IntKind.i64.wrap (r1 + 5)))) (by kernel_rfl) (by kernel_rfl) (fun hc3 => ?_) (fun hc3 => ?_)
    ·
     rw [hc3, cond_true] at hF
     refine T.seq ?_
     refine T.region ?_
     refine T.pure (.agg #[.int .i64 0, .string (ByteArray.mk #[])]) (by kernel_rfl) (fun _ => by kernel_rfl) ?_
     refine T.step (W1.store 0 [.int .i64 0, .string (ByteArray.mk #[])] [box b1 74 [.int .i64 0, .string (ByteArray.mk #[])]] (by rfl) rfl (by kernel_rfl) (fun w' hw => exec_store (vs := [.int .i64 0, .string (ByteArray.mk #[])]) rfl rfl rfl rfl (by kernel_rfl) (one_of rfl) (by simp) rfl hw) ?_)
     refine T.pure (.int .i64 0) (by kernel_rfl) (fun _ => by kernel_rfl) ?_
     refine T.pure (.int .i64 7) (by kernel_rfl) (fun _ => by kernel_rfl) ?_
     refine T.nil ?_
     cases hF
     refine T.ret rfl ?_
     exact T.ret3 rfl (ResIs.cellN 0 rfl (by rfl) (fun _ => by kernel_rfl) (fun _ => by kernel_rfl)) (ResIs.tmp rfl) (ResIs.tmp rfl) fun w' hh => ⟨_, rfl, hh.below, (vT3.mk (vAg.mk rfl) (show _ from rfl) (show _ from rfl))⟩
    ·
     rw [hc3, cond_false] at hF
     refine T.skip_code ?_
     refine T.seq ?_
     refine T.seq ?_
     refine T.quiet (by kernel_rfl) (by kernel_rfl) ?_
     refine TQ.pure (.string p0) (by kernel_rfl) (fun _ => by kernel_rfl) ?_
     refine TQ.pure (.int .i64 r1) (by kernel_rfl) (fun _ => by kernel_rfl) ?_
     refine TQ.pure (.int .i64 (IntKind.i64.wrap (r1 + 3))) (by kernel_rfl) (fun _ => by kernel_rfl) ?_
     obtain ⟨s2, hb4, hF⟩ := Option.bind_eq_some_iff.1 hF
     refine TQ.look (.string s2) (by kernel_rfl) (fun w' hh => exec_slice_str_lo rfl rfl rfl (by kernel_rfl) hb4) ?_
     obtain ⟨r2, hb5, hF⟩ := Option.bind_eq_some_iff.1 hF
     refine TQ.call (vSc eInt) r2 44 #[.string s2] (.int .i64 r2) (fun V u hu => sureInt V u _ hu) (by kernel_rfl) (fun _ => by kernel_rfl) (fun w' hh => frame_number_l s2 r2 hb5 w' ) ?_
     refine TQ.pure (.string p0) (by kernel_rfl) (fun _ => by kernel_rfl) ?_
     refine TQ.pure (.int .i64 r1) (by kernel_rfl) (fun _ => by kernel_rfl) ?_
     refine TQ.pure (.int .i64 (IntKind.i64.wrap (r1 + 3))) (by kernel_rfl) (fun _ => by kernel_rfl) ?_
     obtain ⟨s3, hb6, hF⟩ := Option.bind_eq_some_iff.1 hF
     refine TQ.look (.string s3) (by kernel_rfl) (fun w' hh => exec_slice_str_hi rfl rfl rfl (by kernel_rfl) hb6) ?_
     obtain ⟨r3, hb7, hF⟩ := Option.bind_eq_some_iff.1 hF
     refine TQ.call (vSc eInt) r3 45 #[.string s3] (.int .i64 r3) (fun V u hu => sureInt V u _ hu) (by kernel_rfl) (fun _ => by kernel_rfl) (fun w' hh => sum_Of_l F s3 r3 hb7 w' ) ?_
     refine TQ.pure (.bool (r2 != r3)) (by kernel_rfl) (fun _ => by kernel_rfl) ?_
     refine TQ.nil ?_
     refine T.cond (r2 != r3) (by kernel_rfl) (by kernel_rfl) (fun hc4 => ?_) (fun hc4 => ?_)
     ·
      rw [hc4, cond_true] at hF
      refine T.seq ?_
      refine T.region ?_
      refine T.pure (.agg #[.int .i64 0, .string (ByteArray.mk #[])]) (by kernel_rfl) (fun _ => by kernel_rfl) ?_
      refine T.step (W1.store 0 [.int .i64 0, .string (ByteArray.mk #[])] [box b1 74 [.int .i64 0, .string (ByteArray.mk #[])]] (by rfl) rfl (by kernel_rfl) (fun w' hw => exec_store (vs := [.int .i64 0, .string (ByteArray.mk #[])]) rfl rfl rfl rfl (by kernel_rfl) (one_of rfl) (by simp) rfl hw) ?_)
      refine T.pure (.int .i64 0) (by kernel_rfl) (fun _ => by kernel_rfl) ?_
      refine T.pure (.int .i64 6) (by kernel_rfl) (fun _ => by kernel_rfl) ?_
      refine T.nil ?_
      cases hF
      refine T.ret rfl ?_
      exact T.ret3 rfl (ResIs.cellN 0 rfl (by rfl) (fun _ => by kernel_rfl) (fun _ => by kernel_rfl)) (ResIs.tmp rfl) (ResIs.tmp rfl) fun w' hh => ⟨_, rfl, hh.below, (vT3.mk (vAg.mk rfl) (show _ from rfl) (show _ from rfl))⟩
     ·
      rw [hc4, cond_false] at hF
      refine T.skip_code ?_
      refine T.seq ?_
      refine T.held [] (by kernel_rfl) ?_
      refine TA.take 0 (.string p0) rfl (by kernel_rfl) (by kernel_rfl) (by kernel_rfl) (fun _ _ _ h => h) (Hp.old (View.le_refl _) hV1 (.cons _ List.Sublist.slnil) OldAll.nil) (by kernel_rfl) (fun _ _ => by kernel_rfl) ?_
      obtain ⟨b3, hb8, hF⟩ := Option.bind_eq_some_iff.1 hF
      refine TA.take 1 (.int .u8 (b3.toNat : Int)) rfl (by kernel_rfl) (by kernel_rfl) (by kernel_rfl) (fun _ _ _ h => h) (Hp.old (View.le_refl _) hV1 (.cons _ List.Sublist.slnil) OldAll.nil) (by kernel_rfl) (fun w' hh => exec_index_str rfl rfl rfl (by kernel_rfl) hb8) ?_
      refine TA.take 2 (.int .i64 (IntKind.i64.wrap (b3.toNat : Int))) rfl (by kernel_rfl) (by kernel_rfl) (by kernel_rfl) (fun _ _ _ h => h) (Hp.old (View.le_refl _) hV1 (.cons _ List.Sublist.slnil) OldAll.nil) (by kernel_rfl) (fun _ _ => by kernel_rfl) ?_
      refine TA.take 3 (.string p0) rfl (by kernel_rfl) (by kernel_rfl) (by kernel_rfl) (fun _ _ _ h => h) (Hp.old (View.le_refl _) hV1 (.cons _ List.Sublist.slnil) OldAll.nil) (by kernel_rfl) (fun _ _ => by kernel_rfl) ?_
      refine TA.take 4 (.int .i64 r1) rfl (by kernel_rfl) (by kernel_rfl) (by kernel_rfl) (fun _ _ _ h => h) (Hp.old (View.le_refl _) hV1 (.cons _ List.Sublist.slnil) OldAll.nil) (by kernel_rfl) (fun _ _ => by kernel_rfl) ?_
      refine TA.take 5 (.int .i64 (IntKind.i64.wrap (r1 + 3))) rfl (by kernel_rfl) (by kernel_rfl) (by kernel_rfl) (fun _ _ _ h => h) (Hp.old (View.le_refl _) hV1 (.cons _ List.Sublist.slnil) OldAll.nil) (by kernel_rfl) (fun _ _ => by kernel_rfl) ?_
      obtain ⟨s4, hb9, hF⟩ := Option.bind_eq_some_iff.1 hF
      refine TA.take 6 (.string s4) rfl (by kernel_rfl) (by kernel_rfl) (by kernel_rfl) (fun _ _ _ h => h) (Hp.old (View.le_refl _) hV1 (.cons _ List.Sublist.slnil) OldAll.nil) (by kernel_rfl) (fun w' hh => exec_slice_str rfl rfl rfl rfl (by kernel_rfl) hb9) ?_
      refine TA.take 7 (.agg #[.int .i64 (IntKind.i64.wrap (b3.toNat : Int)), .string s4]) rfl (by kernel_rfl) (by kernel_rfl) (by kernel_rfl) (fun _ _ _ h => h) (Hp.old (View.le_refl _) hV1 (.cons _ List.Sublist.slnil) OldAll.nil) (by kernel_rfl) (fun _ _ => by kernel_rfl) ?_
      refine TA.take 8 (.int .i64 r1) rfl (by kernel_rfl) (by kernel_rfl) (by kernel_rfl) (fun _ _ _ h => h) (Hp.old (View.le_refl _) hV1 (.cons _ List.Sublist.slnil) OldAll.nil) (by kernel_rfl) (fun _ _ => by kernel_rfl) ?_
      refine TA.take 9 (.int .i64 (IntKind.i64.wrap (r1 + 5))) rfl (by kernel_rfl) (by kernel_rfl) (by kernel_rfl) (fun _ _ _ h => h) (Hp.old (View.le_refl _) hV1 (.cons _ List.Sublist.slnil) OldAll.nil) (by kernel_rfl) (fun _ _ => by kernel_rfl) ?_
      refine TA.all [10] (by kernel_rfl) rfl ⟨?_, trivial⟩
      refine TA.br rfl (W1.store 0 [.int .i64 (IntKind.i64.wrap (b3.toNat : Int)), .string s4] [box b1 74 [.int .i64 (IntKind.i64.wrap (b3.toNat : Int)), .string s4]] (by rfl) rfl (by kernel_rfl) (fun w' hw => exec_store (vs := [.int .i64 (IntKind.i64.wrap (b3.toNat : Int)), .string s4]) rfl rfl rfl rfl (by kernel_rfl) (one_of rfl) (by simp) rfl hw) ?_)
      refine TA.on (Hp.old (View.le_refl _) hV1 (.cons _ List.Sublist.slnil) OldAll.nil) ?_
      refine TA.take 11 (.int .i64 (IntKind.i64.wrap (r1 + 5))) rfl (by kernel_rfl) (by kernel_rfl) (by kernel_rfl) (fun _ _ _ h => h) (Hp.old (View.le_refl _) hV1 (.cons _ List.Sublist.slnil) OldAll.nil) (by kernel_rfl) (fun _ _ => by kernel_rfl) ?_
      refine TA.take 12 (.int .i64 0) rfl (by kernel_rfl) (by kernel_rfl) (by kernel_rfl) (fun _ _ _ h => h) (Hp.old (View.le_refl _) hV1 (.cons _ List.Sublist.slnil) OldAll.nil) (by kernel_rfl) (fun _ _ => by kernel_rfl) ?_
      refine TA.done (by kernel_rfl) ?_
      cases hF
      refine T.ret rfl ?_
      exact T.ret3 rfl (ResIs.cellN 0 rfl (by rfl) (fun _ => by kernel_rfl) (fun _ => by kernel_rfl)) (ResIs.tmp rfl) (ResIs.tmp rfl) fun w' hh => ⟨_, rfl, hh.below, (vT3.mk (vAg.mk rfl) (show _ from rfl) (show _ from rfl))⟩
set_option maxRecDepth 100000 in
set_option maxHeartbeats 4000000 in
theorem big_Put_l (F : Nat) (p0 : Int) (p1 : Int) (r : ByteArray) (hF : big_Put F p0 p1 = some r) (w : World)  :
 Calls Try.prog 49 #[.int .i64 p0, .int .i64 p1] w (Post (vSc eStr) r w) := by
 unfold big_Put at hF
 refine T.start (l := [.int .i64 p0, .int .i64 p1]) Try.func49 rfl rfl rfl ?_
 refine T.seq ?_
 refine T.region ?_
 refine T.pure (.string (ByteArray.mk #[])) (by kernel_rfl) (fun _ => by kernel_rfl) ?_
 refine T.nil ?_
 refine T.seq ?_
 refine T.region ?_
 refine T.pure (.int .i64 p1) (by kernel_rfl) (fun _ => by kernel_rfl) ?_
 obtain ⟨u1, hb1, hF⟩ := Option.bind_eq_some_iff.1 hF
 obtain ⟨ti, hti, hz1, hz2, hz3⟩ := info_parts (P := Try.prog) (e := 5) (z := .int .u8 0) (size := 1) (bytes := 1) (by kernel_rfl)
 obtain ⟨hb1_n, hb1_r, hb1_m⟩ := makes_some hb1
 refine T.step (W1.make (E := (eK .u8)) p1.toNat (0 : Int) _ _ .i64 .i64 1 ti _ (by kernel_rfl) rfl (by kernel_rfl) hti hz1 hz2 hz3 (congrArg (Value.int _) hb1_n.symm) (congrArg (Value.int _) hb1_n.symm) (fun _ => rfl) rfl hb1_r hb1_m (fun A1 => ?_))
 refine T.pure (.slice A1 ((List.replicate p1.toNat (0 : Int)).length) p1.toNat) (by kernel_rfl) (fun _ => by kernel_rfl) ?_
 refine T.nil ?_
 refine T.seq ?_
 refine T.seq ?_
 refine T.region ?_
 refine T.pure (.slice A1 ((List.replicate p1.toNat (0 : Int)).length) p1.toNat) (by kernel_rfl) (fun _ => by kernel_rfl) ?_
 refine T.pure (.int .i64 ((List.replicate p1.toNat (0 : Int)).length : Int)) (by kernel_rfl) (fun _ => by kernel_rfl) ?_
 refine T.pure (.int .i64 0) (by kernel_rfl) (fun _ => by kernel_rfl) ?_
 refine T.nil ?_
 obtain ⟨z1, hz1, hF⟩ := Option.bind_eq_some_iff.1 hF
 refine T.mid (fun a w' => Fr 27 [(5, .slice A1 z1.length p1.toNat)] a ∧ Hp w (vw w) [row 5 (eK .u8) A1 p1.toNat z1] w') ?_ ?_
 ·
  refine T.block ?_
  refine T.iter (fun s1 a w' => ∃ (x1 : List Int) (x2 : Int) (x3 : Int), s1 = (x1, x2, x3) ∧ Fr 27 [(0, .int .i64 x2), (1, .int .i64 p1), (5, .slice A1 x1.length p1.toNat), (10, .int .i64 ((List.replicate p1.toNat (0 : Int)).length : Int)), (11, .int .i64 x3)] a ∧ Hp w (vw w) [row 5 (eK .u8) A1 p1.toNat x1] w') hz1 ?_ ?_
  ·
   exact fun a w' hf hh => Exists.intro (List.replicate p1.toNat (0 : Int)) (Exists.intro p0 (Exists.intro 0 (And.intro rfl (And.intro ((((((Fr.nil hf).pick hf 11 rfl).pick hf 10 rfl).pick hf 5 rfl).pick hf 1 rfl).pick hf 0 rfl) (hh.sub (.cons_cons _ List.Sublist.slnil))))))
  ·
   rintro s1 y1 hY1 hr1 a w' ⟨x1, x2, x3, rfl, hf, hh⟩
   refine (?_ : T 27 w (vw w) [row 5 (eK .u8) A1 p1.toNat x1] [(0, .int .i64 x2), (1, .int .i64 p1), (5, .slice A1 x1.length p1.toNat), (10, .int .i64 ((List.replicate p1.toNat (0 : Int)).length : Int)), (11, .int .i64 x3)] _) a w' hf hh
   clear hf hh
   try dsimp only at hY1
   refine T.seq ?_
   refine T.region ?_
   refine T.pure (.bool (decide (x3 < ((List.replicate p1.toNat (0 : Int)).length : Int)))) (by kernel_rfl) (fun _ => by kernel_rfl) ?_
   refine T.nil ?_
   refine T.seq ?_
   refine T.cond (decide (x3 < ((List.replicate p1.toNat (0 : Int)).length : Int))) (by kernel_rfl) (by kernel_rfl) (fun hc1 => ?_) (fun hc1 => ?_)
   ·
    rw [hc1, cond_true] at hY1
    refine T.skip_code ?_
    refine T.seq ?_
    refine T.block ?_
    refine T.seq ?_
    refine T.region ?_
    refine T.pure (.int .i64 x3) (by kernel_rfl) (fun _ => by kernel_rfl) ?_
    refine T.pure (.int .i64 x3) (by kernel_rfl) (fun _ => by kernel_rfl) ?_
    refine T.nil ?_
    refine T.seq ?_
    refine T.region ?_
    refine T.pure (.slice A1 x1.length p1.toNat) (by kernel_rfl) (fun _ => by kernel_rfl) ?_
    refine T.pure (.int .i64 p1) (by kernel_rfl) (fun _ => by kernel_rfl) ?_
    refine T.pure (.int .i64 (IntKind.i64.wrap (p1 - 1))) (by kernel_rfl) (fun _ => by kernel_rfl) ?_
    refine T.pure (.int .i64 x3) (by kernel_rfl) (fun _ => by kernel_rfl) ?_
    refine T.pure (.int .i64 (IntKind.i64.wrap ((IntKind.i64.wrap (p1 - 1)) - x3))) (by kernel_rfl) (fun _ => by kernel_rfl) ?_
    refine T.pure (.int .i64 x2) (by kernel_rfl) (fun _ => by kernel_rfl) ?_
    refine T.pure (.int .u8 (IntKind.u8.wrap x2)) (by kernel_rfl) (fun _ => by kernel_rfl) ?_
    obtain ⟨e1, hb2, hY1⟩ := Option.bind_eq_some_iff.1 hY1
    obtain ⟨hi1, hi2, hi3⟩ := idx_some hb2
    refine T.look (.pointer (some ((sadr A1).add (((IntKind.i64.wrap ((IntKind.i64.wrap (p1 - 1)) - x3)).toNat) * 1)))) (by kernel_rfl) (fun w' hh => exec_indexAddr (e := 5) (s := 1) rfl rfl rfl (by kernel_rfl) (by kernel_rfl) hi1 hi2 ((hh.row_slOk (i := 0) (by rfl)).some_ hi3 (by decide))) ?_
    refine T.step (W1.storeRow (E := (eK .u8)) 0 ((IntKind.i64.wrap ((IntKind.i64.wrap (p1 - 1)) - x3)).toNat) 0 e1 (IntKind.u8.wrap x2) _ (vs := [.int .u8 (IntKind.u8.wrap x2)]) (by rfl) (by kernel_rfl) rfl rfl (addr_add0 _).symm rfl rfl (fun _ => by kernel_rfl) (one_of rfl) hi3 (Nat.le_of_ble_eq_true (by kernel_rfl)) (fun _ _ h => by cases h; rfl) ?_)
    refine T.reslot 5 (.slice A1 ((x1.set ((IntKind.i64.wrap ((IntKind.i64.wrap (p1 - 1)) - x3)).toNat) (IntKind.u8.wrap x2)).length) p1.toNat) rfl (by simp only [List.length_set]) ?_
    refine T.reslot 14 (.slice A1 ((x1.set ((IntKind.i64.wrap ((IntKind.i64.wrap (p1 - 1)) - x3)).toNat) (IntKind.u8.wrap x2)).length) p1.toNat) rfl (by simp only [List.length_set]) ?_
    refine T.nil ?_
    refine T.region ?_
    refine T.pure (.int .i64 x2) (by kernel_rfl) (fun _ => by kernel_rfl) ?_
    refine T.pure (.int .i64 (shr .i64 x2 8)) (by kernel_rfl) (fun _ => by kernel_rfl) ?_
    refine T.pure (.int .i64 (shr .i64 x2 8)) (by kernel_rfl) (fun _ => by kernel_rfl) ?_
    refine T.nil ?_
    refine T.region ?_
    refine T.pure (.int .i64 (IntKind.i64.wrap (x3 + 1))) (by kernel_rfl) (fun _ => by kernel_rfl) ?_
    refine T.pure (.int .i64 (IntKind.i64.wrap (x3 + 1))) (by kernel_rfl) (fun _ => by kernel_rfl) ?_
    refine T.nil ?_
    cases hY1
    exact fun a w' hf hh => Exists.intro ((x1.set ((IntKind.i64.wrap ((IntKind.i64.wrap (p1 - 1)) - x3)).toNat) (IntKind.u8.wrap x2)), shr .i64 x2 8, IntKind.i64.wrap (x3 + 1)) (And.intro rfl (Exists.intro (x1.set ((IntKind.i64.wrap ((IntKind.i64.wrap (p1 - 1)) - x3)).toNat) (IntKind.u8.wrap x2)) (Exists.intro (shr .i64 x2 8) (Exists.intro (IntKind.i64.wrap (x3 + 1)) (And.intro rfl (And.intro ((((((Fr.nil hf).pick hf 11 rfl).pick hf 10 rfl).pick hf 5 rfl).pick hf 1 rfl).pick hf 0 rfl) (hh.sub (.cons_cons _ List.Sublist.slnil))))))))
   ·
    rw [hc1, cond_false] at hY1
    refine T.exit ?_
    cases hY1
    cases (hr1 _ rfl)
    exact fun a w' hf hh => And.intro ((Fr.nil hf).pick hf 5 rfl) (hh.sub (.cons_cons _ List.Sublist.slnil))
 ·
  rintro a w' ⟨hf, hh⟩
  refine (?_ : T 27 w (vw w) [row 5 (eK .u8) A1 p1.toNat z1] [(5, .slice A1 z1.length p1.toNat)] _) a w' hf hh
  clear hf hh
  refine T.seq ?_
  refine T.region ?_
  refine T.pure (.slice A1 z1.length p1.toNat) (by kernel_rfl) (fun _ => by kernel_rfl) ?_
  refine T.look (.string (bytesOf z1)) (by kernel_rfl) (fun w' hh => exec_bytes_str (e := 5) rfl rfl (by kernel_rfl) (by kernel_rfl) (by kernel_rfl) (hh.row_slOk (i := 0) (by rfl))) ?_
  refine T.pure (.string (bytesOf z1)) (by kernel_rfl) (fun _ => by kernel_rfl) ?_
  refine T.nil ?_
  cases hF
  refine T.ret rfl ?_
  exact T.ret1 rfl (ResIs.tmp rfl) fun w' hh => ⟨_, rfl, hh.below, (show _ from rfl)⟩
set_option maxRecDepth 100000 in
set_option maxHeartbeats 4000000 in
theorem big_Get_l (F : Nat) (p0 : ByteArray) (r : Int) (hF : big_Get F p0 = some r) (w : World)  :
 Calls Try.prog 47 #[.string p0] w (Post (vSc eInt) r w) := by
 unfold big_Get at hF
 refine T.start (l := [.string p0]) Try.func47 rfl rfl rfl ?_
 refine T.seq ?_
 refine T.region ?_
 refine T.pure (.int .i64 0) (by kernel_rfl) (fun _ => by kernel_rfl) ?_
 refine T.nil ?_
 refine T.seq ?_
 refine T.region ?_
 refine T.pure (.int .i64 0) (by kernel_rfl) (fun _ => by kernel_rfl) ?_
 refine T.nil ?_
 refine T.seq ?_
 refine T.seq ?_
 refine T.region ?_
 refine T.pure (.string p0) (by kernel_rfl) (fun _ => by kernel_rfl) ?_
 refine T.pure (.int .i64 (p0.size : Int)) (by kernel_rfl) (fun _ => by kernel_rfl) ?_
 refine T.pure (.int .i64 0) (by kernel_rfl) (fun _ => by kernel_rfl) ?_
 refine T.nil ?_
 obtain ⟨z1, hz1, hF⟩ := Option.bind_eq_some_iff.1 hF
 refine T.mid (fun a w' => Fr 19 [(3, .int .i64 z1)] a ∧ Hp w (vw w) [] w') ?_ ?_
 ·
  refine T.block ?_
  refine T.iter (fun s1 a w' => ∃ (x1 : Int) (x2 : Int), s1 = (x1, x2) ∧ Fr 19 [(0, .string p0), (3, .int .i64 x1), (6, .int .i64 (p0.size : Int)), (7, .int .i64 x2)] a ∧ Hp w (vw w) [] w') hz1 ?_ ?_
  ·
   exact fun a w' hf hh => Exists.intro 0 (Exists.intro 0 (And.intro rfl (And.intro (((((Fr.nil hf).pick hf 7 rfl).pick hf 6 rfl).pick hf 3 rfl).pick hf 0 rfl) (hh.sub List.Sublist.slnil))))
  ·
   rintro s1 y1 hY1 hr1 a w' ⟨x1, x2, rfl, hf, hh⟩
   refine (?_ : T 19 w (vw w) [] [(0, .string p0), (3, .int .i64 x1), (6, .int .i64 (p0.size : Int)), (7, .int .i64 x2)] _) a w' hf hh
   clear hf hh
   try dsimp only at hY1
   refine T.seq ?_
   refine T.region ?_
   refine T.pure (.bool (decide (x2 < (p0.size : Int)))) (by kernel_rfl) (fun _ => by kernel_rfl) ?_
   refine T.nil ?_
   refine T.seq ?_
   refine T.cond (decide (x2 < (p0.size : Int))) (by kernel_rfl) (by kernel_rfl) (fun hc1 => ?_) (fun hc1 => ?_)
   ·
    rw [hc1, cond_true] at hY1
    refine T.skip_code ?_
    refine T.seq ?_
    refine T.block ?_
    refine T.seq ?_
    refine T.region ?_
    refine T.pure (.int .i64 x2) (by kernel_rfl) (fun _ => by kernel_rfl) ?_
    refine T.pure (.int .i64 x2) (by kernel_rfl) (fun _ => by kernel_rfl) ?_
    refine T.nil ?_
    refine T.region ?_
    refine T.pure (.int .i64 x1) (by kernel_rfl) (fun _ => by kernel_rfl) ?_
    refine T.pure (.int .i64 (shl .i64 x1 8)) (by kernel_rfl) (fun _ => by kernel_rfl) ?_
    refine T.pure (.string p0) (by kernel_rfl) (fun _ => by kernel_rfl) ?_
    refine T.pure (.int .i64 x2) (by kernel_rfl) (fun _ => by kernel_rfl) ?_
    obtain ⟨b1, hb1, hY1⟩ := Option.bind_eq_some_iff.1 hY1
    refine T.look (.int .u8 (b1.toNat : Int)) (by kernel_rfl) (fun w' hh => exec_index_str rfl rfl rfl (by kernel_rfl) hb1) ?_
    refine T.pure (.int .i64 (IntKind.i64.wrap (b1.toNat : Int))) (by kernel_rfl) (fun _ => by kernel_rfl) ?_
    refine T.pure (.int .i64 (bor .i64 (shl .i64 x1 8) (IntKind.i64.wrap (b1.toNat : Int)))) (by kernel_rfl) (fun _ => by kernel_rfl) ?_
    refine T.pure (.int .i64 (bor .i64 (shl .i64 x1 8) (IntKind.i64.wrap (b1.toNat : Int)))) (by kernel_rfl) (fun _ => by kernel_rfl) ?_
    refine T.nil ?_
    refine T.region ?_
    refine T.pure (.int .i64 (IntKind.i64.wrap (x2 + 1))) (by kernel_rfl) (fun _ => by kernel_rfl) ?_
    refine T.pure (.int .i64 (IntKind.i64.wrap (x2 + 1))) (by kernel_rfl) (fun _ => by kernel_rfl) ?_
    refine T.nil ?_
    cases hY1
    exact fun a w' hf hh => Exists.intro (bor .i64 (shl .i64 x1 8) (IntKind.i64.wrap (b1.toNat : Int)), IntKind.i64.wrap (x2 + 1)) (And.intro rfl (Exists.intro (bor .i64 (shl .i64 x1 8) (IntKind.i64.wrap (b1.toNat : Int))) (Exists.intro (IntKind.i64.wrap (x2 + 1)) (And.intro rfl (And.intro (((((Fr.nil hf).pick hf 7 rfl).pick hf 6 rfl).pick hf 3 rfl).pick hf 0 rfl) (hh.sub List.Sublist.slnil))))))
   ·
    rw [hc1, cond_false] at hY1
    refine T.exit ?_
    cases hY1
    cases (hr1 _ rfl)
    exact fun a w' hf hh => And.intro ((Fr.nil hf).pick hf 3 rfl) (hh.sub List.Sublist.slnil)
 ·
  rintro a w' ⟨hf, hh⟩
  refine (?_ : T 19 w (vw w) [] [(3, .int .i64 z1)] _) a w' hf hh
  clear hf hh
  refine T.seq ?_
  refine T.region ?_
  refine T.pure (.int .i64 z1) (by kernel_rfl) (fun _ => by kernel_rfl) ?_
  refine T.pure (.int .i64 z1) (by kernel_rfl) (fun _ => by kernel_rfl) ?_
  refine T.nil ?_
  cases hF
  refine T.ret rfl ?_
  exact T.ret1 rfl (ResIs.tmp rfl) fun w' hh => ⟨_, rfl, hh.below, (show _ from rfl)⟩
set_option maxRecDepth 100000 in
set_option maxHeartbeats 4000000 in
theorem code_Get_l (F : Nat) (p0 : ByteArray) (r : DElem × Int × Int) (hF : code_Get F p0 = some r) (w : World)  :
 Calls Try.prog 50 #[.string p0] w (Post (vT3 (vAg eElem) (vSc eInt) (vSc eInt)) r w) := by
 unfold code_Get at hF
 refine T.start (l := [.string p0]) Try.func50 rfl rfl rfl ?_
 refine T.seq ?_
 refine T.region ?_
 refine T.step (W1.new 9 [.string p0] (fun b => .pointer (some ⟨b, 0, none⟩)) (by kernel_rfl) (fun _ => by kernel_rfl) (fun b1 => ?_))
 refine T.step (W1.new 30 [.int .i64 0, .int .i64 0, .int .i64 0, .int .i64 0, .int .i64 0, .string (ByteArray.mk #[])] (fun b => .pointer (some ⟨b, 0, none⟩)) (by kernel_rfl) (fun _ => by kernel_rfl) (fun b2 => ?_))
 refine T.pure (.int .i64 0) (by kernel_rfl) (fun _ => by kernel_rfl) ?_
 refine T.pure (.int .i64 0) (by kernel_rfl) (fun _ => by kernel_rfl) ?_
 refine T.nil ?_
 refine T.seq ?_
 obtain ⟨z1, hX1, hF⟩ := Option.bind_eq_some_iff.1 hF
 refine T.cut (fun a w' => Fr 48 [(1, .pointer (some ⟨b1, 0, none⟩)), (2, .pointer (some ⟨b2, 0, none⟩)), (19, .bool z1)] a ∧ Hp w (vw w) [box b2 30 [.int .i64 0, .int .i64 0, .int .i64 0, .int .i64 0, .int .i64 0, .string (ByteArray.mk #[])], box b1 9 [.string p0]] w') ?_ ?_
 ·
  refine T.quiet (by kernel_rfl) (by kernel_rfl) ?_
  refine TQ.look (.string p0) (by kernel_rfl) (fun w' hh => exec_load1 rfl rfl (by kernel_rfl) (hh.cellBox (i := 1) (by rfl) 0)) ?_
  refine TQ.pure (.int .i64 (p0.size : Int)) (by kernel_rfl) (fun _ => by kernel_rfl) ?_
  refine TQ.pure (.bool (decide ((p0.size : Int) < 18))) (by kernel_rfl) (fun _ => by kernel_rfl) ?_
  refine TQ.pure (.bool (decide ((p0.size : Int) < 18))) (by kernel_rfl) (fun _ => by kernel_rfl) ?_
  cases hg1 : decide ((p0.size : Int) < 18)
  ·
   skip
   rw [hg1, cond_false] at hX1
   refine TQ.look (.string p0) (by kernel_rfl) (fun w' hh => exec_load1 rfl rfl (by kernel_rfl) (hh.cellBox (i := 1) (by rfl) 0)) ?_
   refine TQ.pure (.int .i64 (p0.size : Int)) (by kernel_rfl) (fun _ => by kernel_rfl) ?_
   refine TQ.look (.string p0) (by kernel_rfl) (fun w' hh => exec_load1 rfl rfl (by kernel_rfl) (hh.cellBox (i := 1) (by rfl) 0)) ?_
   obtain ⟨b3, hb1, hX1⟩ := Option.bind_eq_some_iff.1 hX1
   refine TQ.look (.int .u8 (b3.toNat : Int)) (by kernel_rfl) (fun w' hh => exec_index_str rfl rfl rfl (by kernel_rfl) hb1) ?_
   refine TQ.pure (.int .i64 (IntKind.i64.wrap (b3.toNat : Int))) (by kernel_rfl) (fun _ => by kernel_rfl) ?_
   refine TQ.pure (.int .i64 (IntKind.i64.wrap (18 + (IntKind.i64.wrap (b3.toNat : Int))))) (by kernel_rfl) (fun _ => by kernel_rfl) ?_
   refine TQ.pure (.bool (decide ((p0.size : Int) < (IntKind.i64.wrap (18 + (IntKind.i64.wrap (b3.toNat : Int))))))) (by kernel_rfl) (fun _ => by kernel_rfl) ?_
   refine TQ.pure (.bool (decide ((p0.size : Int) < (IntKind.i64.wrap (18 + (IntKind.i64.wrap (b3.toNat : Int))))))) (by kernel_rfl) (fun _ => by kernel_rfl) ?_
   refine TQ.nil ?_
   cases hX1
   exact fun a w' hf hh => And.intro ((((Fr.nil hf).pick hf 19 rfl).pick hf 2 rfl).pick hf 1 rfl) (hh.sub (.cons_cons _ (.cons_cons _ List.Sublist.slnil)))
  ·
   skip
   rw [hg1, cond_true] at hX1
   refine TQ.pass (by kernel_rfl) (by kernel_rfl) ?_
   refine TQ.pass (by kernel_rfl) (by kernel_rfl) ?_
   refine TQ.pass (by kernel_rfl) (by kernel_rfl) ?_
   refine TQ.pass (by kernel_rfl) (by kernel_rfl) ?_
   refine TQ.pass (by kernel_rfl) (by kernel_rfl) ?_
   refine TQ.pass (by kernel_rfl) (by kernel_rfl) ?_
   refine TQ.pass (by kernel_rfl) (by kernel_rfl) ?_
   refine TQ.pure (.bool true) (by kernel_rfl) (fun _ => by kernel_rfl) ?_
   refine TQ.nil ?_
   cases hX1
   exact fun a w' hf hh => And.intro ((((Fr.nil hf).pick hf 19 rfl).pick hf 2 rfl).pick hf 1 rfl) (hh.sub (.cons_cons _ (.cons_cons _ List.Sublist.slnil)))
 ·
  rintro a w' ⟨hf, hh⟩
  refine (?_ : T 48 w (vw w) [box b2 30 [.int .i64 0, .int .i64 0, .int .i64 0, .int .i64 0, .int .i64 0, .string (ByteArray.mk #[])], box b1 9 [.string p0]] [(1, .pointer (some ⟨b1, 0, none⟩)), (2, .pointer (some ⟨b2, 0, none⟩)), (19, .bool z1)] _) a w' hf hh
  clear hf hh
  refine T.cond z1 (by kernel_rfl) (by kernel_rfl) (fun hc1 => ?_) (fun hc1 => ?_)
  ·
   rw [hc1, cond_true] at hF
   refine T.seq ?_
   refine T.region ?_
   refine T.pure (.agg #[.int .i64 0, .int .i64 0, .int .i64 0, .int .i64 0, .int .i64 0, .string (ByteArray.mk #[])]) (by kernel_rfl) (fun _ => by kernel_rfl) ?_
   refine T.step (W1.store 0 [.int .i64 0, .int .i64 0, .int .i64 0, .int .i64 0, .int .i64 0, .string (ByteArray.mk #[])] [box b2 30 [.int .i64 0, .int .i64 0, .int .i64 0, .int .i64 0, .int .i64 0, .string (ByteArray.mk #[])], box b1 9 [.string p0]] (by rfl) rfl (by kernel_rfl) (fun w' hw => exec_store (vs := [.int .i64 0, .int .i64 0, .int .i64 0, .int .i64 0, .int .i64 0, .string (ByteArray.mk #[])]) rfl rfl rfl rfl (by kernel_rfl) (one_of rfl) (by simp) rfl hw) ?_)
   refine T.pure (.int .i64 0) (by kernel_rfl) (fun _ => by kernel_rfl) ?_
   refine T.pure (.int .i64 7) (by kernel_rfl) (fun _ => by kernel_rfl) ?_
   refine T.nil ?_
   cases hF
   refine T.ret rfl ?_
   exact T.ret3 rfl (ResIs.cellN 0 rfl (by rfl) (fun _ => by kernel_rfl) (fun _ => by kernel_rfl)) (ResIs.tmp rfl) (ResIs.tmp rfl) fun w' hh => ⟨_, rfl, hh.below, (vT3.mk (vAg.mk rfl) (show _ from rfl) (show _ from rfl))⟩
  ·
   rw [hc1, cond_false] at hF
   refine T.skip_code ?_
   refine T.seq ?_
   refine T.region ?_
   refine T.pure (.func (.func 54) #[] #[.pointer (some ⟨b1, 0, none⟩)]) (by kernel_rfl) (fun _ => by kernel_rfl) ?_
   refine T.pure (.func (.func 54) #[] #[.pointer (some ⟨b1, 0, none⟩)]) (by kernel_rfl) (fun _ => by kernel_rfl) ?_
   refine T.nil ?_
   refine T.seq ?_
   refine T.region ?_
   refine T.look (.string p0) (by kernel_rfl) (fun w' hh => exec_load1 rfl rfl (by kernel_rfl) (hh.cellBox (i := 1) (by rfl) 0)) ?_
   obtain ⟨b4, hb2, hF⟩ := Option.bind_eq_some_iff.1 hF
   refine T.look (.int .u8 (b4.toNat : Int)) (by kernel_rfl) (fun w' hh => exec_index_str rfl rfl rfl (by kernel_rfl) hb2) ?_
   refine T.pure (.int .i64 (IntKind.i64.wrap (b4.toNat : Int))) (by kernel_rfl) (fun _ => by kernel_rfl) ?_
   refine T.pure (.int .i64 (IntKind.i64.wrap (18 + (IntKind.i64.wrap (b4.toNat : Int))))) (by kernel_rfl) (fun _ => by kernel_rfl) ?_
   refine T.pure (.int .i64 (IntKind.i64.wrap (18 + (IntKind.i64.wrap (b4.toNat : Int))))) (by kernel_rfl) (fun _ => by kernel_rfl) ?_
   refine T.nil ?_
   refine T.seq ?_
   obtain ⟨b5, hb3, hF⟩ := Option.bind_eq_some_iff.1 hF
   obtain ⟨s1, hb4, hF⟩ := Option.bind_eq_some_iff.1 hF
   obtain ⟨z2, hX2, hF⟩ := Option.bind_eq_some_iff.1 hF
   obtain ⟨z3, hX3, hF⟩ := Option.bind_eq_some_iff.1 hF
   obtain ⟨z4, hX4, hF⟩ := Option.bind_eq_some_iff.1 hF
   obtain ⟨z5, hX5, hF⟩ := Option.bind_eq_some_iff.1 hF
   refine T.mid (fun a w' => ∃ (b6 : Nat) (V9 : View), View.le (vw w) V9 ∧ Fr 48 [(2, .pointer (some ⟨b2, 0, none⟩)), (6, .int .i64 (IntKind.i64.wrap (18 + (IntKind.i64.wrap (b4.toNat : Int))))), (7, .pointer (some ⟨b6, 0, none⟩))] a ∧ Hp w V9 [box b6 30 [.int .i64 (IntKind.i64.wrap (b5.toNat : Int)), .int .i64 z2, .int .i64 z3, .int .i64 z4, .int .i64 z5, .string s1], box b2 30 [.int .i64 0, .int .i64 0, .int .i64 0, .int .i64 0, .int .i64 0, .string (ByteArray.mk #[])]] w') ?_ ?_
   ·
    refine T.held [box b2 30 [.int .i64 0, .int .i64 0, .int .i64 0, .int .i64 0, .int .i64 0, .string (ByteArray.mk #[])], box b1 9 [.string p0]] (by kernel_rfl) ?_
    refine TA.take 0 (.string p0) rfl (by kernel_rfl) (by kernel_rfl) (by kernel_rfl) (fun _ _ _ h => h) (Hp.old (View.le_refl _) (View.le_refl _) (.cons_cons _ (.cons_cons _ List.Sublist.slnil)) (OldAll.box (OldAll.box OldAll.nil))) (by kernel_rfl) (fun w' hh => exec_load1 rfl rfl (by kernel_rfl) (hh.cellBox (i := 1) (by rfl) 0)) ?_
    refine TA.take 1 (.int .u8 (b5.toNat : Int)) rfl (by kernel_rfl) (by kernel_rfl) (by kernel_rfl) (fun _ _ _ h => h) (Hp.old (View.le_refl _) (View.le_refl _) (.cons_cons _ (.cons_cons _ List.Sublist.slnil)) (OldAll.box (OldAll.box OldAll.nil))) (by kernel_rfl) (fun w' hh => exec_index_str rfl rfl rfl (by kernel_rfl) hb3) ?_
    refine TA.take 2 (.int .i64 (IntKind.i64.wrap (b5.toNat : Int))) rfl (by kernel_rfl) (by kernel_rfl) (by kernel_rfl) (fun _ _ _ h => h) (Hp.old (View.le_refl _) (View.le_refl _) (.cons_cons _ (.cons_cons _ List.Sublist.slnil)) (OldAll.box (OldAll.box OldAll.nil))) (by kernel_rfl) (fun _ _ => by kernel_rfl) ?_
    refine TA.take 3 (.func (.func 54) #[] #[.pointer (some ⟨b1, 0, none⟩)]) rfl (by kernel_rfl) (by kernel_rfl) (by kernel_rfl) (fun _ _ _ h => h) (Hp.old (View.le_refl _) (View.le_refl _) (.cons_cons _ (.cons_cons _ List.Sublist.slnil)) (OldAll.box (OldAll.box OldAll.nil))) (by kernel_rfl) (fun _ _ => by kernel_rfl) ?_
    refine TA.take 5 (.func (.func 54) #[] #[.pointer (some ⟨b1, 0, none⟩)]) rfl (by kernel_rfl) (by kernel_rfl) (by kernel_rfl) (fun _ _ _ h => h) (Hp.old (View.le_refl _) (View.le_refl _) (.cons_cons _ (.cons_cons _ List.Sublist.slnil)) (OldAll.box (OldAll.box OldAll.nil))) (by kernel_rfl) (fun _ _ => by kernel_rfl) ?_
    refine TA.take 8 (.func (.func 54) #[] #[.pointer (some ⟨b1, 0, none⟩)]) rfl (by kernel_rfl) (by kernel_rfl) (by kernel_rfl) (fun _ _ _ h => h) (Hp.old (View.le_refl _) (View.le_refl _) (.cons_cons _ (.cons_cons _ List.Sublist.slnil)) (OldAll.box (OldAll.box OldAll.nil))) (by kernel_rfl) (fun _ _ => by kernel_rfl) ?_
    refine TA.take 10 (.func (.func 54) #[] #[.pointer (some ⟨b1, 0, none⟩)]) rfl (by kernel_rfl) (by kernel_rfl) (by kernel_rfl) (fun _ _ _ h => h) (Hp.old (View.le_refl _) (View.le_refl _) (.cons_cons _ (.cons_cons _ List.Sublist.slnil)) (OldAll.box (OldAll.box OldAll.nil))) (by kernel_rfl) (fun _ _ => by kernel_rfl) ?_
    refine TA.take 12 (.string p0) rfl (by kernel_rfl) (by kernel_rfl) (by kernel_rfl) (fun _ _ _ h => h) (Hp.old (View.le_refl _) (View.le_refl _) (.cons_cons _ (.cons_cons _ List.Sublist.slnil)) (OldAll.box (OldAll.box OldAll.nil))) (by kernel_rfl) (fun w' hh => exec_load1 rfl rfl (by kernel_rfl) (hh.cellBox (i := 1) (by rfl) 0)) ?_
    refine TA.take 13 (.int .i64 (IntKind.i64.wrap (18 + (IntKind.i64.wrap (b4.toNat : Int))))) rfl (by kernel_rfl) (by kernel_rfl) (by kernel_rfl) (fun _ _ _ h => h) (Hp.old (View.le_refl _) (View.le_refl _) (.cons_cons _ (.cons_cons _ List.Sublist.slnil)) (OldAll.box (OldAll.box OldAll.nil))) (by kernel_rfl) (fun _ _ => by kernel_rfl) ?_
    refine TA.take 14 (.string s1) rfl (by kernel_rfl) (by kernel_rfl) (by kernel_rfl) (fun _ _ _ h => h) (Hp.old (View.le_refl _) (View.le_refl _) (.cons_cons _ (.cons_cons _ List.Sublist.slnil)) (OldAll.box (OldAll.box OldAll.nil))) (by kernel_rfl) (fun w' hh => exec_slice_str rfl rfl rfl rfl (by kernel_rfl) hb4) ?_
    refine TA.all [4, 16] (by kernel_rfl) rfl ⟨?_, ?_, trivial⟩
    ·
     refine TA.br rfl (W1.within 54 [.int .i64 1, .pointer (some ⟨b1, 0, none⟩)] (fun v w' => ∃ (V1 : View), View.le (vw w) V1 ∧ v = .int .i64 z2 ∧ Hp w V1 [box b2 30 [.int .i64 0, .int .i64 0, .int .i64 0, .int .i64 0, .int .i64 0, .string (ByteArray.mk #[])], box b1 9 [.string p0]] w') Try.func54 rfl rfl (by kernel_rfl) (fun _ => by kernel_rfl) rfl ?_ ?_)
     ·
      refine T.seq ?_
      refine T.region ?_
      refine T.pure (.int .i64 0) (by kernel_rfl) (fun _ => by kernel_rfl) ?_
      refine T.nil ?_
      refine T.seq ?_
      refine T.region ?_
      refine T.look (.string p0) (by kernel_rfl) (fun w' hh => exec_load1 rfl rfl (by kernel_rfl) (hh.cellBox (i := 1) (by rfl) 0)) ?_
      refine T.pure (.int .i64 1) (by kernel_rfl) (fun _ => by kernel_rfl) ?_
      refine T.pure (.int .i64 1) (by kernel_rfl) (fun _ => by kernel_rfl) ?_
      refine T.pure (.int .i64 5) (by kernel_rfl) (fun _ => by kernel_rfl) ?_
      obtain ⟨s2, hb5, hX2⟩ := Option.bind_eq_some_iff.1 hX2
      refine T.look (.string s2) (by kernel_rfl) (fun w' hh => exec_slice_str rfl rfl rfl rfl (by kernel_rfl) hb5) ?_
      obtain ⟨r1, hb6, hX2⟩ := Option.bind_eq_some_iff.1 hX2
      refine T.step (W1.call (vSc eInt) r1 47 #[.string s2] (by kernel_rfl) (fun _ => by kernel_rfl) (fun w' hh => big_Get_l F s2 r1 hb6 w' ) ?_)
      intro u V2 hV2 hu
      obtain rfl := sureInt _ _ _ hu
      refine T.pure (.int .i64 r1) (by kernel_rfl) (fun _ => by kernel_rfl) ?_
      refine T.nil ?_
      cases hX2
      refine T.ret rfl ?_
      exact T.ret1 rfl (ResIs.tmp rfl) fun w' hh => ⟨_, rfl, Exists.intro V2 (And.intro hV2 (And.intro rfl (hh.sub (.cons_cons _ (.cons_cons _ List.Sublist.slnil)))))⟩
     ·
      rintro v w' ⟨V1, hV1, rfl, hh⟩
      refine ⟨V1, [box b2 30 [.int .i64 0, .int .i64 0, .int .i64 0, .int .i64 0, .int .i64 0, .string (ByteArray.mk #[])], box b1 9 [.string p0]], hh, ?_⟩
      clear hh
      refine TA.on (Hp.old hV1 (View.le_refl _) (.cons_cons _ (.cons_cons _ List.Sublist.slnil)) (OldAll.box (OldAll.box OldAll.nil))) ?_
      refine TA.all [6, 16] (by kernel_rfl) rfl ⟨?_, ?_, trivial⟩
      ·
       refine TA.br rfl (W1.within 54 [.int .i64 5, .pointer (some ⟨b1, 0, none⟩)] (fun v w' => ∃ (V3 : View), View.le V1 V3 ∧ v = .int .i64 z3 ∧ Hp w V3 [box b2 30 [.int .i64 0, .int .i64 0, .int .i64 0, .int .i64 0, .int .i64 0, .string (ByteArray.mk #[])], box b1 9 [.string p0]] w') Try.func54 rfl rfl (by kernel_rfl) (fun _ => by kernel_rfl) rfl ?_ ?_)
       ·
        refine T.seq ?_
        refine T.region ?_
        refine T.pure (.int .i64 0) (by kernel_rfl) (fun _ => by kernel_rfl) ?_
        refine T.nil ?_
        refine T.seq ?_
        refine T.region ?_
        refine T.look (.string p0) (by kernel_rfl) (fun w' hh => exec_load1 rfl rfl (by kernel_rfl) (hh.cellBox (i := 1) (by rfl) 0)) ?_
        refine T.pure (.int .i64 5) (by kernel_rfl) (fun _ => by kernel_rfl) ?_
        refine T.pure (.int .i64 5) (by kernel_rfl) (fun _ => by kernel_rfl) ?_
        refine T.pure (.int .i64 9) (by kernel_rfl) (fun _ => by kernel_rfl) ?_
        obtain ⟨s3, hb7, hX3⟩ := Option.bind_eq_some_iff.1 hX3
        refine T.look (.string s3) (by kernel_rfl) (fun w' hh => exec_slice_str rfl rfl rfl rfl (by kernel_rfl) hb7) ?_
        obtain ⟨r2, hb8, hX3⟩ := Option.bind_eq_some_iff.1 hX3
        refine T.step (W1.call (vSc eInt) r2 47 #[.string s3] (by kernel_rfl) (fun _ => by kernel_rfl) (fun w' hh => big_Get_l F s3 r2 hb8 w' ) ?_)
        intro u V4 hV4 hu
        obtain rfl := sureInt _ _ _ hu
        refine T.pure (.int .i64 r2) (by kernel_rfl) (fun _ => by kernel_rfl) ?_
        refine T.nil ?_
        cases hX3
        refine T.ret rfl ?_
        exact T.ret1 rfl (ResIs.tmp rfl) fun w' hh => ⟨_, rfl, Exists.intro V4 (And.intro hV4 (And.intro rfl (hh.sub (.cons_cons _ (.cons_cons _ List.Sublist.slnil)))))⟩
       ·
        rintro v w' ⟨V3, hV3, rfl, hh⟩
        refine ⟨V3, [box b2 30 [.int .i64 0, .int .i64 0, .int .i64 0, .int .i64 0, .int .i64 0, .string (ByteArray.mk #[])], box b1 9 [.string p0]], hh, ?_⟩
        clear hh
        refine TA.on (Hp.old (View.le_trans hV1 hV3) (View.le_refl _) (.cons_cons _ (.cons_cons _ List.Sublist.slnil)) (OldAll.box (OldAll.box OldAll.nil))) ?_
        refine TA.take 7 (.agg #[.int .i64 (IntKind.i64.wrap (b5.toNat : Int)), .int .i64 z2, .int .i64 z3]) rfl (by kernel_rfl) (by kernel_rfl) (by kernel_rfl) (fun _ _ _ h => h) (Hp.old (View.le_trans hV1 hV3) (View.le_refl _) (.cons_cons _ (.cons_cons _ List.Sublist.slnil)) (OldAll.box (OldAll.box OldAll.nil))) (by kernel_rfl) (fun _ _ => by kernel_rfl) ?_
        refine TA.all [9, 16] (by kernel_rfl) rfl ⟨?_, ?_, trivial⟩
        ·
         refine TA.br rfl (W1.within 54 [.int .i64 9, .pointer (some ⟨b1, 0, none⟩)] (fun v w' => ∃ (V5 : View), View.le V3 V5 ∧ v = .int .i64 z4 ∧ Hp w V5 [box b2 30 [.int .i64 0, .int .i64 0, .int .i64 0, .int .i64 0, .int .i64 0, .string (ByteArray.mk #[])], box b1 9 [.string p0]] w') Try.func54 rfl rfl (by kernel_rfl) (fun _ => by kernel_rfl) rfl ?_ ?_)
         ·
          refine T.seq ?_
          refine T.region ?_
          refine T.pure (.int .i64 0) (by kernel_rfl) (fun _ => by kernel_rfl) ?_
          refine T.nil ?_
          refine T.seq ?_
          refine T.region ?_
          refine T.look (.string p0) (by kernel_rfl) (fun w' hh => exec_load1 rfl rfl (by kernel_rfl) (hh.cellBox (i := 1) (by rfl) 0)) ?_
          refine T.pure (.int .i64 9) (by kernel_rfl) (fun _ => by kernel_rfl) ?_
          refine T.pure (.int .i64 9) (by kernel_rfl) (fun _ => by kernel_rfl) ?_
          refine T.pure (.int .i64 13) (by kernel_rfl) (fun _ => by kernel_rfl) ?_
          obtain ⟨s4, hb9, hX4⟩ := Option.bind_eq_some_iff.1 hX4
          refine T.look (.string s4) (by kernel_rfl) (fun w' hh => exec_slice_str rfl rfl rfl rfl (by kernel_rfl) hb9) ?_
          obtain ⟨r3, hb10, hX4⟩ := Option.bind_eq_some_iff.1 hX4
          refine T.step (W1.call (vSc eInt) r3 47 #[.string s4] (by kernel_rfl) (fun _ => by kernel_rfl) (fun w' hh => big_Get_l F s4 r3 hb10 w' ) ?_)
          intro u V6 hV6 hu
          obtain rfl := sureInt _ _ _ hu
          refine T.pure (.int .i64 r3) (by kernel_rfl) (fun _ => by kernel_rfl) ?_
          refine T.nil ?_
          cases hX4
          refine T.ret rfl ?_
          exact T.ret1 rfl (ResIs.tmp rfl) fun w' hh => ⟨_, rfl, Exists.intro V6 (And.intro hV6 (And.intro rfl (hh.sub (.cons_cons _ (.cons_cons _ List.Sublist.slnil)))))⟩
         ·
          rintro v w' ⟨V5, hV5, rfl, hh⟩
          refine ⟨V5, [box b2 30 [.int .i64 0, .int .i64 0, .int .i64 0, .int .i64 0, .int .i64 0, .string (ByteArray.mk #[])], box b1 9 [.string p0]], hh, ?_⟩
          clear hh
          refine TA.on (Hp.old (View.le_trans (View.le_trans hV1 hV3) hV5) (View.le_refl _) (.cons_cons _ (.cons_cons _ List.Sublist.slnil)) (OldAll.box (OldAll.box OldAll.nil))) ?_
          refine TA.all [11, 16] (by kernel_rfl) rfl ⟨?_, ?_, trivial⟩
          ·
           refine TA.br rfl (W1.within 54 [.int .i64 13, .pointer (some ⟨b1, 0, none⟩)] (fun v w' => ∃ (V7 : View), View.le V5 V7 ∧ v = .int .i64 z5 ∧ Hp w V7 [box b2 30 [.int .i64 0, .int .i64 0, .int .i64 0, .int .i64 0, .int .i64 0, .string (ByteArray.mk #[])], box b1 9 [.string p0]] w') Try.func54 rfl rfl (by kernel_rfl) (fun _ => by kernel_rfl) rfl ?_ ?_)
           ·
            refine T.seq ?_
            refine T.region ?_
            refine T.pure (.int .i64 0) (by kernel_rfl) (fun _ => by kernel_rfl) ?_
            refine T.nil ?_
            refine T.seq ?_
            refine T.region ?_
            refine T.look (.string p0) (by kernel_rfl) (fun w' hh => exec_load1 rfl rfl (by kernel_rfl) (hh.cellBox (i := 1) (by rfl) 0)) ?_
            refine T.pure (.int .i64 13) (by kernel_rfl) (fun _ => by kernel_rfl) ?_
            refine T.pure (.int .i64 13) (by kernel_rfl) (fun _ => by kernel_rfl) ?_
            refine T.pure (.int .i64 17) (by kernel_rfl) (fun _ => by kernel_rfl) ?_
            obtain ⟨s5, hb11, hX5⟩ := Option.bind_eq_some_iff.1 hX5
            refine T.look (.string s5) (by kernel_rfl) (fun w' hh => exec_slice_str rfl rfl rfl rfl (by kernel_rfl) hb11) ?_
            obtain ⟨r4, hb12, hX5⟩ := Option.bind_eq_some_iff.1 hX5
            refine T.step (W1.call (vSc eInt) r4 47 #[.string s5] (by kernel_rfl) (fun _ => by kernel_rfl) (fun w' hh => big_Get_l F s5 r4 hb12 w' ) ?_)
            intro u V8 hV8 hu
            obtain rfl := sureInt _ _ _ hu
            refine T.pure (.int .i64 r4) (by kernel_rfl) (fun _ => by kernel_rfl) ?_
            refine T.nil ?_
            cases hX5
            refine T.ret rfl ?_
            exact T.ret1 rfl (ResIs.tmp rfl) fun w' hh => ⟨_, rfl, Exists.intro V8 (And.intro hV8 (And.intro rfl (hh.sub (.cons_cons _ (.cons_cons _ List.Sublist.slnil)))))⟩
           ·
            rintro v w' ⟨V7, hV7, rfl, hh⟩
            refine ⟨V7, [box b2 30 [.int .i64 0, .int .i64 0, .int .i64 0, .int .i64 0, .int .i64 0, .string (ByteArray.mk #[])], box b1 9 [.string p0]], hh, ?_⟩
            clear hh
            refine TA.on (Hp.old (View.le_trans (View.le_trans (View.le_trans hV1 hV3) hV5) hV7) (View.le_refl _) (.cons_cons _ (.cons_cons _ List.Sublist.slnil)) (OldAll.box (OldAll.box OldAll.nil))) ?_
            refine TA.take 15 (.agg #[.int .i64 (IntKind.i64.wrap (b5.toNat : Int)), .int .i64 z2, .int .i64 z3, .int .i64 z4, .int .i64 z5, .string s1]) rfl (by kernel_rfl) (by kernel_rfl) (by kernel_rfl) (fun _ _ _ h => h) (Hp.old (View.le_trans (View.le_trans (View.le_trans hV1 hV3) hV5) hV7) (View.le_refl _) (.cons_cons _ (.cons_cons _ List.Sublist.slnil)) (OldAll.box (OldAll.box OldAll.nil))) (by kernel_rfl) (fun _ _ => by kernel_rfl) ?_
            refine TA.all [16] (by kernel_rfl) rfl ⟨?_, trivial⟩
            refine TA.br rfl (W1.new 30 [.int .i64 0, .int .i64 0, .int .i64 0, .int .i64 0, .int .i64 0, .string (ByteArray.mk #[])] (fun b => .pointer (some ⟨b, 0, none⟩)) (by kernel_rfl) (fun _ => by kernel_rfl) (fun b6 => ?_))
            refine TA.on (Hp.old (View.le_trans (View.le_trans (View.le_trans hV1 hV3) hV5) hV7) (View.le_refl _) (.cons _ (.cons_cons _ (.cons_cons _ List.Sublist.slnil))) (OldAll.box (OldAll.box OldAll.nil))) ?_
            refine TA.all [17] (by kernel_rfl) rfl ⟨?_, trivial⟩
            refine TA.br rfl (W1.store 0 [.int .i64 (IntKind.i64.wrap (b5.toNat : Int)), .int .i64 z2, .int .i64 z3, .int .i64 z4, .int .i64 z5, .string s1] [box b6 30 [.int .i64 (IntKind.i64.wrap (b5.toNat : Int)), .int .i64 z2, .int .i64 z3, .int .i64 z4, .int .i64 z5, .string s1], box b2 30 [.int .i64 0, .int .i64 0, .int .i64 0, .int .i64 0, .int .i64 0, .string (ByteArray.mk #[])], box b1 9 [.string p0]] (by rfl) rfl (by kernel_rfl) (fun w' hw => exec_store (vs := [.int .i64 (IntKind.i64.wrap (b5.toNat : Int)), .int .i64 z2, .int .i64 z3, .int .i64 z4, .int .i64 z5, .string s1]) rfl rfl rfl rfl (by kernel_rfl) (one_of rfl) (by simp) rfl hw) ?_)
            refine TA.on (Hp.old (View.le_trans (View.le_trans (View.le_trans hV1 hV3) hV5) hV7) (View.le_refl _) (.cons _ (.cons_cons _ (.cons_cons _ List.Sublist.slnil))) (OldAll.box (OldAll.box OldAll.nil))) ?_
            refine TA.done (by kernel_rfl) ?_
            exact fun a w' hf hh => Exists.intro b6 (Exists.intro V7 (And.intro (View.le_trans (View.le_trans (View.le_trans hV1 hV3) hV5) hV7) (And.intro ((((Fr.nil hf).pick hf 7 rfl).pick hf 6 rfl).pick hf 2 rfl) (hh.sub (.cons_cons _ (.cons_cons _ (.cons _ List.Sublist.slnil)))))))
          ·
           refine TA.br rfl (W1.new 30 [.int .i64 0, .int .i64 0, .int .i64 0, .int .i64 0, .int .i64 0, .string (ByteArray.mk #[])] (fun b => .pointer (some ⟨b, 0, none⟩)) (by kernel_rfl) (fun _ => by kernel_rfl) (fun b6 => ?_))
           refine TA.on (Hp.old (View.le_trans (View.le_trans hV1 hV3) hV5) (View.le_refl _) (.cons _ (.cons_cons _ (.cons_cons _ List.Sublist.slnil))) (OldAll.box (OldAll.box OldAll.nil))) ?_
           refine TA.all [11] (by kernel_rfl) rfl ⟨?_, trivial⟩
           refine TA.br rfl (W1.within 54 [.int .i64 13, .pointer (some ⟨b1, 0, none⟩)] (fun v w' => ∃ (V7 : View), View.le V5 V7 ∧ v = .int .i64 z5 ∧ Hp w V7 [box b6 30 [.int .i64 0, .int .i64 0, .int .i64 0, .int .i64 0, .int .i64 0, .string (ByteArray.mk #[])], box b2 30 [.int .i64 0, .int .i64 0, .int .i64 0, .int .i64 0, .int .i64 0, .string (ByteArray.mk #[])], box b1 9 [.string p0]] w') Try.func54 rfl rfl (by kernel_rfl) (fun _ => by kernel_rfl) rfl ?_ ?_)
           ·
            refine T.seq ?_
            refine T.region ?_
            refine T.pure (.int .i64 0) (by kernel_rfl) (fun _ => by kernel_rfl) ?_
            refine T.nil ?_
            refine T.seq ?_
            refine T.region ?_
            refine T.look (.string p0) (by kernel_rfl) (fun w' hh => exec_load1 rfl rfl (by kernel_rfl) (hh.cellBox (i := 2) (by rfl) 0)) ?_
            refine T.pure (.int .i64 13) (by kernel_rfl) (fun _ => by kernel_rfl) ?_
            refine T.pure (.int .i64 13) (by kernel_rfl) (fun _ => by kernel_rfl) ?_
            refine T.pure (.int .i64 17) (by kernel_rfl) (fun _ => by kernel_rfl) ?_
            obtain ⟨s5, hb11, hX5⟩ := Option.bind_eq_some_iff.1 hX5
            refine T.look (.string s5) (by kernel_rfl) (fun w' hh => exec_slice_str rfl rfl rfl rfl (by kernel_rfl) hb11) ?_
            obtain ⟨r4, hb12, hX5⟩ := Option.bind_eq_some_iff.1 hX5
            refine T.step (W1.call (vSc eInt) r4 47 #[.string s5] (by kernel_rfl) (fun _ => by kernel_rfl) (fun w' hh => big_Get_l F s5 r4 hb12 w' ) ?_)
            intro u V8 hV8 hu
            obtain rfl := sureInt _ _ _ hu
            refine T.pure (.int .i64 r4) (by kernel_rfl) (fun _ => by kernel_rfl) ?_
            refine T.nil ?_
            cases hX5
            refine T.ret rfl ?_
            exact T.ret1 rfl (ResIs.tmp rfl) fun w' hh => ⟨_, rfl, Exists.intro V8 (And.intro hV8 (And.intro rfl (hh.sub (.cons_cons _ (.cons_cons _ (.cons_cons _ List.Sublist.slnil))))))⟩
           ·
            rintro v w' ⟨V7, hV7, rfl, hh⟩
            refine ⟨V7, [box b6 30 [.int .i64 0, .int .i64 0, .int .i64 0, .int .i64 0, .int .i64 0, .string (ByteArray.mk #[])], box b2 30 [.int .i64 0, .int .i64 0, .int .i64 0, .int .i64 0, .int .i64 0, .string (ByteArray.mk #[])], box b1 9 [.string p0]], hh, ?_⟩
            clear hh
            refine TA.on (Hp.old (View.le_trans (View.le_trans (View.le_trans hV1 hV3) hV5) hV7) (View.le_refl _) (.cons _ (.cons_cons _ (.cons_cons _ List.Sublist.slnil))) (OldAll.box (OldAll.box OldAll.nil))) ?_
            refine TA.take 15 (.agg #[.int .i64 (IntKind.i64.wrap (b5.toNat : Int)), .int .i64 z2, .int .i64 z3, .int .i64 z4, .int .i64 z5, .string s1]) rfl (by kernel_rfl) (by kernel_rfl) (by kernel_rfl) (fun _ _ _ h => h) (Hp.old (View.le_trans (View.le_trans (View.le_trans hV1 hV3) hV5) hV7) (View.le_refl _) (.cons _ (.cons_cons _ (.cons_cons _ List.Sublist.slnil))) (OldAll.box (OldAll.box OldAll.nil))) (by kernel_rfl) (fun _ _ => by kernel_rfl) ?_
            refine TA.all [17] (by kernel_rfl) rfl ⟨?_, trivial⟩
            refine TA.br rfl (W1.store 0 [.int .i64 (IntKind.i64.wrap (b5.toNat : Int)), .int .i64 z2, .int .i64 z3, .int .i64 z4, .int .i64 z5, .string s1] [box b6 30 [.int .i64 (IntKind.i64.wrap (b5.toNat : Int)), .int .i64 z2, .int .i64 z3, .int .i64 z4, .int .i64 z5, .string s1], box b2 30 [.int .i64 0, .int .i64 0, .int .i64 0, .int .i64 0, .int .i64 0, .string (ByteArray.mk #[])], box b1 9 [.string p0]] (by rfl) rfl (by kernel_rfl) (fun w' hw => exec_store (vs := [.int .i64 (IntKind.i64.wrap (b5.toNat : Int)), .int .i64 z2, .int .i64 z3, .int .i64 z4, .int .i64 z5, .string s1]) rfl rfl rfl rfl (by kernel_rfl) (one_of rfl) (by simp) rfl hw) ?_)
            refine TA.on (Hp.old (View.le_trans (View.le_trans (View.le_trans hV1 hV3) hV5) hV7) (View.le_refl _) (.cons _ (.cons_cons _ (.cons_cons _ List.Sublist.slnil))) (OldAll.box (OldAll.box OldAll.nil))) ?_
            refine TA.done (by kernel_rfl) ?_
            exact fun a w' hf hh => Exists.intro b6 (Exists.intro V7 (And.intro (View.le_trans (View.le_trans (View.le_trans hV1 hV3) hV5) hV7) (And.intro ((((Fr.nil hf).pick hf 7 rfl).pick hf 6 rfl).pick hf 2 rfl) (hh.sub (.cons_cons _ (.cons_cons _ (.cons _ List.Sublist.slnil)))))))
        ·
         refine TA.br rfl (W1.new 30 [.int .i64 0, .int .i64 0, .int .i64 0, .int .i64 0, .int .i64 0, .string (ByteArray.mk #[])] (fun b => .pointer (some ⟨b, 0, none⟩)) (by kernel_rfl) (fun _ => by kernel_rfl) (fun b6 => ?_))
         refine TA.on (Hp.old (View.le_trans hV1 hV3) (View.le_refl _) (.cons _ (.cons_cons _ (.cons_cons _ List.Sublist.slnil))) (OldAll.box (OldAll.box OldAll.nil))) ?_
         refine TA.all [9] (by kernel_rfl) rfl ⟨?_, trivial⟩
         refine TA.br rfl (W1.within 54 [.int .i64 9, .pointer (some ⟨b1, 0, none⟩)] (fun v w' => ∃ (V5 : View), View.le V3 V5 ∧ v = .int .i64 z4 ∧ Hp w V5 [box b6 30 [.int .i64 0, .int .i64 0, .int .i64 0, .int .i64 0, .int .i64 0, .string (ByteArray.mk #[])], box b2 30 [.int .i64 0, .int .i64 0, .int .i64 0, .int .i64 0, .int .i64 0, .string (ByteArray.mk #[])], box b1 9 [.string p0]] w') Try.func54 rfl rfl (by kernel_rfl) (fun _ => by kernel_rfl) rfl ?_ ?_)
         ·
          refine T.seq ?_
          refine T.region ?_
          refine T.pure (.int .i64 0) (by kernel_rfl) (fun _ => by kernel_rfl) ?_
          refine T.nil ?_
          refine T.seq ?_
          refine T.region ?_
          refine T.look (.string p0) (by kernel_rfl) (fun w' hh => exec_load1 rfl rfl (by kernel_rfl) (hh.cellBox (i := 2) (by rfl) 0)) ?_
          refine T.pure (.int .i64 9) (by kernel_rfl) (fun _ => by kernel_rfl) ?_
          refine T.pure (.int .i64 9) (by kernel_rfl) (fun _ => by kernel_rfl) ?_
          refine T.pure (.int .i64 13) (by kernel_rfl) (fun _ => by kernel_rfl) ?_
          obtain ⟨s4, hb9, hX4⟩ := Option.bind_eq_some_iff.1 hX4
          refine T.look (.string s4) (by kernel_rfl) (fun w' hh => exec_slice_str rfl rfl rfl rfl (by kernel_rfl) hb9) ?_
          obtain ⟨r3, hb10, hX4⟩ := Option.bind_eq_some_iff.1 hX4
          refine T.step (W1.call (vSc eInt) r3 47 #[.string s4] (by kernel_rfl) (fun _ => by kernel_rfl) (fun w' hh => big_Get_l F s4 r3 hb10 w' ) ?_)
          intro u V6 hV6 hu
          obtain rfl := sureInt _ _ _ hu
          refine T.pure (.int .i64 r3) (by kernel_rfl) (fun _ => by kernel_rfl) ?_
          refine T.nil ?_
          cases hX4
          refine T.ret rfl ?_
          exact T.ret1 rfl (ResIs.tmp rfl) fun w' hh => ⟨_, rfl, Exists.intro V6 (And.intro hV6 (And.intro rfl (hh.sub (.cons_cons _ (.cons_cons _ (.cons_cons _ List.Sublist.slnil))))))⟩
         ·
          rintro v w' ⟨V5, hV5, rfl, hh⟩
          refine ⟨V5, [box b6 30 [.int .i64 0, .int .i64 0, .int .i64 0, .int .i64 0, .int .i64 0, .string (ByteArray.mk #[])], box b2 30 [.int .i64 0, .int .i64 0, .int .i64 0, .int .i64 0, .int .i64 0, .string (ByteArray.mk #[])], box b1 9 [.string p0]], hh, ?_⟩
          clear hh
          refine TA.on (Hp.old (View.le_trans (View.le_trans hV1 hV3) hV5) (View.le_refl _) (.cons _ (.cons_cons _ (.cons_cons _ List.Sublist.slnil))) (OldAll.box (OldAll.box OldAll.nil))) ?_
          refine TA.all [11] (by kernel_rfl) rfl ⟨?_, trivial⟩
          refine TA.br rfl (W1.within 54 [.int .i64 13, .pointer (some ⟨b1, 0, none⟩)] (fun v w' => ∃ (V7 : View), View.le V5 V7 ∧ v = .int .i64 z5 ∧ Hp w V7 [box b6 30 [.int .i64 0, .int .i64 0, .int .i64 0, .int .i64 0, .int .i64 0, .string (ByteArray.mk #[])], box b2 30 [.int .i64 0, .int .i64 0, .int .i64 0, .int .i64 0, .int .i64 0, .string (ByteArray.mk #[])], box b1 9 [.string p0]] w') Try.func54 rfl rfl (by kernel_rfl) (fun _ => by kernel_rfl) rfl ?_ ?_)
          ·
           refine T.seq ?_
           refine T.region ?_
           refine T.pure (.int .i64 0) (by kernel_rfl) (fun _ => by kernel_rfl) ?_
           refine T.nil ?_
           refine T.seq ?_
           refine T.region ?_
           refine T.look (.string p0) (by kernel_rfl) (fun w' hh => exec_load1 rfl rfl (by kernel_rfl) (hh.cellBox (i := 2) (by rfl) 0)) ?_
           refine T.pure (.int .i64 13) (by kernel_rfl) (fun _ => by kernel_rfl) ?_
           refine T.pure (.int .i64 13) (by kernel_rfl) (fun _ => by kernel_rfl) ?_
           refine T.pure (.int .i64 17) (by kernel_rfl) (fun _ => by kernel_rfl) ?_
           obtain ⟨s5, hb11, hX5⟩ := Option.bind_eq_some_iff.1 hX5
           refine T.look (.string s5) (by kernel_rfl) (fun w' hh => exec_slice_str rfl rfl rfl rfl (by kernel_rfl) hb11) ?_
           obtain ⟨r4, hb12, hX5⟩ := Option.bind_eq_some_iff.1 hX5
           refine T.step (W1.call (vSc eInt) r4 47 #[.string s5] (by kernel_rfl) (fun _ => by kernel_rfl) (fun w' hh => big_Get_l F s5 r4 hb12 w' ) ?_)
           intro u V8 hV8 hu
           obtain rfl := sureInt _ _ _ hu
           refine T.pure (.int .i64 r4) (by kernel_rfl) (fun _ => by kernel_rfl) ?_
           refine T.nil ?_
           cases hX5
           refine T.ret rfl ?_
           exact T.ret1 rfl (ResIs.tmp rfl) fun w' hh => ⟨_, rfl, Exists.intro V8 (And.intro hV8 (And.intro rfl (hh.sub (.cons_cons _ (.cons_cons _ (.cons_cons _ List.Sublist.slnil))))))⟩
          ·
           rintro v w' ⟨V7, hV7, rfl, hh⟩
           refine ⟨V7, [box b6 30 [.int .i64 0, .int .i64 0, .int .i64 0, .int .i64 0, .int .i64 0, .string (ByteArray.mk #[])], box b2 30 [.int .i64 0, .int .i64 0, .int .i64 0, .int .i64 0, .int .i64 0, .string (ByteArray.mk #[])], box b1 9 [.string p0]], hh, ?_⟩
           clear hh
           refine TA.on (Hp.old (View.le_trans (View.le_trans (View.le_trans hV1 hV3) hV5) hV7) (View.le_refl _) (.cons _ (.cons_cons _ (.cons_cons _ List.Sublist.slnil))) (OldAll.box (OldAll.box OldAll.nil))) ?_
           refine TA.take 15 (.agg #[.int .i64 (IntKind.i64.wrap (b5.toNat : Int)), .int .i64 z2, .int .i64 z3, .int .i64 z4, .int .i64 z5, .string s1]) rfl (by kernel_rfl) (by kernel_rfl) (by kernel_rfl) (fun _ _ _ h => h) (Hp.old (View.le_trans (View.le_trans (View.le_trans hV1 hV3) hV5) hV7) (View.le_refl _) (.cons _ (.cons_cons _ (.cons_cons _ List.Sublist.slnil))) (OldAll.box (OldAll.box OldAll.nil))) (by kernel_rfl) (fun _ _ => by kernel_rfl) ?_
           refine TA.all [17] (by kernel_rfl) rfl ⟨?_, trivial⟩
           refine TA.br rfl (W1.store 0 [.int .i64 (IntKind.i64.wrap (b5.toNat : Int)), .int .i64 z2, .int .i64 z3, .int .i64 z4, .int .i64 z5, .string s1] [box b6 30 [.int .i64 (IntKind.i64.wrap (b5.toNat : Int)), .int .i64 z2, .int .i64 z3, .int .i64 z4, .int .i64 z5, .string s1], box b2 30 [.int .i64 0, .int .i64 0, .int .i64 0, .int .i64 0, .int .i64 0, .string (ByteArray.mk #[])], box b1 9 [.string p0]] (by rfl) rfl (by kernel_rfl) (fun w' hw => exec_store (vs := [.int .i64 (IntKind.i64.wrap (b5.toNat : Int)), .int .i64 z2, .int .i64 z3, .int .i64 z4, .int .i64 z5, .string s1]) rfl rfl rfl rfl (by kernel_rfl) (one_of rfl) (by simp) rfl hw) ?_)
           refine TA.on (Hp.old (View.le_trans (View.le_trans (View.le_trans hV1 hV3) hV5) hV7) (View.le_refl _) (.cons _ (.cons_cons _ (.cons_cons _ List.Sublist.slnil))) (OldAll.box (OldAll.box OldAll.nil))) ?_
           refine TA.done (by kernel_rfl) ?_
           exact fun a w' hf hh => Exists.intro b6 (Exists.intro V7 (And.intro (View.le_trans (View.le_trans (View.le_trans hV1 hV3) hV5) hV7) (And.intro ((((Fr.nil hf).pick hf 7 rfl).pick hf 6 rfl).pick hf 2 rfl) (hh.sub (.cons_cons _ (.cons_cons _ (.cons _ List.Sublist.slnil)))))))
      ·
       refine TA.br rfl (W1.new 30 [.int .i64 0, .int .i64 0, .int .i64 0, .int .i64 0, .int .i64 0, .string (ByteArray.mk #[])] (fun b => .pointer (some ⟨b, 0, none⟩)) (by kernel_rfl) (fun _ => by kernel_rfl) (fun b6 => ?_))
       refine TA.on (Hp.old hV1 (View.le_refl _) (.cons _ (.cons_cons _ (.cons_cons _ List.Sublist.slnil))) (OldAll.box (OldAll.box OldAll.nil))) ?_
       refine TA.all [6] (by kernel_rfl) rfl ⟨?_, trivial⟩
       refine TA.br rfl (W1.within 54 [.int .i64 5, .pointer (some ⟨b1, 0, none⟩)] (fun v w' => ∃ (V3 : View), View.le V1 V3 ∧ v = .int .i64 z3 ∧ Hp w V3 [box b6 30 [.int .i64 0, .int .i64 0, .int .i64 0, .int .i64 0, .int .i64 0, .string (ByteArray.mk #[])], box b2 30 [.int .i64 0, .int .i64 0, .int .i64 0, .int .i64 0, .int .i64 0, .string (ByteArray.mk #[])], box b1 9 [.string p0]] w') Try.func54 rfl rfl (by kernel_rfl) (fun _ => by kernel_rfl) rfl ?_ ?_)
       ·
        refine T.seq ?_
        refine T.region ?_
        refine T.pure (.int .i64 0) (by kernel_rfl) (fun _ => by kernel_rfl) ?_
        refine T.nil ?_
        refine T.seq ?_
        refine T.region ?_
        refine T.look (.string p0) (by kernel_rfl) (fun w' hh => exec_load1 rfl rfl (by kernel_rfl) (hh.cellBox (i := 2) (by rfl) 0)) ?_
        refine T.pure (.int .i64 5) (by kernel_rfl) (fun _ => by kernel_rfl) ?_
        refine T.pure (.int .i64 5) (by kernel_rfl) (fun _ => by kernel_rfl) ?_
        refine T.pure (.int .i64 9) (by kernel_rfl) (fun _ => by kernel_rfl) ?_
        obtain ⟨s3, hb7, hX3⟩ := Option.bind_eq_some_iff.1 hX3
        refine T.look (.string s3) (by kernel_rfl) (fun w' hh => exec_slice_str rfl rfl rfl rfl (by kernel_rfl) hb7) ?_
        obtain ⟨r2, hb8, hX3⟩ := Option.bind_eq_some_iff.1 hX3
        refine T.step (W1.call (vSc eInt) r2 47 #[.string s3] (by kernel_rfl) (fun _ => by kernel_rfl) (fun w' hh => big_Get_l F s3 r2 hb8 w' ) ?_)
        intro u V4 hV4 hu
        obtain rfl := sureInt _ _ _ hu
        refine T.pure (.int .i64 r2) (by kernel_rfl) (fun _ => by kernel_rfl) ?_
        refine T.nil ?_
        cases hX3
        refine T.ret rfl ?_
        exact T.ret1 rfl (ResIs.tmp rfl) fun w' hh => ⟨_, rfl, Exists.intro V4 (And.intro hV4 (And.intro rfl (hh.sub (.cons_cons _ (.cons_cons _ (.cons_cons _ List.Sublist.slnil))))))⟩
       ·
        rintro v w' ⟨V3, hV3, rfl, hh⟩
        refine ⟨V3, [box b6 30 [.int .i64 0, .int .i64 0, .int .i64 0, .int .i64 0, .int .i64 0, .string (ByteArray.mk #[])], box b2 30 [.int .i64 0, .int .i64 0, .int .i64 0, .int .i64 0, .int .i64 0, .string (ByteArray.mk #[])], box b1 9 [.string p0]], hh, ?_⟩
        clear hh
        refine TA.on (Hp.old (View.le_trans hV1 hV3) (View.le_refl _) (.cons _ (.cons_cons _ (.cons_cons _ List.Sublist.slnil))) (OldAll.box (OldAll.box OldAll.nil))) ?_
        refine TA.take 7 (.agg #[.int .i64 (IntKind.i64.wrap (b5.toNat : Int)), .int .i64 z2, .int .i64 z3]) rfl (by kernel_rfl) (by kernel_rfl) (by kernel_rfl) (fun _ _ _ h => h) (Hp.old (View.le_trans hV1 hV3) (View.le_refl _) (.cons _ (.cons_cons _ (.cons_cons _ List.Sublist.slnil))) (OldAll.box (OldAll.box OldAll.nil))) (by kernel_rfl) (fun _ _ => by kernel_rfl) ?_
        refine TA.all [9] (by kernel_rfl) rfl ⟨?_, trivial⟩
        refine TA.br rfl (W1.within 54 [.int .i64 9, .pointer (some ⟨b1, 0, none⟩)] (fun v w' => ∃ (V5 : View), View.le V3 V5 ∧ v = .int .i64 z4 ∧ Hp w V5 [box b6 30 [.int .i64 0, .int .i64 0, .int .i64 0, .int .i64 0, .int .i64 0, .string (ByteArray.mk #[])], box b2 30 [.int .i64 0, .int .i64 0, .int .i64 0, .int .i64 0, .int .i64 0, .string (ByteArray.mk #[])], box b1 9 [.string p0]] w') Try.func54 rfl rfl (by kernel_rfl) (fun _ => by kernel_rfl) rfl ?_ ?_)
        ·
         refine T.seq ?_
         refine T.region ?_
         refine T.pure (.int .i64 0) (by kernel_rfl) (fun _ => by kernel_rfl) ?_
         refine T.nil ?_
         refine T.seq ?_
         refine T.region ?_
         refine T.look (.string p0) (by kernel_rfl) (fun w' hh => exec_load1 rfl rfl (by kernel_rfl) (hh.cellBox (i := 2) (by rfl) 0)) ?_
         refine T.pure (.int .i64 9) (by kernel_rfl) (fun _ => by kernel_rfl) ?_
         refine T.pure (.int .i64 9) (by kernel_rfl) (fun _ => by kernel_rfl) ?_
         refine T.pure (.int .i64 13) (by kernel_rfl) (fun _ => by kernel_rfl) ?_
         obtain ⟨s4, hb9, hX4⟩ := Option.bind_eq_some_iff.1 hX4
         refine T.look (.string s4) (by kernel_rfl) (fun w' hh => exec_slice_str rfl rfl rfl rfl (by kernel_rfl) hb9) ?_
         obtain ⟨r3, hb10, hX4⟩ := Option.bind_eq_some_iff.1 hX4
         refine T.step (W1.call (vSc eInt) r3 47 #[.string s4] (by kernel_rfl) (fun _ => by kernel_rfl) (fun w' hh => big_Get_l F s4 r3 hb10 w' ) ?_)
         intro u V6 hV6 hu
         obtain rfl := sureInt _ _ _ hu
         refine T.pure (.int .i64 r3) (by kernel_rfl) (fun _ => by kernel_rfl) ?_
         refine T.nil ?_
         cases hX4
         refine T.ret rfl ?_
         exact T.ret1 rfl (ResIs.tmp rfl) fun w' hh => ⟨_, rfl, Exists.intro V6 (And.intro hV6 (And.intro rfl (hh.sub (.cons_cons _ (.cons_cons _ (.cons_cons _ List.Sublist.slnil))))))⟩
        ·
         rintro v w' ⟨V5, hV5, rfl, hh⟩
         refine ⟨V5, [box b6 30 [.int .i64 0, .int .i64 0, .int .i64 0, .int .i64 0, .int .i64 0, .string (ByteArray.mk #[])], box b2 30 [.int .i64 0, .int .i64 0, .int .i64 0, .int .i64 0, .int .i64 0, .string (ByteArray.mk #[])], box b1 9 [.string p0]], hh, ?_⟩
         clear hh
         refine TA.on (Hp.old (View.le_trans (View.le_trans hV1 hV3) hV5) (View.le_refl _) (.cons _ (.cons_cons _ (.cons_cons _ List.Sublist.slnil))) (OldAll.box (OldAll.box OldAll.nil))) ?_
         refine TA.all [11] (by kernel_rfl) rfl ⟨?_, trivial⟩
         refine TA.br rfl (W1.within 54 [.int .i64 13, .pointer (some ⟨b1, 0, none⟩)] (fun v w' => ∃ (V7 : View), View.le V5 V7 ∧ v = .int .i64 z5 ∧ Hp w V7 [box b6 30 [.int .i64 0, .int .i64 0, .int .i64 0, .int .i64 0, .int .i64 0, .string (ByteArray.mk #[])], box b2 30 [.int .i64 0, .int .i64 0, .int .i64 0, .int .i64 0, .int .i64 0, .string (ByteArray.mk #[])], box b1 9 [.string p0]] w') Try.func54 rfl rfl (by kernel_rfl) (fun _ => by kernel_rfl) rfl ?_ ?_)
         ·
          refine T.seq ?_
          refine T.region ?_
          refine T.pure (.int .i64 0) (by kernel_rfl) (fun _ => by kernel_rfl) ?_
          refine T.nil ?_
          refine T.seq ?_
          refine T.region ?_
          refine T.look (.string p0) (by kernel_rfl) (fun w' hh => exec_load1 rfl rfl (by kernel_rfl) (hh.cellBox (i := 2) (by rfl) 0)) ?_
          refine T.pure (.int .i64 13) (by kernel_rfl) (fun _ => by kernel_rfl) ?_
          refine T.pure (.int .i64 13) (by kernel_rfl) (fun _ => by kernel_rfl) ?_
          refine T.pure (.int .i64 17) (by kernel_rfl) (fun _ => by kernel_rfl) ?_
          obtain ⟨s5, hb11, hX5⟩ := Option.bind_eq_some_iff.1 hX5
          refine T.look (.string s5) (by kernel_rfl) (fun w' hh => exec_slice_str rfl rfl rfl rfl (by kernel_rfl) hb11) ?_
          obtain ⟨r4, hb12, hX5⟩ := Option.bind_eq_some_iff.1 hX5
          refine T.step (W1.call (vSc eInt) r4 47 #[.string s5] (by kernel_rfl) (fun _ => by kernel_rfl) (fun w' hh => big_Get_l F s5 r4 hb12 w' ) ?_)
          intro u V8 hV8 hu
          obtain rfl := sureInt _ _ _ hu
          refine T.pure (.int .i64 r4) (by kernel_rfl) (fun _ => by kernel_rfl) ?_
          refine T.nil ?_
          cases hX5
          refine T.ret rfl ?_
          exact T.ret1 rfl (ResIs.tmp rfl) fun w' hh => ⟨_, rfl, Exists.intro V8 (And.intro hV8 (And.intro rfl (hh.sub (.cons_cons _ (.cons_cons _ (.cons_cons _ List.Sublist.slnil))))))⟩
         ·
          rintro v w' ⟨V7, hV7, rfl, hh⟩
          refine ⟨V7, [box b6 30 [.int .i64 0, .int .i64 0, .int .i64 0, .int .i64 0, .int .i64 0, .string (ByteArray.mk #[])], box b2 30 [.int .i64 0, .int .i64 0, .int .i64 0, .int .i64 0, .int .i64 0, .string (ByteArray.mk #[])], box b1 9 [.string p0]], hh, ?_⟩
          clear hh
          refine TA.on (Hp.old (View.le_trans (View.le_trans (View.le_trans hV1 hV3) hV5) hV7) (View.le_refl _) (.cons _ (.cons_cons _ (.cons_cons _ List.Sublist.slnil))) (OldAll.box (OldAll.box OldAll.nil))) ?_
          refine TA.take 15 (.agg #[.int .i64 (IntKind.i64.wrap (b5.toNat : Int)), .int .i64 z2, .int .i64 z3, .int .i64 z4, .int .i64 z5, .string s1]) rfl (by kernel_rfl) (by kernel_rfl) (by kernel_rfl) (fun _ _ _ h => h) (Hp.old (View.le_trans (View.le_trans (View.le_trans hV1 hV3) hV5) hV7) (View.le_refl _) (.cons _ (.cons_cons _ (.cons_cons _ List.Sublist.slnil))) (OldAll.box (OldAll.box OldAll.nil))) (by kernel_rfl) (fun _ _ => by kernel_rfl) ?_
          refine TA.all [17] (by kernel_rfl) rfl ⟨?_, trivial⟩
          refine TA.br rfl (W1.store 0 [.int .i64 (IntKind.i64.wrap (b5.toNat : Int)), .int .i64 z2, .int .i64 z3, .int .i64 z4, .int .i64 z5, .string s1] [box b6 30 [.int .i64 (IntKind.i64.wrap (b5.toNat : Int)), .int .i64 z2, .int .i64 z3, .int .i64 z4, .int .i64 z5, .string s1], box b2 30 [.int .i64 0, .int .i64 0, .int .i64 0, .int .i64 0, .int .i64 0, .string (ByteArray.mk #[])], box b1 9 [.string p0]] (by rfl) rfl (by kernel_rfl) (fun w' hw => exec_store (vs := [.int .i64 (IntKind.i64.wrap (b5.toNat : Int)), .int .i64 z2, .int .i64 z3, .int .i64 z4, .int .i64 z5, .string s1]) rfl rfl rfl rfl (by kernel_rfl) (one_of rfl) (by simp) rfl hw) ?_)
          refine TA.on (Hp.old (View.le_trans (View.le_trans (View.le_trans hV1 hV3) hV5) hV7) (View.le_refl _) (.cons _ (.cons_cons _ (.cons_cons _ List.Sublist.slnil))) (OldAll.box (OldAll.box OldAll.nil))) ?_
          refine TA.done (by kernel_rfl) ?_
          exact fun a w' hf hh => Exists.intro b6 (Exists.intro V7 (And.intro (View.le_trans (View.le_trans (View.le_trans hV1 hV3) hV5) hV7) (And.intro ((((Fr.nil hf).pick hf 7 rfl).pick hf 6 rfl).pick hf 2 rfl) (hh.sub (.cons_cons _ (.cons_cons _ (.cons _ List.Sublist.slnil)))))))
    ·
     refine TA.br rfl (W1.new 30 [.int .i64 0, .int .i64 0, .int .i64 0, .int .i64 0, .int .i64 0, .string (ByteArray.mk #[])] (fun b => .pointer (some ⟨b, 0, none⟩)) (by kernel_rfl) (fun _ => by kernel_rfl) (fun b6 => ?_))
     refine TA.on (Hp.old (View.le_refl _) (View.le_refl _) (.cons _ (.cons_cons _ (.cons_cons _ List.Sublist.slnil))) (OldAll.box (OldAll.box OldAll.nil))) ?_
     refine TA.all [4] (by kernel_rfl) rfl ⟨?_, trivial⟩
     refine TA.br rfl (W1.within 54 [.int .i64 1, .pointer (some ⟨b1, 0, none⟩)] (fun v w' => ∃ (V1 : View), View.le (vw w) V1 ∧ v = .int .i64 z2 ∧ Hp w V1 [box b6 30 [.int .i64 0, .int .i64 0, .int .i64 0, .int .i64 0, .int .i64 0, .string (ByteArray.mk #[])], box b2 30 [.int .i64 0, .int .i64 0, .int .i64 0, .int .i64 0, .int .i64 0, .string (ByteArray.mk #[])], box b1 9 [.string p0]] w') Try.func54 rfl rfl (by kernel_rfl) (fun _ => by kernel_rfl) rfl ?_ ?_)
     ·
      refine T.seq ?_
      refine T.region ?_
      refine T.pure (.int .i64 0) (by kernel_rfl) (fun _ => by kernel_rfl) ?_
      refine T.nil ?_
      refine T.seq ?_
      refine T.region ?_
      refine T.look (.string p0) (by kernel_rfl) (fun w' hh => exec_load1 rfl rfl (by kernel_rfl) (hh.cellBox (i := 2) (by rfl) 0)) ?_
      refine T.pure (.int .i64 1) (by kernel_rfl) (fun _ => by kernel_rfl) ?_
      refine T.pure (.int .i64 1) (by kernel_rfl) (fun _ => by kernel_rfl) ?_
      refine T.pure (.int .i64 5) (by kernel_rfl) (fun _ => by kernel_rfl) ?_
      obtain ⟨s2, hb5, hX2⟩ := Option.bind_eq_some_iff.1 hX2
      refine T.look (.string s2) (by kernel_rfl) (fun w' hh => exec_slice_str rfl rfl rfl rfl (by kernel_rfl) hb5) ?_
      obtain ⟨r1, hb6, hX2⟩ := Option.bind_eq_some_iff.1 hX2
      refine T.step (W1.call (vSc eInt) r1 47 #[.string s2] (by kernel_rfl) (fun _ => by kernel_rfl) (fun w' hh => big_Get_l F s2 r1 hb6 w' ) ?_)
      intro u V2 hV2 hu
      obtain rfl := sureInt _ _ _ hu
      refine T.pure (.int .i64 r1) (by kernel_rfl) (fun _ => by kernel_rfl) ?_
      refine T.nil ?_
      cases hX2
      refine T.ret rfl ?_
      exact T.ret1 rfl (ResIs.tmp rfl) fun w' hh => ⟨_, rfl, Exists.intro V2 (And.intro hV2 (And.intro rfl (hh.sub (.cons_cons _ (.cons_cons _ (.cons_cons _ List.Sublist.slnil))))))⟩
     ·
      rintro v w' ⟨V1, hV1, rfl, hh⟩
      refine ⟨V1, [box b6 30 [.int .i64 0, .int .i64 0, .int .i64 0, .int .i64 0, .int .i64 0, .string (ByteArray.mk #[])], box b2 30 [.int .i64 0, .int .i64 0, .int .i64 0, .int .i64 0, .int .i64 0, .string (ByteArray.mk #[])], box b1 9 [.string p0]], hh, ?_⟩
      clear hh
      refine TA.on (Hp.old hV1 (View.le_refl _) (.cons _ (.cons_cons _ (.cons_cons _ List.Sublist.slnil))) (OldAll.box (OldAll.box OldAll.nil))) ?_
      refine TA.all [6] (by kernel_rfl) rfl ⟨?_, trivial⟩
      refine TA.br rfl (W1.within 54 [.int .i64 5, .pointer (some ⟨b1, 0, none⟩)] (fun v w' => ∃ (V3 : View), View.le V1 V3 ∧ v = .int .i64 z3 ∧ Hp w V3 [box b6 30 [.int .i64 0, .int .i64 0, .int .i64 0, .int .i64 0, .int .i64 0, .string (ByteArray.mk #[])], box b2 30 [.int .i64 0, .int .i64 0, .int .i64 0, .int .i64 0, .int .i64 0, .string (ByteArray.mk #[])], box b1 9 [.string p0]] w') Try.func54 rfl rfl (by kernel_rfl) (fun _ => by kernel_rfl) rfl ?_ ?_)
      ·
       refine T.seq ?_
       refine T.region ?_
       refine T.pure (.int .i64 0) (by kernel_rfl) (fun _ => by kernel_rfl) ?_
       refine T.nil ?_
       refine T.seq ?_
       refine T.region ?_
       refine T.look (.string p0) (by kernel_rfl) (fun w' hh => exec_load1 rfl rfl (by kernel_rfl) (hh.cellBox (i := 2) (by rfl) 0)) ?_
       refine T.pure (.int .i64 5) (by kernel_rfl) (fun _ => by kernel_rfl) ?_
       refine T.pure (.int .i64 5) (by kernel_rfl) (fun _ => by kernel_rfl) ?_
       refine T.pure (.int .i64 9) (by kernel_rfl) (fun _ => by kernel_rfl) ?_
       obtain ⟨s3, hb7, hX3⟩ := Option.bind_eq_some_iff.1 hX3
       refine T.look (.string s3) (by kernel_rfl) (fun w' hh => exec_slice_str rfl rfl rfl rfl (by kernel_rfl) hb7) ?_
       obtain ⟨r2, hb8, hX3⟩ := Option.bind_eq_some_iff.1 hX3
       refine T.step (W1.call (vSc eInt) r2 47 #[.string s3] (by kernel_rfl) (fun _ => by kernel_rfl) (fun w' hh => big_Get_l F s3 r2 hb8 w' ) ?_)
       intro u V4 hV4 hu
       obtain rfl := sureInt _ _ _ hu
       refine T.pure (.int .i64 r2) (by kernel_rfl) (fun _ => by kernel_rfl) ?_
       refine T.nil ?_
       cases hX3
       refine T.ret rfl ?_
       exact T.ret1 rfl (ResIs.tmp rfl) fun w' hh => ⟨_, rfl, Exists.intro V4 (And.intro hV4 (And.intro rfl (hh.sub (.cons_cons _ (.cons_cons _ (.cons_cons _ List.Sublist.slnil))))))⟩
      ·
       rintro v w' ⟨V3, hV3, rfl, hh⟩
       refine ⟨V3, [box b6 30 [.int .i64 0, .int .i64 0, .int .i64 0, .int .i64 0, .int .i64 0, .string (ByteArray.mk #[])], box b2 30 [.int .i64 0, .int .i64 0, .int .i64 0, .int .i64 0, .int .i64 0, .string (ByteArray.mk #[])], box b1 9 [.string p0]], hh, ?_⟩
       clear hh
       refine TA.on (Hp.old (View.le_trans hV1 hV3) (View.le_refl _) (.cons _ (.cons_cons _ (.cons_cons _ List.Sublist.slnil))) (OldAll.box (OldAll.box OldAll.nil))) ?_
       refine TA.take 7 (.agg #[.int .i64 (IntKind.i64.wrap (b5.toNat : Int)), .int .i64 z2, .int .i64 z3]) rfl (by kernel_rfl) (by kernel_rfl) (by kernel_rfl) (fun _ _ _ h => h) (Hp.old (View.le_trans hV1 hV3) (View.le_refl _) (.cons _ (.cons_cons _ (.cons_cons _ List.Sublist.slnil))) (OldAll.box (OldAll.box OldAll.nil))) (by kernel_rfl) (fun _ _ => by kernel_rfl) ?_
       refine TA.all [9] (by kernel_rfl) rfl ⟨?_, trivial⟩
       refine TA.br rfl (W1.within 54 [.int .i64 9, .pointer (some ⟨b1, 0, none⟩)] (fun v w' => ∃ (V5 : View), View.le V3 V5 ∧ v = .int .i64 z4 ∧ Hp w V5 [box b6 30 [.int .i64 0, .int .i64 0, .int .i64 0, .int .i64 0, .int .i64 0, .string (ByteArray.mk #[])], box b2 30 [.int .i64 0, .int .i64 0, .int .i64 0, .int .i64 0, .int .i64 0, .string (ByteArray.mk #[])], box b1 9 [.string p0]] w') Try.func54 rfl rfl (by kernel_rfl) (fun _ => by kernel_rfl) rfl ?_ ?_)
       ·
        refine T.seq ?_
        refine T.region ?_
        refine T.pure (.int .i64 0) (by kernel_rfl) (fun _ => by kernel_rfl) ?_
        refine T.nil ?_
        refine T.seq ?_
        refine T.region ?_
        refine T.look (.string p0) (by kernel_rfl) (fun w' hh => exec_load1 rfl rfl (by kernel_rfl) (hh.cellBox (i := 2) (by rfl) 0)) ?_
        refine T.pure (.int .i64 9) (by kernel_rfl) (fun _ => by kernel_rfl) ?_
        refine T.pure (.int .i64 9) (by kernel_rfl) (fun _ => by kernel_rfl) ?_
        refine T.pure (.int .i64 13) (by kernel_rfl) (fun _ => by kernel_rfl) ?_
        obtain ⟨s4, hb9, hX4⟩ := Option.bind_eq_some_iff.1 hX4
        refine T.look (.string s4) (by kernel_rfl) (fun w' hh => exec_slice_str rfl rfl rfl rfl (by kernel_rfl) hb9) ?_
        obtain ⟨r3, hb10, hX4⟩ := Option.bind_eq_some_iff.1 hX4
        refine T.step (W1.call (vSc eInt) r3 47 #[.string s4] (by kernel_rfl) (fun _ => by kernel_rfl) (fun w' hh => big_Get_l F s4 r3 hb10 w' ) ?_)
        intro u V6 hV6 hu
        obtain rfl := sureInt _ _ _ hu
        refine T.pure (.int .i64 r3) (by kernel_rfl) (fun _ => by kernel_rfl) ?_
        refine T.nil ?_
        cases hX4
        refine T.ret rfl ?_
        exact T.ret1 rfl (ResIs.tmp rfl) fun w' hh => ⟨_, rfl, Exists.intro V6 (And.intro hV6 (And.intro rfl (hh.sub (.cons_cons _ (.cons_cons _ (.cons_cons _ List.Sublist.slnil))))))⟩
       ·
        rintro v w' ⟨V5, hV5, rfl, hh⟩
        refine ⟨V5, [box b6 30 [.int .i64 0, .int .i64 0, .int .i64 0, .int .i64 0, .int .i64 0, .string (ByteArray.mk #[])], box b2 30 [.int .i64 0, .int .i64 0, .int .i64 0, .int .i64 0, .int .i64 0, .string (ByteArray.mk #[])], box b1 9 [.string p0]], hh, ?_⟩
        clear hh
        refine TA.on (Hp.old (View.le_trans (View.le_trans hV1 hV3) hV5) (View.le_refl _) (.cons _ (.cons_cons _ (.cons_cons _ List.Sublist.slnil))) (OldAll.box (OldAll.box OldAll.nil))) ?_
        refine TA.all [11] (by kernel_rfl) rfl ⟨?_, trivial⟩
        refine TA.br rfl (W1.within 54 [.int .i64 13, .pointer (some ⟨b1, 0, none⟩)] (fun v w' => ∃ (V7 : View), View.le V5 V7 ∧ v = .int .i64 z5 ∧ Hp w V7 [box b6 30 [.int .i64 0, .int .i64 0, .int .i64 0, .int .i64 0, .int .i64 0, .string (ByteArray.mk #[])], box b2 30 [.int .i64 0, .int .i64 0, .int .i64 0, .int .i64 0, .int .i64 0, .string (ByteArray.mk #[])], box b1 9 [.string p0]] w') Try.func54 rfl rfl (by kernel_rfl) (fun _ => by kernel_rfl) rfl ?_ ?_)
        ·
         refine T.seq ?_
         refine T.region ?_
         refine T.pure (.int .i64 0) (by kernel_rfl) (fun _ => by kernel_rfl) ?_
         refine T.nil ?_
         refine T.seq ?_
         refine T.region ?_
         refine T.look (.string p0) (by kernel_rfl) (fun w' hh => exec_load1 rfl rfl (by kernel_rfl) (hh.cellBox (i := 2) (by rfl) 0)) ?_
         refine T.pure (.int .i64 13) (by kernel_rfl) (fun _ => by kernel_rfl) ?_
         refine T.pure (.int .i64 13) (by kernel_rfl) (fun _ => by kernel_rfl) ?_
         refine T.pure (.int .i64 17) (by kernel_rfl) (fun _ => by kernel_rfl) ?_
         obtain ⟨s5, hb11, hX5⟩ := Option.bind_eq_some_iff.1 hX5
         refine T.look (.string s5) (by kernel_rfl) (fun w' hh => exec_slice_str rfl rfl rfl rfl (by kernel_rfl) hb11) ?_
         obtain ⟨r4, hb12, hX5⟩ := Option.bind_eq_some_iff.1 hX5
         refine T.step (W1.call (vSc eInt) r4 47 #[.string s5] (by kernel_rfl) (fun _ => by kernel_rfl) (fun w' hh => big_Get_l F s5 r4 hb12 w' ) ?_)
         intro u V8 hV8 hu
         obtain rfl := sureInt _ _ _ hu
         refine T.pure (.int .i64 r4) (by kernel_rfl) (fun _ => by kernel_rfl) ?_
         refine T.nil ?_
         cases hX5
         refine T.ret rfl ?_
         exact T.ret1 rfl (ResIs.tmp rfl) fun w' hh => ⟨_, rfl, Exists.intro V8 (And.intro hV8 (And.intro rfl (hh.sub (.cons_cons _ (.cons_cons _ (.cons_cons _ List.Sublist.slnil))))))⟩
        ·
         rintro v w' ⟨V7, hV7, rfl, hh⟩
         refine ⟨V7, [box b6 30 [.int .i64 0, .int .i64 0, .int .i64 0, .int .i64 0, .int .i64 0, .string (ByteArray.mk #[])], box b2 30 [.int .i64 0, .int .i64 0, .int .i64 0, .int .i64 0, .int .i64 0, .string (ByteArray.mk #[])], box b1 9 [.string p0]], hh, ?_⟩
         clear hh
         refine TA.on (Hp.old (View.le_trans (View.le_trans (View.le_trans hV1 hV3) hV5) hV7) (View.le_refl _) (.cons _ (.cons_cons _ (.cons_cons _ List.Sublist.slnil))) (OldAll.box (OldAll.box OldAll.nil))) ?_
         refine TA.take 15 (.agg #[.int .i64 (IntKind.i64.wrap (b5.toNat : Int)), .int .i64 z2, .int .i64 z3, .int .i64 z4, .int .i64 z5, .string s1]) rfl (by kernel_rfl) (by kernel_rfl) (by kernel_rfl) (fun _ _ _ h => h) (Hp.old (View.le_trans (View.le_trans (View.le_trans hV1 hV3) hV5) hV7) (View.le_refl _) (.cons _ (.cons_cons _ (.cons_cons _ List.Sublist.slnil))) (OldAll.box (OldAll.box OldAll.nil))) (by kernel_rfl) (fun _ _ => by kernel_rfl) ?_
         refine TA.all [17] (by kernel_rfl) rfl ⟨?_, trivial⟩
         refine TA.br rfl (W1.store 0 [.int .i64 (IntKind.i64.wrap (b5.toNat : Int)), .int .i64 z2, .int .i64 z3, .int .i64 z4, .int .i64 z5, .string s1] [box b6 30 [.int .i64 (IntKind.i64.wrap (b5.toNat : Int)), .int .i64 z2, .int .i64 z3, .int .i64 z4, .int .i64 z5, .string s1], box b2 30 [.int .i64 0, .int .i64 0, .int .i64 0, .int .i64 0, .int .i64 0, .string (ByteArray.mk #[])], box b1 9 [.string p0]] (by rfl) rfl (by kernel_rfl) (fun w' hw => exec_store (vs := [.int .i64 (IntKind.i64.wrap (b5.toNat : Int)), .int .i64 z2, .int .i64 z3, .int .i64 z4, .int .i64 z5, .string s1]) rfl rfl rfl rfl (by kernel_rfl) (one_of rfl) (by simp) rfl hw) ?_)
         refine TA.on (Hp.old (View.le_trans (View.le_trans (View.le_trans hV1 hV3) hV5) hV7) (View.le_refl _) (.cons _ (.cons_cons _ (.cons_cons _ List.Sublist.slnil))) (OldAll.box (OldAll.box OldAll.nil))) ?_
         refine TA.done (by kernel_rfl) ?_
         exact fun a w' hf hh => Exists.intro b6 (Exists.intro V7 (And.intro (View.le_trans (View.le_trans (View.le_trans hV1 hV3) hV5) hV7) (And.intro ((((Fr.nil hf).pick hf 7 rfl).pick hf 6 rfl).pick hf 2 rfl) (hh.sub (.cons_cons _ (.cons_cons _ (.cons _ List.Sublist.slnil)))))))
   ·
    rintro a w' ⟨b6, V9, hV9, hf, hh⟩
    refine (?_ : T 48 w V9 [box b6 30 [.int .i64 (IntKind.i64.wrap (b5.toNat : Int)), .int .i64 z2, .int .i64 z3, .int .i64 z4, .int .i64 z5, .string s1], box b2 30 [.int .i64 0, .int .i64 0, .int .i64 0, .int .i64 0, .int .i64 0, .string (ByteArray.mk #[])]] [(2, .pointer (some ⟨b2, 0, none⟩)), (6, .int .i64 (IntKind.i64.wrap (18 + (IntKind.i64.wrap (b4.toNat : Int))))), (7, .pointer (some ⟨b6, 0, none⟩))] _) a w' hf hh
    clear hf hh
    refine T.seq ?_
    refine T.seq ?_
    refine T.region ?_
    refine T.look (.agg #[.int .i64 (IntKind.i64.wrap (b5.toNat : Int)), .int .i64 z2, .int .i64 z3, .int .i64 z4, .int .i64 z5, .string s1]) (by kernel_rfl) (fun w' hh => exec_loadN (cs := [.int .i64 (IntKind.i64.wrap (b5.toNat : Int)), .int .i64 z2, .int .i64 z3, .int .i64 z4, .int .i64 z5, .string s1]) rfl rfl (by kernel_rfl) (by kernel_rfl) (fun j u hj => (hh.box_at (i := 0) (cs := [.int .i64 (IntKind.i64.wrap (b5.toNat : Int)), .int .i64 z2, .int .i64 z3, .int .i64 z4, .int .i64 z5, .string s1]) (by rfl) 0 j).trans (seg_at (n := 6) (by rfl) hj))) ?_
    obtain ⟨r5, hb13, hF⟩ := Option.bind_eq_some_iff.1 hF
    refine T.step (W1.call (vSc eInt) r5 29 #[.agg #[.int .i64 (IntKind.i64.wrap (b5.toNat : Int)), .int .i64 z2, .int .i64 z3, .int .i64 z4, .int .i64 z5, .string s1]] (by kernel_rfl) (fun _ => by kernel_rfl) (fun w' hh => elem_Check_l (DElem.mk (DKey.mk (IntKind.i64.wrap (b5.toNat : Int)) z2 z3) z4 z5 s1) r5 hb13 w' ) ?_)
    intro u V10 hV10 hu
    obtain rfl := sureInt _ _ _ hu
    refine T.pure (.bool (r5 != 0)) (by kernel_rfl) (fun _ => by kernel_rfl) ?_
    refine T.nil ?_
    refine T.cond (r5 != 0) (by kernel_rfl) (by kernel_rfl) (fun hc2 => ?_) (fun hc2 => ?_)
    ·
     rw [hc2, cond_true] at hF
     refine T.seq ?_
     refine T.region ?_
     refine T.pure (.agg #[.int .i64 0, .int .i64 0, .int .i64 0, .int .i64 0, .int .i64 0, .string (ByteArray.mk #[])]) (by kernel_rfl) (fun _ => by kernel_rfl) ?_
     refine T.step (W1.store 1 [.int .i64 0, .int .i64 0, .int .i64 0, .int .i64 0, .int .i64 0, .string (ByteArray.mk #[])] [box b6 30 [.int .i64 (IntKind.i64.wrap (b5.toNat : Int)), .int .i64 z2, .int .i64 z3, .int .i64 z4, .int .i64 z5, .string s1], box b2 30 [.int .i64 0, .int .i64 0, .int .i64 0, .int .i64 0, .int .i64 0, .string (ByteArray.mk #[])]] (by rfl) rfl (by kernel_rfl) (fun w' hw => exec_store (vs := [.int .i64 0, .int .i64 0, .int .i64 0, .int .i64 0, .int .i64 0, .string (ByteArray.mk #[])]) rfl rfl rfl rfl (by kernel_rfl) (one_of rfl) (by simp) rfl hw) ?_)
     refine T.pure (.int .i64 0) (by kernel_rfl) (fun _ => by kernel_rfl) ?_
     refine T.pure (.int .i64 3) (by kernel_rfl) (fun _ => by kernel_rfl) ?_
     refine T.nil ?_
     cases hF
     refine T.ret rfl ?_
     exact T.ret3 rfl (ResIs.cellN 1 rfl (by rfl) (fun _ => by kernel_rfl) (fun _ => by kernel_rfl)) (ResIs.tmp rfl) (ResIs.tmp rfl) fun w' hh => ⟨_, rfl, hh.below, (vT3.mk (vAg.mk rfl) (show _ from rfl) (show _ from rfl))⟩
    ·
     rw [hc2, cond_false] at hF
     refine T.skip_code ?_
     refine T.seq ?_
     refine T.region ?_
     refine T.look (.agg #[.int .i64 (IntKind.i64.wrap (b5.toNat : Int)), .int .i64 z2, .int .i64 z3, .int .i64 z4, .int .i64 z5, .string s1]) (by kernel_rfl) (fun w' hh => exec_loadN (cs := [.int .i64 (IntKind.i64.wrap (b5.toNat : Int)), .int .i64 z2, .int .i64 z3, .int .i64 z4, .int .i64 z5, .string s1]) rfl rfl (by kernel_rfl) (by kernel_rfl) (fun j u hj => (hh.box_at (i := 0) (cs := [.int .i64 (IntKind.i64.wrap (b5.toNat : Int)), .int .i64 z2, .int .i64 z3, .int .i64 z4, .int .i64 z5, .string s1]) (by rfl) 0 j).trans (seg_at (n := 6) (by rfl) hj))) ?_
     refine T.pure (.int .i64 (IntKind.i64.wrap (18 + (IntKind.i64.wrap (b4.toNat : Int))))) (by kernel_rfl) (fun _ => by kernel_rfl) ?_
     refine T.step (W1.store 1 [.int .i64 (IntKind.i64.wrap (b5.toNat : Int)), .int .i64 z2, .int .i64 z3, .int .i64 z4, .int .i64 z5, .string s1] [box b6 30 [.int .i64 (IntKind.i64.wrap (b5.toNat : Int)), .int .i64 z2, .int .i64 z3, .int .i64 z4, .int .i64 z5, .string s1], box b2 30 [.int .i64 (IntKind.i64.wrap (b5.toNat : Int)), .int .i64 z2, .int .i64 z3, .int .i64 z4, .int .i64 z5, .string s1]] (by rfl) rfl (by kernel_rfl) (fun w' hw => exec_store (vs := [.int .i64 (IntKind.i64.wrap (b5.toNat : Int)), .int .i64 z2, .int .i64 z3, .int .i64 z4, .int .i64 z5, .string s1]) rfl rfl rfl rfl (by kernel_rfl) (one_of rfl) (by simp) rfl hw) ?_)
     refine T.pure (.int .i64 (IntKind.i64.wrap (18 + (IntKind.i64.wrap (b4.toNat : Int))))) (by kernel_rfl) (fun _ => by kernel_rfl) ?_
     refine T.pure (.int .i64 0) (by kernel_rfl) (fun _ => by kernel_rfl) ?_
     refine T.nil ?_
     cases hF
     refine T.ret rfl ?_
     exact T.ret3 rfl (ResIs.cellN 1 rfl (by rfl) (fun _ => by kernel_rfl) (fun _ => by kernel_rfl)) (ResIs.tmp rfl) (ResIs.tmp rfl) fun w' hh => ⟨_, rfl, hh.below, (vT3.mk (vAg.mk rfl) (show _ from rfl) (show _ from rfl))⟩
end Go.Proofs.Ytfbjmeehmanjnaa
