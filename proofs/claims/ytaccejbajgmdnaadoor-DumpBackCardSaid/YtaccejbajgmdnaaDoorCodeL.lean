/- The Go functions of group Code compute the pure functions of that group: written by walkgen.py. Condition of each: the pure function yields a result. -/
import Derived.Test.YtaccejbajgmdnaaDoorKeyL
import Derived.Test.YtaccejbajgmdnaaDoorCodeF
import Derived.Test.YtaccejbajgmdnaaDoorEqL
namespace Go.Proofs.YtaccejbajgmdnaaDoor
set_option linter.unusedVariables false

set_option maxRecDepth 100000 in
set_option maxHeartbeats 4000000 in
theorem sum_Of_l (F : Nat) (p0 : ByteArray) (r : Int) (hF : sum_Of F p0 = some r) (w : World)  :
    Calls Tryd.prog 52 #[.string p0] w (Post (vSc eInt) r w) := by
 unfold sum_Of at hF
 refine T.start (l := [.string p0]) Tryd.func52 rfl rfl rfl ?_
 refine T.seq ?_
 refine T.region ?_
 refine T.pure (.int .i64 0) (by kernel_rfl) (fun _ => by kernel_rfl) ?_
 refine T.nil ?_
 refine T.seq ?_
 refine T.region ?_
 refine T.pure (.int .u16 0) (by kernel_rfl) (fun _ => by kernel_rfl) ?_
 refine T.nil ?_
 refine T.seq ?_
 refine T.seq ?_
 refine T.region ?_
 refine T.pure (.string p0) (by kernel_rfl) (fun _ => by kernel_rfl) ?_
 refine T.pure (.int .i64 (p0.size : Int)) (by kernel_rfl) (fun _ => by kernel_rfl) ?_
 refine T.pure (.int .i64 0) (by kernel_rfl) (fun _ => by kernel_rfl) ?_
 refine T.nil ?_
 obtain ⟨z1, hz1, hF⟩ := Option.bind_eq_some_iff.1 hF
 refine T.mid (fun a w' => Fr 31 [(3, .int .u16 z1)] a ∧ Hp w (vw w) [] w') ?_ ?_
 ·
  refine T.block ?_
  refine T.iter (fun s1 a w' => ∃ (x1 : Int) (x2 : Int), s1 = (x1, x2) ∧ Fr 31 [(0, .string p0), (3, .int .u16 x1), (6, .int .i64 (p0.size : Int)), (7, .int .i64 x2)] a ∧ Hp w (vw w) [] w') hz1 ?_ ?_
  ·
   exact fun a w' hf hh => Exists.intro 0 (Exists.intro 0 (And.intro rfl (And.intro (((((Fr.nil hf).pick hf 7 rfl).pick hf 6 rfl).pick hf 3 rfl).pick hf 0 rfl) (hh.sub List.Sublist.slnil))))
  ·
   rintro s1 y1 hY1 hr1 a w' ⟨x1, x2, rfl, hf, hh⟩
   refine (?_ : T 31 w (vw w) [] [(0, .string p0), (3, .int .u16 x1), (6, .int .i64 (p0.size : Int)), (7, .int .i64 x2)] _) a w' hf hh
   clear hf hh
   try dsimp only at hY1
   refine T.seq ?_
   refine T.region ?_
   refine T.pure (.bool (decide (x2 < (p0.size : Int)))) (by kernel_rfl) (fun _ => by kernel_rfl) ?_
   refine T.nil ?_
   refine T.seq ?_
   refine T.cond (decide (x2 < (p0.size : Int))) (by kernel_rfl) (by kernel_rfl) (fun hc1 => ?_) (fun hc1 => ?_)
   ·
    rw [hc1, cond_true] at hY1
    refine T.skip_code ?_
    refine T.seq ?_
    refine T.block ?_
    refine T.seq ?_
    refine T.region ?_
    refine T.pure (.int .i64 x2) (by kernel_rfl) (fun _ => by kernel_rfl) ?_
    refine T.pure (.int .i64 x2) (by kernel_rfl) (fun _ => by kernel_rfl) ?_
    refine T.nil ?_
    refine T.seq ?_
    refine T.region ?_
    refine T.pure (.int .u16 x1) (by kernel_rfl) (fun _ => by kernel_rfl) ?_
    refine T.pure (.string p0) (by kernel_rfl) (fun _ => by kernel_rfl) ?_
    refine T.pure (.int .i64 x2) (by kernel_rfl) (fun _ => by kernel_rfl) ?_
    obtain ⟨b1, hb1, hY1⟩ := Option.bind_eq_some_iff.1 hY1
    refine T.look (.int .u8 (b1.toNat : Int)) (by kernel_rfl) (fun w' hh => exec_index_str rfl rfl rfl (by kernel_rfl) hb1) ?_
    refine T.pure (.int .u16 (IntKind.u16.wrap (b1.toNat : Int))) (by kernel_rfl) (fun _ => by kernel_rfl) ?_
    refine T.pure (.int .u16 (shl .u16 (IntKind.u16.wrap (b1.toNat : Int)) 8)) (by kernel_rfl) (fun _ => by kernel_rfl) ?_
    refine T.pure (.int .u16 (bxor .u16 x1 (shl .u16 (IntKind.u16.wrap (b1.toNat : Int)) 8))) (by kernel_rfl) (fun _ => by kernel_rfl) ?_
    refine T.pure (.int .u16 (bxor .u16 x1 (shl .u16 (IntKind.u16.wrap (b1.toNat : Int)) 8))) (by kernel_rfl) (fun _ => by kernel_rfl) ?_
    refine T.nil ?_
    refine T.seq ?_
    refine T.region ?_
    refine T.pure (.int .i64 0) (by kernel_rfl) (fun _ => by kernel_rfl) ?_
    refine T.nil ?_
    obtain ⟨z2, hz2, hY1⟩ := Option.bind_eq_some_iff.1 hY1
    refine T.mid (fun a w' => Fr 31 [(0, .string p0), (3, .int .u16 z2), (6, .int .i64 (p0.size : Int)), (7, .int .i64 x2)] a ∧ Hp w (vw w) [] w') ?_ ?_
    ·
     refine T.block ?_
     refine T.iter (fun s2 a w' => ∃ (x3 : Int) (x4 : Int), s2 = (x3, x4) ∧ Fr 31 [(0, .string p0), (3, .int .u16 x3), (6, .int .i64 (p0.size : Int)), (7, .int .i64 x2), (17, .int .i64 x4)] a ∧ Hp w (vw w) [] w') hz2 ?_ ?_
     ·
      exact fun a w' hf hh => Exists.intro (bxor .u16 x1 (shl .u16 (IntKind.u16.wrap (b1.toNat : Int)) 8)) (Exists.intro 0 (And.intro rfl (And.intro ((((((Fr.nil hf).pick hf 17 rfl).pick hf 7 rfl).pick hf 6 rfl).pick hf 3 rfl).pick hf 0 rfl) (hh.sub List.Sublist.slnil))))
     ·
      rintro s2 y2 hY2 hr2 a w' ⟨x3, x4, rfl, hf, hh⟩
      refine (?_ : T 31 w (vw w) [] [(0, .string p0), (3, .int .u16 x3), (6, .int .i64 (p0.size : Int)), (7, .int .i64 x2), (17, .int .i64 x4)] _) a w' hf hh
      clear hf hh
      try dsimp only at hY2
      refine T.seq ?_
      refine T.region ?_
      refine T.pure (.bool (decide (x4 < 8))) (by kernel_rfl) (fun _ => by kernel_rfl) ?_
      refine T.nil ?_
      refine T.seq ?_
      refine T.cond (decide (x4 < 8)) (by kernel_rfl) (by kernel_rfl) (fun hc2 => ?_) (fun hc2 => ?_)
      ·
       rw [hc2, cond_true] at hY2
       refine T.skip_code ?_
       obtain ⟨z3, hX1, hY2⟩ := Option.bind_eq_some_iff.1 hY2
       refine T.cut (fun a w' => Fr 31 [(0, .string p0), (3, .int .u16 z3), (6, .int .i64 (p0.size : Int)), (7, .int .i64 x2), (17, .int .i64 x4)] a ∧ Hp w (vw w) [] w') ?_ ?_
       ·
        refine T.block ?_
        refine T.seq ?_
        refine T.region ?_
        refine T.pure (.int .u16 x3) (by kernel_rfl) (fun _ => by kernel_rfl) ?_
        refine T.pure (.int .u16 (band .u16 x3 32768)) (by kernel_rfl) (fun _ => by kernel_rfl) ?_
        refine T.pure (.bool ((band .u16 x3 32768) != 0)) (by kernel_rfl) (fun _ => by kernel_rfl) ?_
        refine T.nil ?_
        refine T.cond ((band .u16 x3 32768) != 0) (by kernel_rfl) (by kernel_rfl) (fun hc3 => ?_) (fun hc3 => ?_)
        ·
         rw [hc3, cond_true] at hX1
         refine T.region ?_
         refine T.pure (.int .u16 x3) (by kernel_rfl) (fun _ => by kernel_rfl) ?_
         refine T.pure (.int .u16 (shl .u16 x3 1)) (by kernel_rfl) (fun _ => by kernel_rfl) ?_
         refine T.pure (.int .u16 (bxor .u16 (shl .u16 x3 1) 4129)) (by kernel_rfl) (fun _ => by kernel_rfl) ?_
         refine T.pure (.int .u16 (bxor .u16 (shl .u16 x3 1) 4129)) (by kernel_rfl) (fun _ => by kernel_rfl) ?_
         refine T.nil ?_
         cases hX1
         exact fun a w' hf hh => And.intro ((((((Fr.nil hf).pick hf 17 rfl).pick hf 7 rfl).pick hf 6 rfl).pick hf 3 rfl).pick hf 0 rfl) (hh.sub List.Sublist.slnil)
        ·
         rw [hc3, cond_false] at hX1
         refine T.region ?_
         refine T.pure (.int .u16 x3) (by kernel_rfl) (fun _ => by kernel_rfl) ?_
         refine T.pure (.int .u16 (shl .u16 x3 1)) (by kernel_rfl) (fun _ => by kernel_rfl) ?_
         refine T.pure (.int .u16 (shl .u16 x3 1)) (by kernel_rfl) (fun _ => by kernel_rfl) ?_
         refine T.nil ?_
         cases hX1
         exact fun a w' hf hh => And.intro ((((((Fr.nil hf).pick hf 17 rfl).pick hf 7 rfl).pick hf 6 rfl).pick hf 3 rfl).pick hf 0 rfl) (hh.sub List.Sublist.slnil)
       ·
        rintro a w' ⟨hf, hh⟩
        refine (?_ : T 31 w (vw w) [] [(0, .string p0), (3, .int .u16 z3), (6, .int .i64 (p0.size : Int)), (7, .int .i64 x2), (17, .int .i64 x4)] _) a w' hf hh
        clear hf hh
        refine T.region ?_
        refine T.pure (.int .i64 (IntKind.i64.wrap (x4 + 1))) (by kernel_rfl) (fun _ => by kernel_rfl) ?_
        refine T.pure (.int .i64 (IntKind.i64.wrap (x4 + 1))) (by kernel_rfl) (fun _ => by kernel_rfl) ?_
        refine T.nil ?_
        cases hY2
        exact fun a w' hf hh => Exists.intro (z3, IntKind.i64.wrap (x4 + 1)) (And.intro rfl (Exists.intro z3 (Exists.intro (IntKind.i64.wrap (x4 + 1)) (And.intro rfl (And.intro ((((((Fr.nil hf).pick hf 17 rfl).pick hf 7 rfl).pick hf 6 rfl).pick hf 3 rfl).pick hf 0 rfl) (hh.sub List.Sublist.slnil))))))
      ·
       rw [hc2, cond_false] at hY2
       refine T.exit ?_
       cases hY2
       cases (hr2 _ rfl)
       exact fun a w' hf hh => And.intro (((((Fr.nil hf).pick hf 7 rfl).pick hf 6 rfl).pick hf 3 rfl).pick hf 0 rfl) (hh.sub List.Sublist.slnil)
    ·
     rintro a w' ⟨hf, hh⟩
     refine (?_ : T 31 w (vw w) [] [(0, .string p0), (3, .int .u16 z2), (6, .int .i64 (p0.size : Int)), (7, .int .i64 x2)] _) a w' hf hh
     clear hf hh
     refine T.region ?_
     refine T.pure (.int .i64 (IntKind.i64.wrap (x2 + 1))) (by kernel_rfl) (fun _ => by kernel_rfl) ?_
     refine T.pure (.int .i64 (IntKind.i64.wrap (x2 + 1))) (by kernel_rfl) (fun _ => by kernel_rfl) ?_
     refine T.nil ?_
     cases hY1
     exact fun a w' hf hh => Exists.intro (z2, IntKind.i64.wrap (x2 + 1)) (And.intro rfl (Exists.intro z2 (Exists.intro (IntKind.i64.wrap (x2 + 1)) (And.intro rfl (And.intro (((((Fr.nil hf).pick hf 7 rfl).pick hf 6 rfl).pick hf 3 rfl).pick hf 0 rfl) (hh.sub List.Sublist.slnil))))))
   ·
    rw [hc1, cond_false] at hY1
    refine T.exit ?_
    cases hY1
    cases (hr1 _ rfl)
    exact fun a w' hf hh => And.intro ((Fr.nil hf).pick hf 3 rfl) (hh.sub List.Sublist.slnil)
 ·
  rintro a w' ⟨hf, hh⟩
  refine (?_ : T 31 w (vw w) [] [(3, .int .u16 z1)] _) a w' hf hh
  clear hf hh
  refine T.seq ?_
  refine T.region ?_
  refine T.pure (.int .u16 z1) (by kernel_rfl) (fun _ => by kernel_rfl) ?_
  refine T.pure (.int .i64 (IntKind.i64.wrap z1)) (by kernel_rfl) (fun _ => by kernel_rfl) ?_
  refine T.pure (.int .i64 (IntKind.i64.wrap z1)) (by kernel_rfl) (fun _ => by kernel_rfl) ?_
  refine T.nil ?_
  cases hF
  refine T.ret rfl ?_
  exact T.ret1 rfl (ResIs.tmp rfl) fun w' hh => ⟨_, rfl, hh.below, (show _ from rfl)⟩

set_option maxRecDepth 100000 in
set_option maxHeartbeats 4000000 in
theorem annalkeep_Within_l (p0 : Int) (p1 : Int) (r : Int) (hF : annalkeep_Within p0 p1 = some r) (w : World)  :
    Calls Tryd.prog 17 #[.int .i64 p0, .int .i64 p1] w (Post (vSc eInt) r w) := by
 unfold annalkeep_Within at hF
 refine T.start (l := [.int .i64 p0, .int .i64 p1]) Tryd.func17 rfl rfl rfl ?_
 refine T.seq ?_
 refine T.region ?_
 refine T.pure (.int .i64 0) (by kernel_rfl) (fun _ => by kernel_rfl) ?_
 refine T.nil ?_
 refine T.seq ?_
 refine T.region ?_
 refine T.pure (.int .i64 p0) (by kernel_rfl) (fun _ => by kernel_rfl) ?_
 refine T.pure (.int .u64 (IntKind.u64.wrap p0)) (by kernel_rfl) (fun _ => by kernel_rfl) ?_
 refine T.pure (.int .i64 p1) (by kernel_rfl) (fun _ => by kernel_rfl) ?_
 refine T.pure (.int .u64 (IntKind.u64.wrap p1)) (by kernel_rfl) (fun _ => by kernel_rfl) ?_
 obtain ⟨d1, hb1, hF⟩ := Option.bind_eq_some_iff.1 hF
 refine T.look (.int .u64 ((IntKind.u64.wrap p0).tmod d1)) (by kernel_rfl) (fun w' hh => exec_rem rfl rfl rfl hb1) ?_
 refine T.pure (.int .i64 (IntKind.i64.wrap ((IntKind.u64.wrap p0).tmod d1))) (by kernel_rfl) (fun _ => by kernel_rfl) ?_
 refine T.pure (.int .i64 (IntKind.i64.wrap ((IntKind.u64.wrap p0).tmod d1))) (by kernel_rfl) (fun _ => by kernel_rfl) ?_
 refine T.nil ?_
 cases hF
 refine T.ret rfl ?_
 exact T.ret1 rfl (ResIs.tmp rfl) fun w' hh => ⟨_, rfl, hh.below, (show _ from rfl)⟩

end Go.Proofs.YtaccejbajgmdnaaDoor
