/- The Go functions of group Ref compute the pure functions of that group: written by walkgen.py. Condition of each: the pure function yields a result. -/
import Derived.Test.YtdggcklddjndmaaFeedLJ
import Derived.Test.YtdggcklddjndmaaClearJ
import Derived.Test.YtdggcklddjndmaaRefFJ
import Derived.Test.YtdggcklddjndmaaEqLJ
namespace Go.Proofs.Ytdggcklddjndmaa
set_option linter.unusedVariables false
set_option maxRecDepth 100000 in
set_option maxHeartbeats 4000000 in
theorem annalref_between_l (p0 : Int) (p1 : Int) (r : Bool) (hF : annalref_between p0 p1 = some r) (w : World)  :
 Calls Try.prog 42 #[.int .i64 p0, .int .i64 p1] w (Post (vSc eBool) r w) := by
 unfold annalref_between at hF
 refine T.start (l := [.int .i64 p0, .int .i64 p1]) Try.func42 rfl rfl rfl ?_
 refine T.seq ?_
 refine T.region ?_
 refine T.pure (.bool false) (by kernel_rfl) (fun _ => by kernel_rfl) ?_
 refine T.nil ?_
 refine T.cut (fun a w' => Fr 12 [(4, .bool ((decide ((0 : Int) ≤ p0)) && (decide (p0 ≤ p1))))] a ∧ Hp w (vw w) [] w') ?_ ?_
 ·
  refine T.region ?_
  refine T.pure (.int .i64 p0) (by kernel_rfl) (fun _ => by kernel_rfl) ?_
  refine T.pure (.bool (decide ((0 : Int) ≤ p0))) (by kernel_rfl) (fun _ => by kernel_rfl) ?_
  refine T.pure (.bool (decide ((0 : Int) ≤ p0))) (by kernel_rfl) (fun _ => by kernel_rfl) ?_
  cases hg1 : decide ((0 : Int) ≤ p0)
  ·
   skip
   refine T.pass (by kernel_rfl) (by kernel_rfl) ?_
   refine T.pass (by kernel_rfl) (by kernel_rfl) ?_
   refine T.pass (by kernel_rfl) (by kernel_rfl) ?_
   refine T.pure (.bool false) (by kernel_rfl) (fun _ => by kernel_rfl) ?_
   refine T.pure (.bool false) (by kernel_rfl) (fun _ => by kernel_rfl) ?_
   refine T.nil ?_
   exact fun a w' hf hh => And.intro ((Fr.nil hf).pick hf 4 rfl) (hh.sub List.Sublist.slnil)
  ·
   skip
   refine T.pure (.int .i64 p0) (by kernel_rfl) (fun _ => by kernel_rfl) ?_
   refine T.pure (.int .i64 p1) (by kernel_rfl) (fun _ => by kernel_rfl) ?_
   refine T.pure (.bool (decide (p0 ≤ p1))) (by kernel_rfl) (fun _ => by kernel_rfl) ?_
   refine T.pure (.bool (decide (p0 ≤ p1))) (by kernel_rfl) (fun _ => by kernel_rfl) ?_
   refine T.pure (.bool (decide (p0 ≤ p1))) (by kernel_rfl) (fun _ => by kernel_rfl) ?_
   refine T.nil ?_
   exact fun a w' hf hh => And.intro ((Fr.nil hf).pick hf 4 rfl) (hh.sub List.Sublist.slnil)
 ·
  rintro a w' ⟨hf, hh⟩
  refine (?_ : T 12 w (vw w) [] [(4, .bool ((decide ((0 : Int) ≤ p0)) && (decide (p0 ≤ p1))))] _) a w' hf hh
  clear hf hh
  cases hF
  refine T.ret rfl ?_
  exact T.ret1 rfl (ResIs.tmp rfl) fun w' hh => ⟨_, rfl, hh.below, (show _ from rfl)⟩
set_option maxRecDepth 100000 in
set_option maxHeartbeats 4000000 in
theorem annalref_Key_l (p0 : DKey) (r : Int) (hF : annalref_Key p0 = some r) (w : World)  :
 Calls Try.prog 58 #[.agg #[.int .i64 p0.pfs, .int .i64 p0.obj, .int .i64 p0.off]] w (Post (vSc eInt) r w) := by
 unfold annalref_Key at hF
 refine T.start (l := [.agg #[.int .i64 p0.pfs, .int .i64 p0.obj, .int .i64 p0.off]]) Try.func58 rfl rfl rfl ?_
 refine T.seq ?_
 refine T.region ?_
 refine T.step (W1.new 27 [.int .i64 p0.pfs, .int .i64 p0.obj, .int .i64 p0.off] (fun b => .pointer (some ⟨b, 0, none⟩)) (by kernel_rfl) (fun _ => by kernel_rfl) (fun b1 => ?_))
 refine T.pure (.int .i64 0) (by kernel_rfl) (fun _ => by kernel_rfl) ?_
 refine T.nil ?_
 refine T.seq ?_
 obtain ⟨z1, hX1, hF⟩ := Option.bind_eq_some_iff.1 hF
 refine T.cut (fun a w' => ∃ (V1 : View), View.le (vw w) V1 ∧ Fr 16 [(15, .bool z1)] a ∧ Hp w V1 [] w') ?_ ?_
 ·
  refine T.region ?_
  refine T.pure (.pointer (some ⟨b1, 0, none⟩)) (by kernel_rfl) (fun _ => by kernel_rfl) ?_
  refine T.look (.int .i64 p0.pfs) (by kernel_rfl) (fun w' hh => exec_load1 rfl rfl (by kernel_rfl) (hh.cellBox (i := 0) (by rfl) 0)) ?_
  obtain ⟨r1, hb1, hX1⟩ := Option.bind_eq_some_iff.1 hX1
  refine T.step (W1.call (vSc eBool) r1 42 #[.int .i64 p0.pfs, .int .i64 15] (by kernel_rfl) (fun _ => by kernel_rfl) (fun w' hh => annalref_between_l p0.pfs 15 r1 hb1 w' ) ?_)
  intro u V2 hV2 hu
  obtain rfl := sureBool _ _ _ hu
  refine T.pure (.bool r1) (by kernel_rfl) (fun _ => by kernel_rfl) ?_
  cases hg1 : r1
  ·
   skip
   rw [hg1, cond_false] at hX1
   refine T.pass (by kernel_rfl) (by kernel_rfl) ?_
   refine T.pass (by kernel_rfl) (by kernel_rfl) ?_
   refine T.pass (by kernel_rfl) (by kernel_rfl) ?_
   refine T.pure (.bool false) (by kernel_rfl) (fun _ => by kernel_rfl) ?_
   refine T.pure (.bool false) (by kernel_rfl) (fun _ => by kernel_rfl) ?_
   refine T.pass (by kernel_rfl) (by kernel_rfl) ?_
   refine T.pass (by kernel_rfl) (by kernel_rfl) ?_
   refine T.pass (by kernel_rfl) (by kernel_rfl) ?_
   refine T.pure (.bool false) (by kernel_rfl) (fun _ => by kernel_rfl) ?_
   refine T.nil ?_
   cases hX1
   exact fun a w' hf hh => Exists.intro V2 (And.intro hV2 (And.intro ((Fr.nil hf).pick hf 15 rfl) (hh.sub (.cons _ List.Sublist.slnil))))
  ·
   skip
   rw [hg1, cond_true] at hX1
   refine T.pure (.pointer (some ⟨b1, 1, none⟩)) (by kernel_rfl) (fun _ => by kernel_rfl) ?_
   refine T.look (.int .i64 p0.obj) (by kernel_rfl) (fun w' hh => exec_load1 rfl rfl (by kernel_rfl) (hh.cellBox (i := 0) (by rfl) 1)) ?_
   obtain ⟨r2, hb2, hX1⟩ := Option.bind_eq_some_iff.1 hX1
   refine T.step (W1.call (vSc eBool) r2 42 #[.int .i64 p0.obj, .int .i64 1048576] (by kernel_rfl) (fun _ => by kernel_rfl) (fun w' hh => annalref_between_l p0.obj 1048576 r2 hb2 w' ) ?_)
   intro u V3 hV3 hu
   obtain rfl := sureBool _ _ _ hu
   refine T.pure (.bool r2) (by kernel_rfl) (fun _ => by kernel_rfl) ?_
   refine T.pure (.bool r2) (by kernel_rfl) (fun _ => by kernel_rfl) ?_
   cases hg2 : r2
   ·
    skip
    rw [hg2, cond_false] at hX1
    refine T.pass (by kernel_rfl) (by kernel_rfl) ?_
    refine T.pass (by kernel_rfl) (by kernel_rfl) ?_
    refine T.pass (by kernel_rfl) (by kernel_rfl) ?_
    refine T.pure (.bool false) (by kernel_rfl) (fun _ => by kernel_rfl) ?_
    refine T.nil ?_
    cases hX1
    exact fun a w' hf hh => Exists.intro V3 (And.intro (View.le_trans hV2 hV3) (And.intro ((Fr.nil hf).pick hf 15 rfl) (hh.sub (.cons _ List.Sublist.slnil))))
   ·
    skip
    rw [hg2, cond_true] at hX1
    refine T.pure (.pointer (some ⟨b1, 2, none⟩)) (by kernel_rfl) (fun _ => by kernel_rfl) ?_
    refine T.look (.int .i64 p0.off) (by kernel_rfl) (fun w' hh => exec_load1 rfl rfl (by kernel_rfl) (hh.cellBox (i := 0) (by rfl) 2)) ?_
    obtain ⟨r3, hb3, hX1⟩ := Option.bind_eq_some_iff.1 hX1
    refine T.step (W1.call (vSc eBool) r3 42 #[.int .i64 p0.off, .int .i64 1073741824] (by kernel_rfl) (fun _ => by kernel_rfl) (fun w' hh => annalref_between_l p0.off 1073741824 r3 hb3 w' ) ?_)
    intro u V4 hV4 hu
    obtain rfl := sureBool _ _ _ hu
    refine T.pure (.bool r3) (by kernel_rfl) (fun _ => by kernel_rfl) ?_
    refine T.nil ?_
    cases hX1
    exact fun a w' hf hh => Exists.intro V4 (And.intro (View.le_trans (View.le_trans hV2 hV3) hV4) (And.intro ((Fr.nil hf).pick hf 15 rfl) (hh.sub (.cons _ List.Sublist.slnil))))
 ·
  rintro a w' ⟨V1, hV1, hf, hh⟩
  refine (?_ : T 16 w V1 [] [(15, .bool z1)] _) a w' hf hh
  clear hf hh
  refine T.cond z1 (by kernel_rfl) (by kernel_rfl) (fun hc1 => ?_) (fun hc1 => ?_)
  ·
   rw [hc1, cond_true] at hF
   refine T.seq ?_
   refine T.region ?_
   refine T.pure (.int .i64 0) (by kernel_rfl) (fun _ => by kernel_rfl) ?_
   refine T.nil ?_
   cases hF
   refine T.ret rfl ?_
   exact T.ret1 rfl (ResIs.tmp rfl) fun w' hh => ⟨_, rfl, hh.below, (show _ from rfl)⟩
  ·
   rw [hc1, cond_false] at hF
   refine T.skip_code ?_
   refine T.seq ?_
   refine T.region ?_
   refine T.pure (.int .i64 1) (by kernel_rfl) (fun _ => by kernel_rfl) ?_
   refine T.nil ?_
   cases hF
   refine T.ret rfl ?_
   exact T.ret1 rfl (ResIs.tmp rfl) fun w' hh => ⟨_, rfl, hh.below, (show _ from rfl)⟩
set_option maxRecDepth 100000 in
set_option maxHeartbeats 4000000 in
theorem annalref_Ahead_l (p0 : DKey) (p1 : DKey) (r : Bool) (hF : annalref_Ahead p0 p1 = some r) (w : World)  :
 Calls Try.prog 59 #[.agg #[.int .i64 p0.pfs, .int .i64 p0.obj, .int .i64 p0.off], .agg #[.int .i64 p1.pfs, .int .i64 p1.obj, .int .i64 p1.off]] w (Post (vSc eBool) r w) := by
 unfold annalref_Ahead at hF
 refine T.start (l := [.agg #[.int .i64 p0.pfs, .int .i64 p0.obj, .int .i64 p0.off], .agg #[.int .i64 p1.pfs, .int .i64 p1.obj, .int .i64 p1.off]]) Try.func59 rfl rfl rfl ?_
 refine T.seq ?_
 refine T.region ?_
 refine T.step (W1.new 27 [.int .i64 p0.pfs, .int .i64 p0.obj, .int .i64 p0.off] (fun b => .pointer (some ⟨b, 0, none⟩)) (by kernel_rfl) (fun _ => by kernel_rfl) (fun b1 => ?_))
 refine T.step (W1.new 27 [.int .i64 p1.pfs, .int .i64 p1.obj, .int .i64 p1.off] (fun b => .pointer (some ⟨b, 0, none⟩)) (by kernel_rfl) (fun _ => by kernel_rfl) (fun b2 => ?_))
 refine T.pure (.bool false) (by kernel_rfl) (fun _ => by kernel_rfl) ?_
 refine T.nil ?_
 refine T.seq ?_
 refine T.seq ?_
 refine T.region ?_
 refine T.pure (.pointer (some ⟨b1, 0, none⟩)) (by kernel_rfl) (fun _ => by kernel_rfl) ?_
 refine T.look (.int .i64 p0.pfs) (by kernel_rfl) (fun w' hh => exec_load1 rfl rfl (by kernel_rfl) (hh.cellBox (i := 1) (by rfl) 0)) ?_
 refine T.pure (.pointer (some ⟨b2, 0, none⟩)) (by kernel_rfl) (fun _ => by kernel_rfl) ?_
 refine T.look (.int .i64 p1.pfs) (by kernel_rfl) (fun w' hh => exec_load1 rfl rfl (by kernel_rfl) (hh.cellBox (i := 0) (by rfl) 0)) ?_
 refine T.pure (.bool (p0.pfs != p1.pfs)) (by kernel_rfl) (fun _ => by kernel_rfl) ?_
 refine T.nil ?_
 refine T.cond (p0.pfs != p1.pfs) (by kernel_rfl) (by kernel_rfl) (fun hc1 => ?_) (fun hc1 => ?_)
 ·
  rw [hc1, cond_true] at hF
  refine T.seq ?_
  refine T.region ?_
  refine T.pure (.pointer (some ⟨b1, 0, none⟩)) (by kernel_rfl) (fun _ => by kernel_rfl) ?_
  refine T.look (.int .i64 p0.pfs) (by kernel_rfl) (fun w' hh => exec_load1 rfl rfl (by kernel_rfl) (hh.cellBox (i := 1) (by rfl) 0)) ?_
  refine T.pure (.pointer (some ⟨b2, 0, none⟩)) (by kernel_rfl) (fun _ => by kernel_rfl) ?_
  refine T.look (.int .i64 p1.pfs) (by kernel_rfl) (fun w' hh => exec_load1 rfl rfl (by kernel_rfl) (hh.cellBox (i := 0) (by rfl) 0)) ?_
  refine T.pure (.bool (decide (p0.pfs < p1.pfs))) (by kernel_rfl) (fun _ => by kernel_rfl) ?_
  refine T.pure (.bool (decide (p0.pfs < p1.pfs))) (by kernel_rfl) (fun _ => by kernel_rfl) ?_
  refine T.nil ?_
  cases hF
  refine T.ret rfl ?_
  exact T.ret1 rfl (ResIs.tmp rfl) fun w' hh => ⟨_, rfl, hh.below, (show _ from rfl)⟩
 ·
  rw [hc1, cond_false] at hF
  refine T.skip_code ?_
  refine T.seq ?_
  refine T.seq ?_
  refine T.region ?_
  refine T.pure (.pointer (some ⟨b1, 1, none⟩)) (by kernel_rfl) (fun _ => by kernel_rfl) ?_
  refine T.look (.int .i64 p0.obj) (by kernel_rfl) (fun w' hh => exec_load1 rfl rfl (by kernel_rfl) (hh.cellBox (i := 1) (by rfl) 1)) ?_
  refine T.pure (.pointer (some ⟨b2, 1, none⟩)) (by kernel_rfl) (fun _ => by kernel_rfl) ?_
  refine T.look (.int .i64 p1.obj) (by kernel_rfl) (fun w' hh => exec_load1 rfl rfl (by kernel_rfl) (hh.cellBox (i := 0) (by rfl) 1)) ?_
  refine T.pure (.bool (p0.obj != p1.obj)) (by kernel_rfl) (fun _ => by kernel_rfl) ?_
  refine T.nil ?_
  refine T.cond (p0.obj != p1.obj) (by kernel_rfl) (by kernel_rfl) (fun hc2 => ?_) (fun hc2 => ?_)
  ·
   rw [hc2, cond_true] at hF
   refine T.seq ?_
   refine T.region ?_
   refine T.pure (.pointer (some ⟨b1, 1, none⟩)) (by kernel_rfl) (fun _ => by kernel_rfl) ?_
   refine T.look (.int .i64 p0.obj) (by kernel_rfl) (fun w' hh => exec_load1 rfl rfl (by kernel_rfl) (hh.cellBox (i := 1) (by rfl) 1)) ?_
   refine T.pure (.pointer (some ⟨b2, 1, none⟩)) (by kernel_rfl) (fun _ => by kernel_rfl) ?_
   refine T.look (.int .i64 p1.obj) (by kernel_rfl) (fun w' hh => exec_load1 rfl rfl (by kernel_rfl) (hh.cellBox (i := 0) (by rfl) 1)) ?_
   refine T.pure (.bool (decide (p0.obj < p1.obj))) (by kernel_rfl) (fun _ => by kernel_rfl) ?_
   refine T.pure (.bool (decide (p0.obj < p1.obj))) (by kernel_rfl) (fun _ => by kernel_rfl) ?_
   refine T.nil ?_
   cases hF
   refine T.ret rfl ?_
   exact T.ret1 rfl (ResIs.tmp rfl) fun w' hh => ⟨_, rfl, hh.below, (show _ from rfl)⟩
  ·
   rw [hc2, cond_false] at hF
   refine T.skip_code ?_
   refine T.seq ?_
   refine T.region ?_
   refine T.pure (.pointer (some ⟨b1, 2, none⟩)) (by kernel_rfl) (fun _ => by kernel_rfl) ?_
   refine T.look (.int .i64 p0.off) (by kernel_rfl) (fun w' hh => exec_load1 rfl rfl (by kernel_rfl) (hh.cellBox (i := 1) (by rfl) 2)) ?_
   refine T.pure (.pointer (some ⟨b2, 2, none⟩)) (by kernel_rfl) (fun _ => by kernel_rfl) ?_
   refine T.look (.int .i64 p1.off) (by kernel_rfl) (fun w' hh => exec_load1 rfl rfl (by kernel_rfl) (hh.cellBox (i := 0) (by rfl) 2)) ?_
   refine T.pure (.bool (decide (p0.off < p1.off))) (by kernel_rfl) (fun _ => by kernel_rfl) ?_
   refine T.pure (.bool (decide (p0.off < p1.off))) (by kernel_rfl) (fun _ => by kernel_rfl) ?_
   refine T.nil ?_
   cases hF
   refine T.ret rfl ?_
   exact T.ret1 rfl (ResIs.tmp rfl) fun w' hh => ⟨_, rfl, hh.below, (show _ from rfl)⟩
set_option maxRecDepth 100000 in
set_option maxHeartbeats 4000000 in
theorem annalref_Big_l (F : Nat) (p0 : ByteArray) (r : Int) (hF : annalref_Big F p0 = some r) (w : World)  :
 Calls Try.prog 23 #[.string p0] w (Post (vSc eInt) r w) := by
 unfold annalref_Big at hF
 refine T.start (l := [.string p0]) Try.func23 rfl rfl rfl ?_
 refine T.seq ?_
 refine T.region ?_
 refine T.pure (.int .i64 0) (by kernel_rfl) (fun _ => by kernel_rfl) ?_
 refine T.nil ?_
 refine T.seq ?_
 refine T.region ?_
 refine T.pure (.int .i64 0) (by kernel_rfl) (fun _ => by kernel_rfl) ?_
 refine T.nil ?_
 refine T.seq ?_
 refine T.seq ?_
 refine T.region ?_
 refine T.pure (.string p0) (by kernel_rfl) (fun _ => by kernel_rfl) ?_
 refine T.pure (.int .i64 (p0.size : Int)) (by kernel_rfl) (fun _ => by kernel_rfl) ?_
 refine T.pure (.int .i64 0) (by kernel_rfl) (fun _ => by kernel_rfl) ?_
 refine T.nil ?_
 obtain ⟨z1, hz1, hF⟩ := Option.bind_eq_some_iff.1 hF
 refine T.mid (fun a w' => Fr 19 [(3, .int .i64 z1)] a ∧ Hp w (vw w) [] w') ?_ ?_
 ·
  refine T.block ?_
  refine T.iter (fun s1 a w' => ∃ (x1 : Int) (x2 : Int), s1 = (x1, x2) ∧ Fr 19 [(0, .string p0), (3, .int .i64 x1), (6, .int .i64 (p0.size : Int)), (7, .int .i64 x2)] a ∧ Hp w (vw w) [] w') hz1 ?_ ?_
  ·
   exact fun a w' hf hh => Exists.intro 0 (Exists.intro 0 (And.intro rfl (And.intro (((((Fr.nil hf).pick hf 7 rfl).pick hf 6 rfl).pick hf 3 rfl).pick hf 0 rfl) (hh.sub List.Sublist.slnil))))
  ·
   rintro s1 y1 hY1 hr1 a w' ⟨x1, x2, rfl, hf, hh⟩
   refine (?_ : T 19 w (vw w) [] [(0, .string p0), (3, .int .i64 x1), (6, .int .i64 (p0.size : Int)), (7, .int .i64 x2)] _) a w' hf hh
   clear hf hh
   try dsimp only at hY1
   refine T.seq ?_
   refine T.region ?_
   refine T.pure (.bool (decide (x2 < (p0.size : Int)))) (by kernel_rfl) (fun _ => by kernel_rfl) ?_
   refine T.nil ?_
   refine T.seq ?_
   refine T.cond (decide (x2 < (p0.size : Int))) (by kernel_rfl) (by kernel_rfl) (fun hc1 => ?_) (fun hc1 => ?_)
   ·
    rw [hc1, cond_true] at hY1
    refine T.skip_code ?_
    refine T.seq ?_
    refine T.block ?_
    refine T.seq ?_
    refine T.region ?_
    refine T.pure (.int .i64 x2) (by kernel_rfl) (fun _ => by kernel_rfl) ?_
    refine T.pure (.int .i64 x2) (by kernel_rfl) (fun _ => by kernel_rfl) ?_
    refine T.nil ?_
    refine T.region ?_
    refine T.pure (.int .i64 x1) (by kernel_rfl) (fun _ => by kernel_rfl) ?_
    refine T.pure (.int .i64 (IntKind.i64.wrap (256 * x1))) (by kernel_rfl) (fun _ => by kernel_rfl) ?_
    refine T.pure (.string p0) (by kernel_rfl) (fun _ => by kernel_rfl) ?_
    refine T.pure (.int .i64 x2) (by kernel_rfl) (fun _ => by kernel_rfl) ?_
    obtain ⟨b1, hb1, hY1⟩ := Option.bind_eq_some_iff.1 hY1
    refine T.look (.int .u8 (b1.toNat : Int)) (by kernel_rfl) (fun w' hh => exec_index_str rfl rfl rfl (by kernel_rfl) hb1) ?_
    refine T.pure (.int .i64 (IntKind.i64.wrap (b1.toNat : Int))) (by kernel_rfl) (fun _ => by kernel_rfl) ?_
    refine T.pure (.int .i64 (IntKind.i64.wrap ((IntKind.i64.wrap (256 * x1)) + (IntKind.i64.wrap (b1.toNat : Int))))) (by kernel_rfl) (fun _ => by kernel_rfl) ?_
    refine T.pure (.int .i64 (IntKind.i64.wrap ((IntKind.i64.wrap (256 * x1)) + (IntKind.i64.wrap (b1.toNat : Int))))) (by kernel_rfl) (fun _ => by kernel_rfl) ?_
    refine T.nil ?_
    refine T.region ?_
    refine T.pure (.int .i64 (IntKind.i64.wrap (x2 + 1))) (by kernel_rfl) (fun _ => by kernel_rfl) ?_
    refine T.pure (.int .i64 (IntKind.i64.wrap (x2 + 1))) (by kernel_rfl) (fun _ => by kernel_rfl) ?_
    refine T.nil ?_
    cases hY1
    exact fun a w' hf hh => Exists.intro (IntKind.i64.wrap ((IntKind.i64.wrap (256 * x1)) + (IntKind.i64.wrap (b1.toNat : Int))), IntKind.i64.wrap (x2 + 1)) (And.intro rfl (Exists.intro (IntKind.i64.wrap ((IntKind.i64.wrap (256 * x1)) + (IntKind.i64.wrap (b1.toNat : Int)))) (Exists.intro (IntKind.i64.wrap (x2 + 1)) (And.intro rfl (And.intro (((((Fr.nil hf).pick hf 7 rfl).pick hf 6 rfl).pick hf 3 rfl).pick hf 0 rfl) (hh.sub List.Sublist.slnil))))))
   ·
    rw [hc1, cond_false] at hY1
    refine T.exit ?_
    cases hY1
    cases (hr1 _ rfl)
    exact fun a w' hf hh => And.intro ((Fr.nil hf).pick hf 3 rfl) (hh.sub List.Sublist.slnil)
 ·
  rintro a w' ⟨hf, hh⟩
  refine (?_ : T 19 w (vw w) [] [(3, .int .i64 z1)] _) a w' hf hh
  clear hf hh
  refine T.seq ?_
  refine T.region ?_
  refine T.pure (.int .i64 z1) (by kernel_rfl) (fun _ => by kernel_rfl) ?_
  refine T.pure (.int .i64 z1) (by kernel_rfl) (fun _ => by kernel_rfl) ?_
  refine T.nil ?_
  cases hF
  refine T.ret rfl ?_
  exact T.ret1 rfl (ResIs.tmp rfl) fun w' hh => ⟨_, rfl, hh.below, (show _ from rfl)⟩
set_option maxRecDepth 100000 in
set_option maxHeartbeats 4000000 in
theorem annalref_Elem_l (p0 : DElem) (r : Int) (hF : annalref_Elem p0 = some r) (w : World)  :
 Calls Try.prog 43 #[.agg #[.int .i64 p0.key.pfs, .int .i64 p0.key.obj, .int .i64 p0.key.off, .int .i64 p0.made, .int .i64 p0.gone, .string p0.val]] w (Post (vSc eInt) r w) := by
 unfold annalref_Elem at hF
 refine T.start (l := [.agg #[.int .i64 p0.key.pfs, .int .i64 p0.key.obj, .int .i64 p0.key.off, .int .i64 p0.made, .int .i64 p0.gone, .string p0.val]]) Try.func43 rfl rfl rfl ?_
 refine T.seq ?_
 refine T.region ?_
 refine T.step (W1.new 37 [.int .i64 p0.key.pfs, .int .i64 p0.key.obj, .int .i64 p0.key.off, .int .i64 p0.made, .int .i64 p0.gone, .string p0.val] (fun b => .pointer (some ⟨b, 0, none⟩)) (by kernel_rfl) (fun _ => by kernel_rfl) (fun b1 => ?_))
 refine T.pure (.int .i64 0) (by kernel_rfl) (fun _ => by kernel_rfl) ?_
 refine T.nil ?_
 refine T.seq ?_
 refine T.seq ?_
 refine T.region ?_
 refine T.pure (.pointer (some ⟨b1, 0, none⟩)) (by kernel_rfl) (fun _ => by kernel_rfl) ?_
 refine T.look (.agg #[.int .i64 p0.key.pfs, .int .i64 p0.key.obj, .int .i64 p0.key.off]) (by kernel_rfl) (fun w' hh => exec_loadN (cs := [.int .i64 p0.key.pfs, .int .i64 p0.key.obj, .int .i64 p0.key.off]) rfl rfl (by kernel_rfl) (by kernel_rfl) (fun j u hj => (hh.box_at (i := 0) (cs := [.int .i64 p0.key.pfs, .int .i64 p0.key.obj, .int .i64 p0.key.off, .int .i64 p0.made, .int .i64 p0.gone, .string p0.val]) (by rfl) 0 j).trans (seg_at (n := 3) (by rfl) hj))) ?_
 obtain ⟨r1, hb1, hF⟩ := Option.bind_eq_some_iff.1 hF
 refine T.step (W1.call (vSc eInt) r1 58 #[.agg #[.int .i64 p0.key.pfs, .int .i64 p0.key.obj, .int .i64 p0.key.off]] (by kernel_rfl) (fun _ => by kernel_rfl) (fun w' hh => annalref_Key_l p0.key r1 hb1 w' ) ?_)
 intro u V1 hV1 hu
 obtain rfl := sureInt _ _ _ hu
 refine T.pure (.int .i64 r1) (by kernel_rfl) (fun _ => by kernel_rfl) ?_
 refine T.nil ?_
 refine T.seq ?_
 refine T.region ?_
 refine T.pure (.int .i64 r1) (by kernel_rfl) (fun _ => by kernel_rfl) ?_
 refine T.pure (.bool (r1 != 0)) (by kernel_rfl) (fun _ => by kernel_rfl) ?_
 refine T.nil ?_
 refine T.cond (r1 != 0) (by kernel_rfl) (by kernel_rfl) (fun hc1 => ?_) (fun hc1 => ?_)
 ·
  rw [hc1, cond_true] at hF
  refine T.seq ?_
  refine T.region ?_
  refine T.pure (.int .i64 r1) (by kernel_rfl) (fun _ => by kernel_rfl) ?_
  refine T.pure (.int .i64 r1) (by kernel_rfl) (fun _ => by kernel_rfl) ?_
  refine T.nil ?_
  cases hF
  refine T.ret rfl ?_
  exact T.ret1 rfl (ResIs.tmp rfl) fun w' hh => ⟨_, rfl, hh.below, (show _ from rfl)⟩
 ·
  rw [hc1, cond_false] at hF
  refine T.skip_code ?_
  refine T.seq ?_
  refine T.cut (fun a w' => Fr 38 [(1, .pointer (some ⟨b1, 0, none⟩)), (17, .bool ((decide (p0.made < 1)) || (decide ((2147483647 : Int) < p0.made))))] a ∧ Hp w V1 [box b1 37 [.int .i64 p0.key.pfs, .int .i64 p0.key.obj, .int .i64 p0.key.off, .int .i64 p0.made, .int .i64 p0.gone, .string p0.val]] w') ?_ ?_
  ·
   refine T.region ?_
   refine T.pure (.pointer (some ⟨b1, 3, none⟩)) (by kernel_rfl) (fun _ => by kernel_rfl) ?_
   refine T.look (.int .i64 p0.made) (by kernel_rfl) (fun w' hh => exec_load1 rfl rfl (by kernel_rfl) (hh.cellBox (i := 0) (by rfl) 3)) ?_
   refine T.pure (.bool (decide (p0.made < 1))) (by kernel_rfl) (fun _ => by kernel_rfl) ?_
   refine T.pure (.bool (decide (p0.made < 1))) (by kernel_rfl) (fun _ => by kernel_rfl) ?_
   cases hg1 : decide (p0.made < 1)
   ·
    skip
    refine T.pure (.pointer (some ⟨b1, 3, none⟩)) (by kernel_rfl) (fun _ => by kernel_rfl) ?_
    refine T.look (.int .i64 p0.made) (by kernel_rfl) (fun w' hh => exec_load1 rfl rfl (by kernel_rfl) (hh.cellBox (i := 0) (by rfl) 3)) ?_
    refine T.pure (.bool (decide ((2147483647 : Int) < p0.made))) (by kernel_rfl) (fun _ => by kernel_rfl) ?_
    refine T.pure (.bool (decide ((2147483647 : Int) < p0.made))) (by kernel_rfl) (fun _ => by kernel_rfl) ?_
    refine T.nil ?_
    exact fun a w' hf hh => And.intro (((Fr.nil hf).pick hf 17 rfl).pick hf 1 rfl) (hh.sub (.cons_cons _ List.Sublist.slnil))
   ·
    skip
    refine T.pass (by kernel_rfl) (by kernel_rfl) ?_
    refine T.pass (by kernel_rfl) (by kernel_rfl) ?_
    refine T.pass (by kernel_rfl) (by kernel_rfl) ?_
    refine T.pure (.bool true) (by kernel_rfl) (fun _ => by kernel_rfl) ?_
    refine T.nil ?_
    exact fun a w' hf hh => And.intro (((Fr.nil hf).pick hf 17 rfl).pick hf 1 rfl) (hh.sub (.cons_cons _ List.Sublist.slnil))
  ·
   rintro a w' ⟨hf, hh⟩
   refine (?_ : T 38 w V1 [box b1 37 [.int .i64 p0.key.pfs, .int .i64 p0.key.obj, .int .i64 p0.key.off, .int .i64 p0.made, .int .i64 p0.gone, .string p0.val]] [(1, .pointer (some ⟨b1, 0, none⟩)), (17, .bool ((decide (p0.made < 1)) || (decide ((2147483647 : Int) < p0.made))))] _) a w' hf hh
   clear hf hh
   refine T.cond ((decide (p0.made < 1)) || (decide ((2147483647 : Int) < p0.made))) (by kernel_rfl) (by kernel_rfl) (fun hc2 => ?_) (fun hc2 => ?_)
   ·
    rw [hc2, cond_true] at hF
    refine T.seq ?_
    refine T.region ?_
    refine T.pure (.int .i64 9) (by kernel_rfl) (fun _ => by kernel_rfl) ?_
    refine T.nil ?_
    cases hF
    refine T.ret rfl ?_
    exact T.ret1 rfl (ResIs.tmp rfl) fun w' hh => ⟨_, rfl, hh.below, (show _ from rfl)⟩
   ·
    rw [hc2, cond_false] at hF
    refine T.skip_code ?_
    refine T.seq ?_
    refine T.cut (fun a w' => Fr 38 [(1, .pointer (some ⟨b1, 0, none⟩)), (33, .bool ((p0.gone != 0) && ((decide (p0.gone < (IntKind.i64.wrap (p0.made + 1)))) || (decide ((2147483647 : Int) < p0.gone)))))] a ∧ Hp w V1 [box b1 37 [.int .i64 p0.key.pfs, .int .i64 p0.key.obj, .int .i64 p0.key.off, .int .i64 p0.made, .int .i64 p0.gone, .string p0.val]] w') ?_ ?_
    ·
     refine T.region ?_
     refine T.pure (.pointer (some ⟨b1, 4, none⟩)) (by kernel_rfl) (fun _ => by kernel_rfl) ?_
     refine T.look (.int .i64 p0.gone) (by kernel_rfl) (fun w' hh => exec_load1 rfl rfl (by kernel_rfl) (hh.cellBox (i := 0) (by rfl) 4)) ?_
     refine T.pure (.bool (p0.gone != 0)) (by kernel_rfl) (fun _ => by kernel_rfl) ?_
     refine T.pure (.bool (p0.gone != 0)) (by kernel_rfl) (fun _ => by kernel_rfl) ?_
     cases hg2 : (p0.gone != 0)
     ·
      skip
      refine T.pass (by kernel_rfl) (by kernel_rfl) ?_
      refine T.pass (by kernel_rfl) (by kernel_rfl) ?_
      refine T.pass (by kernel_rfl) (by kernel_rfl) ?_
      refine T.pass (by kernel_rfl) (by kernel_rfl) ?_
      refine T.pass (by kernel_rfl) (by kernel_rfl) ?_
      refine T.pass (by kernel_rfl) (by kernel_rfl) ?_
      refine T.pass (by kernel_rfl) (by kernel_rfl) ?_
      refine T.pass (by kernel_rfl) (by kernel_rfl) ?_
      refine T.pass (by kernel_rfl) (by kernel_rfl) ?_
      refine T.pass (by kernel_rfl) (by kernel_rfl) ?_
      refine T.pass (by kernel_rfl) (by kernel_rfl) ?_
      refine T.pure (.bool false) (by kernel_rfl) (fun _ => by kernel_rfl) ?_
      refine T.nil ?_
      exact fun a w' hf hh => And.intro (((Fr.nil hf).pick hf 33 rfl).pick hf 1 rfl) (hh.sub (.cons_cons _ List.Sublist.slnil))
     ·
      skip
      refine T.pure (.pointer (some ⟨b1, 4, none⟩)) (by kernel_rfl) (fun _ => by kernel_rfl) ?_
      refine T.look (.int .i64 p0.gone) (by kernel_rfl) (fun w' hh => exec_load1 rfl rfl (by kernel_rfl) (hh.cellBox (i := 0) (by rfl) 4)) ?_
      refine T.pure (.pointer (some ⟨b1, 3, none⟩)) (by kernel_rfl) (fun _ => by kernel_rfl) ?_
      refine T.look (.int .i64 p0.made) (by kernel_rfl) (fun w' hh => exec_load1 rfl rfl (by kernel_rfl) (hh.cellBox (i := 0) (by rfl) 3)) ?_
      refine T.pure (.int .i64 (IntKind.i64.wrap (p0.made + 1))) (by kernel_rfl) (fun _ => by kernel_rfl) ?_
      refine T.pure (.bool (decide (p0.gone < (IntKind.i64.wrap (p0.made + 1))))) (by kernel_rfl) (fun _ => by kernel_rfl) ?_
      refine T.pure (.bool (decide (p0.gone < (IntKind.i64.wrap (p0.made + 1))))) (by kernel_rfl) (fun _ => by kernel_rfl) ?_
      cases hg3 : decide (p0.gone < (IntKind.i64.wrap (p0.made + 1)))
      ·
       skip
       refine T.pure (.pointer (some ⟨b1, 4, none⟩)) (by kernel_rfl) (fun _ => by kernel_rfl) ?_
       refine T.look (.int .i64 p0.gone) (by kernel_rfl) (fun w' hh => exec_load1 rfl rfl (by kernel_rfl) (hh.cellBox (i := 0) (by rfl) 4)) ?_
       refine T.pure (.bool (decide ((2147483647 : Int) < p0.gone))) (by kernel_rfl) (fun _ => by kernel_rfl) ?_
       refine T.pure (.bool (decide ((2147483647 : Int) < p0.gone))) (by kernel_rfl) (fun _ => by kernel_rfl) ?_
       refine T.pure (.bool (decide ((2147483647 : Int) < p0.gone))) (by kernel_rfl) (fun _ => by kernel_rfl) ?_
       refine T.nil ?_
       exact fun a w' hf hh => And.intro (((Fr.nil hf).pick hf 33 rfl).pick hf 1 rfl) (hh.sub (.cons_cons _ List.Sublist.slnil))
      ·
       skip
       refine T.pass (by kernel_rfl) (by kernel_rfl) ?_
       refine T.pass (by kernel_rfl) (by kernel_rfl) ?_
       refine T.pass (by kernel_rfl) (by kernel_rfl) ?_
       refine T.pure (.bool true) (by kernel_rfl) (fun _ => by kernel_rfl) ?_
       refine T.pure (.bool true) (by kernel_rfl) (fun _ => by kernel_rfl) ?_
       refine T.nil ?_
       exact fun a w' hf hh => And.intro (((Fr.nil hf).pick hf 33 rfl).pick hf 1 rfl) (hh.sub (.cons_cons _ List.Sublist.slnil))
    ·
     rintro a w' ⟨hf, hh⟩
     refine (?_ : T 38 w V1 [box b1 37 [.int .i64 p0.key.pfs, .int .i64 p0.key.obj, .int .i64 p0.key.off, .int .i64 p0.made, .int .i64 p0.gone, .string p0.val]] [(1, .pointer (some ⟨b1, 0, none⟩)), (33, .bool ((p0.gone != 0) && ((decide (p0.gone < (IntKind.i64.wrap (p0.made + 1)))) || (decide ((2147483647 : Int) < p0.gone)))))] _) a w' hf hh
     clear hf hh
     refine T.cond ((p0.gone != 0) && ((decide (p0.gone < (IntKind.i64.wrap (p0.made + 1)))) || (decide ((2147483647 : Int) < p0.gone)))) (by kernel_rfl) (by kernel_rfl) (fun hc3 => ?_) (fun hc3 => ?_)
     ·
      rw [hc3, cond_true] at hF
      refine T.seq ?_
      refine T.region ?_
      refine T.pure (.int .i64 9) (by kernel_rfl) (fun _ => by kernel_rfl) ?_
      refine T.nil ?_
      cases hF
      refine T.ret rfl ?_
      exact T.ret1 rfl (ResIs.tmp rfl) fun w' hh => ⟨_, rfl, hh.below, (show _ from rfl)⟩
     ·
      rw [hc3, cond_false] at hF
      refine T.skip_code ?_
      refine T.seq ?_
      refine T.seq ?_
      refine T.region ?_
      refine T.pure (.pointer (some ⟨b1, 5, none⟩)) (by kernel_rfl) (fun _ => by kernel_rfl) ?_
      refine T.look (.string p0.val) (by kernel_rfl) (fun w' hh => exec_load1 rfl rfl (by kernel_rfl) (hh.cellBox (i := 0) (by rfl) 5)) ?_
      refine T.pure (.int .i64 (p0.val.size : Int)) (by kernel_rfl) (fun _ => by kernel_rfl) ?_
      refine T.pure (.bool (decide ((40 : Int) < (p0.val.size : Int)))) (by kernel_rfl) (fun _ => by kernel_rfl) ?_
      refine T.nil ?_
      refine T.cond (decide ((40 : Int) < (p0.val.size : Int))) (by kernel_rfl) (by kernel_rfl) (fun hc4 => ?_) (fun hc4 => ?_)
      ·
       rw [hc4, cond_true] at hF
       refine T.seq ?_
       refine T.region ?_
       refine T.pure (.int .i64 2) (by kernel_rfl) (fun _ => by kernel_rfl) ?_
       refine T.nil ?_
       cases hF
       refine T.ret rfl ?_
       exact T.ret1 rfl (ResIs.tmp rfl) fun w' hh => ⟨_, rfl, hh.below, (show _ from rfl)⟩
      ·
       rw [hc4, cond_false] at hF
       refine T.skip_code ?_
       refine T.seq ?_
       refine T.region ?_
       refine T.pure (.int .i64 0) (by kernel_rfl) (fun _ => by kernel_rfl) ?_
       refine T.nil ?_
       cases hF
       refine T.ret rfl ?_
       exact T.ret1 rfl (ResIs.tmp rfl) fun w' hh => ⟨_, rfl, hh.below, (show _ from rfl)⟩
set_option maxRecDepth 100000 in
set_option maxHeartbeats 4000000 in
theorem annalref_Spot_l (p0 : DElem) (r : DSpot) (hF : annalref_Spot p0 = some r) (w : World)  :
 Calls Try.prog 45 #[.agg #[.int .i64 p0.key.pfs, .int .i64 p0.key.obj, .int .i64 p0.key.off, .int .i64 p0.made, .int .i64 p0.gone, .string p0.val]] w (Post (vAg eSpot) r w) := by
 unfold annalref_Spot at hF
 refine T.start (l := [.agg #[.int .i64 p0.key.pfs, .int .i64 p0.key.obj, .int .i64 p0.key.off, .int .i64 p0.made, .int .i64 p0.gone, .string p0.val]]) Try.func45 rfl rfl rfl ?_
 refine T.seq ?_
 refine T.region ?_
 refine T.step (W1.new 37 [.int .i64 p0.key.pfs, .int .i64 p0.key.obj, .int .i64 p0.key.off, .int .i64 p0.made, .int .i64 p0.gone, .string p0.val] (fun b => .pointer (some ⟨b, 0, none⟩)) (by kernel_rfl) (fun _ => by kernel_rfl) (fun b1 => ?_))
 refine T.step (W1.new 74 [.int .i64 0, .int .i64 0, .int .i64 0, .int .i64 0] (fun b => .pointer (some ⟨b, 0, none⟩)) (by kernel_rfl) (fun _ => by kernel_rfl) (fun b2 => ?_))
 refine T.nil ?_
 refine T.seq ?_
 refine T.region ?_
 refine T.pure (.pointer (some ⟨b1, 0, none⟩)) (by kernel_rfl) (fun _ => by kernel_rfl) ?_
 refine T.look (.agg #[.int .i64 p0.key.pfs, .int .i64 p0.key.obj, .int .i64 p0.key.off]) (by kernel_rfl) (fun w' hh => exec_loadN (cs := [.int .i64 p0.key.pfs, .int .i64 p0.key.obj, .int .i64 p0.key.off]) rfl rfl (by kernel_rfl) (by kernel_rfl) (fun j u hj => (hh.box_at (i := 1) (cs := [.int .i64 p0.key.pfs, .int .i64 p0.key.obj, .int .i64 p0.key.off, .int .i64 p0.made, .int .i64 p0.gone, .string p0.val]) (by rfl) 0 j).trans (seg_at (n := 3) (by rfl) hj))) ?_
 refine T.pure (.pointer (some ⟨b1, 3, none⟩)) (by kernel_rfl) (fun _ => by kernel_rfl) ?_
 refine T.look (.int .i64 p0.made) (by kernel_rfl) (fun w' hh => exec_load1 rfl rfl (by kernel_rfl) (hh.cellBox (i := 1) (by rfl) 3)) ?_
 refine T.pure (.agg #[.int .i64 p0.key.pfs, .int .i64 p0.key.obj, .int .i64 p0.key.off, .int .i64 p0.made]) (by kernel_rfl) (fun _ => by kernel_rfl) ?_
 refine T.step (W1.store 0 [.int .i64 p0.key.pfs, .int .i64 p0.key.obj, .int .i64 p0.key.off, .int .i64 p0.made] [box b2 74 [.int .i64 p0.key.pfs, .int .i64 p0.key.obj, .int .i64 p0.key.off, .int .i64 p0.made], box b1 37 [.int .i64 p0.key.pfs, .int .i64 p0.key.obj, .int .i64 p0.key.off, .int .i64 p0.made, .int .i64 p0.gone, .string p0.val]] (by rfl) rfl (by kernel_rfl) (fun w' hw => exec_store (vs := [.int .i64 p0.key.pfs, .int .i64 p0.key.obj, .int .i64 p0.key.off, .int .i64 p0.made]) rfl rfl rfl rfl (by kernel_rfl) (one_of rfl) (by simp) rfl hw) ?_)
 refine T.nil ?_
 cases hF
 refine T.ret rfl ?_
 exact T.ret1 rfl (ResIs.cellN 0 rfl (by rfl) (fun _ => by kernel_rfl) (fun _ => by kernel_rfl)) fun w' hh => ⟨_, rfl, hh.below, (vAg.mk rfl)⟩
set_option maxRecDepth 100000 in
set_option maxHeartbeats 4000000 in
theorem annalref_Last_l (p0 : DElem) (r : Int) (hF : annalref_Last p0 = some r) (w : World)  :
 Calls Try.prog 26 #[.agg #[.int .i64 p0.key.pfs, .int .i64 p0.key.obj, .int .i64 p0.key.off, .int .i64 p0.made, .int .i64 p0.gone, .string p0.val]] w (Post (vSc eInt) r w) := by
 unfold annalref_Last at hF
 refine T.start (l := [.agg #[.int .i64 p0.key.pfs, .int .i64 p0.key.obj, .int .i64 p0.key.off, .int .i64 p0.made, .int .i64 p0.gone, .string p0.val]]) Try.func26 rfl rfl rfl ?_
 refine T.seq ?_
 refine T.region ?_
 refine T.step (W1.new 37 [.int .i64 p0.key.pfs, .int .i64 p0.key.obj, .int .i64 p0.key.off, .int .i64 p0.made, .int .i64 p0.gone, .string p0.val] (fun b => .pointer (some ⟨b, 0, none⟩)) (by kernel_rfl) (fun _ => by kernel_rfl) (fun b1 => ?_))
 refine T.pure (.int .i64 0) (by kernel_rfl) (fun _ => by kernel_rfl) ?_
 refine T.nil ?_
 refine T.seq ?_
 refine T.seq ?_
 refine T.region ?_
 refine T.pure (.pointer (some ⟨b1, 4, none⟩)) (by kernel_rfl) (fun _ => by kernel_rfl) ?_
 refine T.look (.int .i64 p0.gone) (by kernel_rfl) (fun w' hh => exec_load1 rfl rfl (by kernel_rfl) (hh.cellBox (i := 0) (by rfl) 4)) ?_
 refine T.pure (.pointer (some ⟨b1, 3, none⟩)) (by kernel_rfl) (fun _ => by kernel_rfl) ?_
 refine T.look (.int .i64 p0.made) (by kernel_rfl) (fun w' hh => exec_load1 rfl rfl (by kernel_rfl) (hh.cellBox (i := 0) (by rfl) 3)) ?_
 refine T.pure (.bool (decide (p0.made < p0.gone))) (by kernel_rfl) (fun _ => by kernel_rfl) ?_
 refine T.nil ?_
 refine T.cond (decide (p0.made < p0.gone)) (by kernel_rfl) (by kernel_rfl) (fun hc1 => ?_) (fun hc1 => ?_)
 ·
  rw [hc1, cond_true] at hF
  refine T.seq ?_
  refine T.region ?_
  refine T.pure (.pointer (some ⟨b1, 4, none⟩)) (by kernel_rfl) (fun _ => by kernel_rfl) ?_
  refine T.look (.int .i64 p0.gone) (by kernel_rfl) (fun w' hh => exec_load1 rfl rfl (by kernel_rfl) (hh.cellBox (i := 0) (by rfl) 4)) ?_
  refine T.pure (.int .i64 p0.gone) (by kernel_rfl) (fun _ => by kernel_rfl) ?_
  refine T.nil ?_
  cases hF
  refine T.ret rfl ?_
  exact T.ret1 rfl (ResIs.tmp rfl) fun w' hh => ⟨_, rfl, hh.below, (show _ from rfl)⟩
 ·
  rw [hc1, cond_false] at hF
  refine T.skip_code ?_
  refine T.seq ?_
  refine T.region ?_
  refine T.pure (.pointer (some ⟨b1, 3, none⟩)) (by kernel_rfl) (fun _ => by kernel_rfl) ?_
  refine T.look (.int .i64 p0.made) (by kernel_rfl) (fun w' hh => exec_load1 rfl rfl (by kernel_rfl) (hh.cellBox (i := 0) (by rfl) 3)) ?_
  refine T.pure (.int .i64 p0.made) (by kernel_rfl) (fun _ => by kernel_rfl) ?_
  refine T.nil ?_
  cases hF
  refine T.ret rfl ?_
  exact T.ret1 rfl (ResIs.tmp rfl) fun w' hh => ⟨_, rfl, hh.below, (show _ from rfl)⟩
set_option maxRecDepth 100000 in
set_option maxHeartbeats 4000000 in
theorem annalref_AheadSpot_l (p0 : DSpot) (p1 : DSpot) (r : Bool) (hF : annalref_AheadSpot p0 p1 = some r) (w : World)  :
 Calls Try.prog 44 #[.agg #[.int .i64 p0.key.pfs, .int .i64 p0.key.obj, .int .i64 p0.key.off, .int .i64 p0.made], .agg #[.int .i64 p1.key.pfs, .int .i64 p1.key.obj, .int .i64 p1.key.off, .int .i64 p1.made]] w (Post (vSc eBool) r w) := by
 unfold annalref_AheadSpot at hF
 refine T.start (l := [.agg #[.int .i64 p0.key.pfs, .int .i64 p0.key.obj, .int .i64 p0.key.off, .int .i64 p0.made], .agg #[.int .i64 p1.key.pfs, .int .i64 p1.key.obj, .int .i64 p1.key.off, .int .i64 p1.made]]) Try.func44 rfl rfl rfl ?_
 refine T.seq ?_
 refine T.region ?_
 refine T.step (W1.new 74 [.int .i64 p0.key.pfs, .int .i64 p0.key.obj, .int .i64 p0.key.off, .int .i64 p0.made] (fun b => .pointer (some ⟨b, 0, none⟩)) (by kernel_rfl) (fun _ => by kernel_rfl) (fun b1 => ?_))
 refine T.step (W1.new 74 [.int .i64 p1.key.pfs, .int .i64 p1.key.obj, .int .i64 p1.key.off, .int .i64 p1.made] (fun b => .pointer (some ⟨b, 0, none⟩)) (by kernel_rfl) (fun _ => by kernel_rfl) (fun b2 => ?_))
 refine T.pure (.bool false) (by kernel_rfl) (fun _ => by kernel_rfl) ?_
 refine T.nil ?_
 obtain ⟨z1, hX1, hF⟩ := Option.bind_eq_some_iff.1 hF
 refine T.cut (fun a w' => ∃ (V1 : View), View.le (vw w) V1 ∧ Fr 24 [(4, .bool z1)] a ∧ Hp w V1 [] w') ?_ ?_
 ·
  refine T.region ?_
  refine T.pure (.pointer (some ⟨b1, 0, none⟩)) (by kernel_rfl) (fun _ => by kernel_rfl) ?_
  refine T.look (.agg #[.int .i64 p0.key.pfs, .int .i64 p0.key.obj, .int .i64 p0.key.off]) (by kernel_rfl) (fun w' hh => exec_loadN (cs := [.int .i64 p0.key.pfs, .int .i64 p0.key.obj, .int .i64 p0.key.off]) rfl rfl (by kernel_rfl) (by kernel_rfl) (fun j u hj => (hh.box_at (i := 1) (cs := [.int .i64 p0.key.pfs, .int .i64 p0.key.obj, .int .i64 p0.key.off, .int .i64 p0.made]) (by rfl) 0 j).trans (seg_at (n := 3) (by rfl) hj))) ?_
  refine T.pure (.pointer (some ⟨b2, 0, none⟩)) (by kernel_rfl) (fun _ => by kernel_rfl) ?_
  refine T.look (.agg #[.int .i64 p1.key.pfs, .int .i64 p1.key.obj, .int .i64 p1.key.off]) (by kernel_rfl) (fun w' hh => exec_loadN (cs := [.int .i64 p1.key.pfs, .int .i64 p1.key.obj, .int .i64 p1.key.off]) rfl rfl (by kernel_rfl) (by kernel_rfl) (fun j u hj => (hh.box_at (i := 0) (cs := [.int .i64 p1.key.pfs, .int .i64 p1.key.obj, .int .i64 p1.key.off, .int .i64 p1.made]) (by rfl) 0 j).trans (seg_at (n := 3) (by rfl) hj))) ?_
  obtain ⟨r1, hb1, hX1⟩ := Option.bind_eq_some_iff.1 hX1
  refine T.step (W1.call (vSc eBool) r1 59 #[.agg #[.int .i64 p0.key.pfs, .int .i64 p0.key.obj, .int .i64 p0.key.off], .agg #[.int .i64 p1.key.pfs, .int .i64 p1.key.obj, .int .i64 p1.key.off]] (by kernel_rfl) (fun _ => by kernel_rfl) (fun w' hh => annalref_Ahead_l p0.key p1.key r1 hb1 w' ) ?_)
  intro u V2 hV2 hu
  obtain rfl := sureBool _ _ _ hu
  refine T.pure (.bool r1) (by kernel_rfl) (fun _ => by kernel_rfl) ?_
  cases hg1 : r1
  ·
   skip
   rw [hg1, cond_false] at hX1
   refine T.pure (.pointer (some ⟨b1, 0, none⟩)) (by kernel_rfl) (fun _ => by kernel_rfl) ?_
   refine T.look (.agg #[.int .i64 p0.key.pfs, .int .i64 p0.key.obj, .int .i64 p0.key.off]) (by kernel_rfl) (fun w' hh => exec_loadN (cs := [.int .i64 p0.key.pfs, .int .i64 p0.key.obj, .int .i64 p0.key.off]) rfl rfl (by kernel_rfl) (by kernel_rfl) (fun j u hj => (hh.box_at (i := 1) (cs := [.int .i64 p0.key.pfs, .int .i64 p0.key.obj, .int .i64 p0.key.off, .int .i64 p0.made]) (by rfl) 0 j).trans (seg_at (n := 3) (by rfl) hj))) ?_
   refine T.pure (.pointer (some ⟨b2, 0, none⟩)) (by kernel_rfl) (fun _ => by kernel_rfl) ?_
   refine T.look (.agg #[.int .i64 p1.key.pfs, .int .i64 p1.key.obj, .int .i64 p1.key.off]) (by kernel_rfl) (fun w' hh => exec_loadN (cs := [.int .i64 p1.key.pfs, .int .i64 p1.key.obj, .int .i64 p1.key.off]) rfl rfl (by kernel_rfl) (by kernel_rfl) (fun j u hj => (hh.box_at (i := 0) (cs := [.int .i64 p1.key.pfs, .int .i64 p1.key.obj, .int .i64 p1.key.off, .int .i64 p1.made]) (by rfl) 0 j).trans (seg_at (n := 3) (by rfl) hj))) ?_
   refine T.look (.bool (p0.key == p1.key)) (by kernel_rfl) (fun w' hh => exec_eql_DKey p0.key p1.key w' rfl rfl rfl) ?_
   refine T.pure (.bool (p0.key == p1.key)) (by kernel_rfl) (fun _ => by kernel_rfl) ?_
   cases hg2 : (p0.key == p1.key)
   ·
    skip
    rw [hg2, cond_false] at hX1
    refine T.pass (by kernel_rfl) (by kernel_rfl) ?_
    refine T.pass (by kernel_rfl) (by kernel_rfl) ?_
    refine T.pass (by kernel_rfl) (by kernel_rfl) ?_
    refine T.pass (by kernel_rfl) (by kernel_rfl) ?_
    refine T.pass (by kernel_rfl) (by kernel_rfl) ?_
    refine T.pure (.bool false) (by kernel_rfl) (fun _ => by kernel_rfl) ?_
    refine T.pure (.bool false) (by kernel_rfl) (fun _ => by kernel_rfl) ?_
    refine T.pure (.bool false) (by kernel_rfl) (fun _ => by kernel_rfl) ?_
    refine T.nil ?_
    cases hX1
    exact fun a w' hf hh => Exists.intro V2 (And.intro hV2 (And.intro ((Fr.nil hf).pick hf 4 rfl) (hh.sub (.cons _ (.cons _ List.Sublist.slnil)))))
   ·
    skip
    rw [hg2, cond_true] at hX1
    refine T.pure (.pointer (some ⟨b1, 3, none⟩)) (by kernel_rfl) (fun _ => by kernel_rfl) ?_
    refine T.look (.int .i64 p0.made) (by kernel_rfl) (fun w' hh => exec_load1 rfl rfl (by kernel_rfl) (hh.cellBox (i := 1) (by rfl) 3)) ?_
    refine T.pure (.pointer (some ⟨b2, 3, none⟩)) (by kernel_rfl) (fun _ => by kernel_rfl) ?_
    refine T.look (.int .i64 p1.made) (by kernel_rfl) (fun w' hh => exec_load1 rfl rfl (by kernel_rfl) (hh.cellBox (i := 0) (by rfl) 3)) ?_
    refine T.pure (.bool (decide (p0.made < p1.made))) (by kernel_rfl) (fun _ => by kernel_rfl) ?_
    refine T.pure (.bool (decide (p0.made < p1.made))) (by kernel_rfl) (fun _ => by kernel_rfl) ?_
    refine T.pure (.bool (decide (p0.made < p1.made))) (by kernel_rfl) (fun _ => by kernel_rfl) ?_
    refine T.pure (.bool (decide (p0.made < p1.made))) (by kernel_rfl) (fun _ => by kernel_rfl) ?_
    refine T.nil ?_
    cases hX1
    exact fun a w' hf hh => Exists.intro V2 (And.intro hV2 (And.intro ((Fr.nil hf).pick hf 4 rfl) (hh.sub (.cons _ (.cons _ List.Sublist.slnil)))))
  ·
   skip
   rw [hg1, cond_true] at hX1
   refine T.pass (by kernel_rfl) (by kernel_rfl) ?_
   refine T.pass (by kernel_rfl) (by kernel_rfl) ?_
   refine T.pass (by kernel_rfl) (by kernel_rfl) ?_
   refine T.pass (by kernel_rfl) (by kernel_rfl) ?_
   refine T.pass (by kernel_rfl) (by kernel_rfl) ?_
   refine T.pass (by kernel_rfl) (by kernel_rfl) ?_
   refine T.pass (by kernel_rfl) (by kernel_rfl) ?_
   refine T.pass (by kernel_rfl) (by kernel_rfl) ?_
   refine T.pass (by kernel_rfl) (by kernel_rfl) ?_
   refine T.pass (by kernel_rfl) (by kernel_rfl) ?_
   refine T.pass (by kernel_rfl) (by kernel_rfl) ?_
   refine T.pass (by kernel_rfl) (by kernel_rfl) ?_
   refine T.pure (.bool true) (by kernel_rfl) (fun _ => by kernel_rfl) ?_
   refine T.pure (.bool true) (by kernel_rfl) (fun _ => by kernel_rfl) ?_
   refine T.nil ?_
   cases hX1
   exact fun a w' hf hh => Exists.intro V2 (And.intro hV2 (And.intro ((Fr.nil hf).pick hf 4 rfl) (hh.sub (.cons _ (.cons _ List.Sublist.slnil)))))
 ·
  rintro a w' ⟨V1, hV1, hf, hh⟩
  refine (?_ : T 24 w V1 [] [(4, .bool z1)] _) a w' hf hh
  clear hf hh
  cases hF
  refine T.ret rfl ?_
  exact T.ret1 rfl (ResIs.tmp rfl) fun w' hh => ⟨_, rfl, hh.below, (show _ from rfl)⟩
set_option maxRecDepth 100000 in
set_option maxHeartbeats 4000000 in
theorem annalref_Rising_l (F : Nat) (p0 : (List DElem)) (r : Bool) (hF : annalref_Rising F p0 = some r) (w : World) (A1 : Option Addr) (c1 : Nat) (hs1 : SlOk (vw w) eElem A1 c1 p0) :
 Calls Try.prog 27 #[.slice A1 p0.length c1] w (Post (vSc eBool) r w) := by
 unfold annalref_Rising at hF
 refine T.start (l := [.slice A1 p0.length c1]) Try.func27 rfl rfl rfl ?_
 refine T.seq ?_
 refine T.region ?_
 refine T.pure (.bool false) (by kernel_rfl) (fun _ => by kernel_rfl) ?_
 refine T.nil ?_
 refine T.seq ?_
 refine T.seq ?_
 refine T.region ?_
 refine T.pure (.int .i64 1) (by kernel_rfl) (fun _ => by kernel_rfl) ?_
 refine T.nil ?_
 obtain ⟨q1, hz1, hF⟩ := Option.bind_eq_some_iff.1 hF
 refine T.mid (fun a w' => q1 = Sum.inl () ∧ Fr 23 [] a ∧ Hp w (vw w) [] w') ?_ ?_
 ·
  refine T.block ?_
  refine T.iter (fun x1 a w' => Fr 23 [(0, .slice A1 p0.length c1), (3, .int .i64 x1)] a ∧ Hp w (vw w) [] w') hz1 ?_ ?_
  ·
   exact fun a w' hf hh => And.intro (((Fr.nil hf).pick hf 3 rfl).pick hf 0 rfl) (hh.sub List.Sublist.slnil)
  ·
   rintro x1 y1 hY1 hr1 a w' ⟨hf, hh⟩
   refine (?_ : T 23 w (vw w) [] [(0, .slice A1 p0.length c1), (3, .int .i64 x1)] _) a w' hf hh
   clear hf hh
   try dsimp only at hY1
   refine T.seq ?_
   refine T.seq ?_
   refine T.region ?_
   refine T.pure (.int .i64 x1) (by kernel_rfl) (fun _ => by kernel_rfl) ?_
   refine T.pure (.slice A1 p0.length c1) (by kernel_rfl) (fun _ => by kernel_rfl) ?_
   refine T.pure (.int .i64 (p0.length : Int)) (by kernel_rfl) (fun _ => by kernel_rfl) ?_
   refine T.pure (.bool (decide (x1 < (p0.length : Int)))) (by kernel_rfl) (fun _ => by kernel_rfl) ?_
   refine T.nil ?_
   refine T.cond (decide (x1 < (p0.length : Int))) (by kernel_rfl) (by kernel_rfl) (fun hc1 => ?_) (fun hc1 => ?_)
   ·
    rw [hc1, cond_true] at hY1
    refine T.skip_code ?_
    refine T.seq ?_
    refine T.block ?_
    refine T.seq ?_
    refine T.quiet (by kernel_rfl) (by kernel_rfl) ?_
    refine TQ.pure (.slice A1 p0.length c1) (by kernel_rfl) (fun _ => by kernel_rfl) ?_
    refine TQ.pure (.int .i64 x1) (by kernel_rfl) (fun _ => by kernel_rfl) ?_
    refine TQ.pure (.int .i64 (IntKind.i64.wrap (x1 - 1))) (by kernel_rfl) (fun _ => by kernel_rfl) ?_
    obtain ⟨e1, hb1, hY1⟩ := Option.bind_eq_some_iff.1 hY1
    obtain ⟨hi1, hi2, hi3⟩ := idx_some hb1
    refine TQ.look (.pointer (some ((sadr A1).add (((IntKind.i64.wrap (x1 - 1)).toNat) * 6)))) (by kernel_rfl) (fun w' hh => exec_indexAddr (e := 37) (s := 6) rfl rfl rfl (by kernel_rfl) (by kernel_rfl) hi1 hi2 (hs1.some_ hi3 (by decide))) ?_
    refine TQ.look (.agg #[.int .i64 e1.key.pfs, .int .i64 e1.key.obj, .int .i64 e1.key.off, .int .i64 e1.made, .int .i64 e1.gone, .string e1.val]) (by kernel_rfl) (fun w' hh => exec_loadN (cs := [.int .i64 e1.key.pfs, .int .i64 e1.key.obj, .int .i64 e1.key.off, .int .i64 e1.made, .int .i64 e1.gone, .string e1.val]) rfl rfl (by kernel_rfl) (by kernel_rfl) (fun j u hj => (hh.cell_view (SlOk.cellF (E := eElem) hs1 hi3 j (fun _ _ _ h => h) hj)))) ?_
    obtain ⟨r1, hb2, hY1⟩ := Option.bind_eq_some_iff.1 hY1
    refine TQ.call (vAg eSpot) r1 45 #[.agg #[.int .i64 e1.key.pfs, .int .i64 e1.key.obj, .int .i64 e1.key.off, .int .i64 e1.made, .int .i64 e1.gone, .string e1.val]] (.agg #[.int .i64 r1.key.pfs, .int .i64 r1.key.obj, .int .i64 r1.key.off, .int .i64 r1.made]) (fun V u hu => sureSpot V u _ hu) (by kernel_rfl) (fun _ => by kernel_rfl) (fun w' hh => annalref_Spot_l e1 r1 hb2 w' ) ?_
    refine TQ.pure (.slice A1 p0.length c1) (by kernel_rfl) (fun _ => by kernel_rfl) ?_
    refine TQ.pure (.int .i64 x1) (by kernel_rfl) (fun _ => by kernel_rfl) ?_
    obtain ⟨e2, hb3, hY1⟩ := Option.bind_eq_some_iff.1 hY1
    obtain ⟨hi4, hi5, hi6⟩ := idx_some hb3
    refine TQ.look (.pointer (some ((sadr A1).add (x1.toNat * 6)))) (by kernel_rfl) (fun w' hh => exec_indexAddr (e := 37) (s := 6) rfl rfl rfl (by kernel_rfl) (by kernel_rfl) hi4 hi5 (hs1.some_ hi6 (by decide))) ?_
    refine TQ.look (.agg #[.int .i64 e2.key.pfs, .int .i64 e2.key.obj, .int .i64 e2.key.off, .int .i64 e2.made, .int .i64 e2.gone, .string e2.val]) (by kernel_rfl) (fun w' hh => exec_loadN (cs := [.int .i64 e2.key.pfs, .int .i64 e2.key.obj, .int .i64 e2.key.off, .int .i64 e2.made, .int .i64 e2.gone, .string e2.val]) rfl rfl (by kernel_rfl) (by kernel_rfl) (fun j u hj => (hh.cell_view (SlOk.cellF (E := eElem) hs1 hi6 j (fun _ _ _ h => h) hj)))) ?_
    obtain ⟨r2, hb4, hY1⟩ := Option.bind_eq_some_iff.1 hY1
    refine TQ.call (vAg eSpot) r2 45 #[.agg #[.int .i64 e2.key.pfs, .int .i64 e2.key.obj, .int .i64 e2.key.off, .int .i64 e2.made, .int .i64 e2.gone, .string e2.val]] (.agg #[.int .i64 r2.key.pfs, .int .i64 r2.key.obj, .int .i64 r2.key.off, .int .i64 r2.made]) (fun V u hu => sureSpot V u _ hu) (by kernel_rfl) (fun _ => by kernel_rfl) (fun w' hh => annalref_Spot_l e2 r2 hb4 w' ) ?_
    obtain ⟨r3, hb5, hY1⟩ := Option.bind_eq_some_iff.1 hY1
    refine TQ.call (vSc eBool) r3 44 #[.agg #[.int .i64 r1.key.pfs, .int .i64 r1.key.obj, .int .i64 r1.key.off, .int .i64 r1.made], .agg #[.int .i64 r2.key.pfs, .int .i64 r2.key.obj, .int .i64 r2.key.off, .int .i64 r2.made]] (.bool r3) (fun V u hu => sureBool V u _ hu) (by kernel_rfl) (fun _ => by kernel_rfl) (fun w' hh => annalref_AheadSpot_l r1 r2 r3 hb5 w' ) ?_
    refine TQ.pure (.bool (!r3)) (by kernel_rfl) (fun _ => by kernel_rfl) ?_
    refine TQ.nil ?_
    refine T.cond (!r3) (by kernel_rfl) (by kernel_rfl) (fun hc2 => ?_) (fun hc2 => ?_)
    ·
     rw [hc2, cond_true] at hY1
     refine T.seq ?_
     refine T.region ?_
     refine T.pure (.bool false) (by kernel_rfl) (fun _ => by kernel_rfl) ?_
     refine T.nil ?_
     cases hY1
     cases (hr1 _ rfl)
     try dsimp only at hF
     cases hF
     refine T.ret rfl ?_
     exact T.ret1 rfl (ResIs.tmp rfl) fun w' hh => ⟨_, rfl, hh.below, (show _ from rfl)⟩
    ·
     rw [hc2, cond_false] at hY1
     refine T.skip_code ?_
     refine T.region ?_
     refine T.pure (.int .i64 x1) (by kernel_rfl) (fun _ => by kernel_rfl) ?_
     refine T.pure (.int .i64 (IntKind.i64.wrap (x1 + 1))) (by kernel_rfl) (fun _ => by kernel_rfl) ?_
     refine T.pure (.int .i64 (IntKind.i64.wrap (x1 + 1))) (by kernel_rfl) (fun _ => by kernel_rfl) ?_
     refine T.nil ?_
     cases hY1
     exact fun a w' hf hh => Exists.intro (IntKind.i64.wrap (x1 + 1)) (And.intro rfl (And.intro (((Fr.nil hf).pick hf 3 rfl).pick hf 0 rfl) (hh.sub List.Sublist.slnil)))
   ·
    rw [hc1, cond_false] at hY1
    refine T.exit ?_
    cases hY1
    cases (hr1 _ rfl)
    exact fun a w' hf hh => And.intro rfl (And.intro (Fr.nil hf) (hh.sub List.Sublist.slnil))
 ·
  rintro a w' ⟨rfl, hf, hh⟩
  try dsimp only at hF
  refine (?_ : T 23 w (vw w) [] [] _) a w' hf hh
  clear hf hh
  refine T.seq ?_
  refine T.region ?_
  refine T.pure (.bool true) (by kernel_rfl) (fun _ => by kernel_rfl) ?_
  refine T.nil ?_
  cases hF
  refine T.ret rfl ?_
  exact T.ret1 rfl (ResIs.tmp rfl) fun w' hh => ⟨_, rfl, hh.below, (show _ from rfl)⟩
set_option maxRecDepth 100000 in
set_option maxHeartbeats 4000000 in
theorem annalref_Sum_l (F : Nat) (p0 : ByteArray) (r : Int) (hF : annalref_Sum F p0 = some r) (w : World)  :
 Calls Try.prog 41 #[.string p0] w (Post (vSc eInt) r w) := by
 unfold annalref_Sum at hF
 refine T.start (l := [.string p0]) Try.func41 rfl rfl rfl ?_
 refine T.seq ?_
 refine T.region ?_
 refine T.pure (.int .i64 0) (by kernel_rfl) (fun _ => by kernel_rfl) ?_
 refine T.nil ?_
 refine T.seq ?_
 refine T.region ?_
 refine T.pure (.int .i64 0) (by kernel_rfl) (fun _ => by kernel_rfl) ?_
 refine T.nil ?_
 refine T.seq ?_
 refine T.seq ?_
 refine T.region ?_
 refine T.pure (.string p0) (by kernel_rfl) (fun _ => by kernel_rfl) ?_
 refine T.pure (.int .i64 (p0.size : Int)) (by kernel_rfl) (fun _ => by kernel_rfl) ?_
 refine T.pure (.int .i64 (IntKind.i64.wrap ((p0.size : Int) + 2))) (by kernel_rfl) (fun _ => by kernel_rfl) ?_
 refine T.pure (.int .i64 (IntKind.i64.wrap (8 * (IntKind.i64.wrap ((p0.size : Int) + 2))))) (by kernel_rfl) (fun _ => by kernel_rfl) ?_
 refine T.pure (.int .i64 0) (by kernel_rfl) (fun _ => by kernel_rfl) ?_
 refine T.nil ?_
 obtain ⟨z1, hz1, hF⟩ := Option.bind_eq_some_iff.1 hF
 refine T.mid (fun a w' => Fr 39 [(3, .int .i64 z1)] a ∧ Hp w (vw w) [] w') ?_ ?_
 ·
  refine T.block ?_
  refine T.iter (fun s1 a w' => ∃ (x1 : Int) (x2 : Int), s1 = (x1, x2) ∧ Fr 39 [(0, .string p0), (3, .int .i64 x1), (9, .int .i64 (IntKind.i64.wrap (8 * (IntKind.i64.wrap ((p0.size : Int) + 2))))), (10, .int .i64 x2)] a ∧ Hp w (vw w) [] w') hz1 ?_ ?_
  ·
   exact fun a w' hf hh => Exists.intro 0 (Exists.intro 0 (And.intro rfl (And.intro (((((Fr.nil hf).pick hf 10 rfl).pick hf 9 rfl).pick hf 3 rfl).pick hf 0 rfl) (hh.sub List.Sublist.slnil))))
  ·
   rintro s1 y1 hY1 hr1 a w' ⟨x1, x2, rfl, hf, hh⟩
   refine (?_ : T 39 w (vw w) [] [(0, .string p0), (3, .int .i64 x1), (9, .int .i64 (IntKind.i64.wrap (8 * (IntKind.i64.wrap ((p0.size : Int) + 2))))), (10, .int .i64 x2)] _) a w' hf hh
   clear hf hh
   try dsimp only at hY1
   refine T.seq ?_
   refine T.region ?_
   refine T.pure (.bool (decide (x2 < (IntKind.i64.wrap (8 * (IntKind.i64.wrap ((p0.size : Int) + 2))))))) (by kernel_rfl) (fun _ => by kernel_rfl) ?_
   refine T.nil ?_
   refine T.seq ?_
   refine T.cond (decide (x2 < (IntKind.i64.wrap (8 * (IntKind.i64.wrap ((p0.size : Int) + 2)))))) (by kernel_rfl) (by kernel_rfl) (fun hc1 => ?_) (fun hc1 => ?_)
   ·
    rw [hc1, cond_true] at hY1
    refine T.skip_code ?_
    obtain ⟨z2, hX1, hY1⟩ := Option.bind_eq_some_iff.1 hY1
    refine T.cut (fun a w' => Fr 39 [(0, .string p0), (3, .int .i64 z2), (9, .int .i64 (IntKind.i64.wrap (8 * (IntKind.i64.wrap ((p0.size : Int) + 2))))), (10, .int .i64 x2)] a ∧ Hp w (vw w) [] w') ?_ ?_
    ·
     refine T.block ?_
     refine T.seq ?_
     refine T.region ?_
     refine T.pure (.int .i64 x2) (by kernel_rfl) (fun _ => by kernel_rfl) ?_
     refine T.pure (.int .i64 x2) (by kernel_rfl) (fun _ => by kernel_rfl) ?_
     refine T.nil ?_
     refine T.seq ?_
     refine T.region ?_
     refine T.pure (.int .i64 0) (by kernel_rfl) (fun _ => by kernel_rfl) ?_
     refine T.nil ?_
     obtain ⟨z3, hX2, hX1⟩ := Option.bind_eq_some_iff.1 hX1
     refine T.cut (fun a w' => Fr 39 [(0, .string p0), (3, .int .i64 x1), (5, .int .i64 z3), (9, .int .i64 (IntKind.i64.wrap (8 * (IntKind.i64.wrap ((p0.size : Int) + 2))))), (10, .int .i64 x2)] a ∧ Hp w (vw w) [] w') ?_ ?_
     ·
      refine T.seq ?_
      refine T.region ?_
      refine T.pure (.int .i64 x2) (by kernel_rfl) (fun _ => by kernel_rfl) ?_
      refine T.pure (.string p0) (by kernel_rfl) (fun _ => by kernel_rfl) ?_
      refine T.pure (.int .i64 (p0.size : Int)) (by kernel_rfl) (fun _ => by kernel_rfl) ?_
      refine T.pure (.int .i64 (IntKind.i64.wrap (8 * (p0.size : Int)))) (by kernel_rfl) (fun _ => by kernel_rfl) ?_
      refine T.pure (.bool (decide (x2 < (IntKind.i64.wrap (8 * (p0.size : Int)))))) (by kernel_rfl) (fun _ => by kernel_rfl) ?_
      refine T.nil ?_
      refine T.cond (decide (x2 < (IntKind.i64.wrap (8 * (p0.size : Int))))) (by kernel_rfl) (by kernel_rfl) (fun hc2 => ?_) (fun hc2 => ?_)
      ·
       rw [hc2, cond_true] at hX2
       refine T.region ?_
       refine T.pure (.string p0) (by kernel_rfl) (fun _ => by kernel_rfl) ?_
       refine T.pure (.int .i64 x2) (by kernel_rfl) (fun _ => by kernel_rfl) ?_
       refine T.pure (.int .i64 (IntKind.i64.wrap ((x2 : Int).tdiv 8))) (by kernel_rfl) (fun _ => by kernel_rfl) ?_
       obtain ⟨b1, hb1, hX2⟩ := Option.bind_eq_some_iff.1 hX2
       refine T.look (.int .u8 (b1.toNat : Int)) (by kernel_rfl) (fun w' hh => exec_index_str rfl rfl rfl (by kernel_rfl) hb1) ?_
       refine T.pure (.int .i64 x2) (by kernel_rfl) (fun _ => by kernel_rfl) ?_
       refine T.pure (.int .i64 ((x2 : Int).tmod 8)) (by kernel_rfl) (fun _ => by kernel_rfl) ?_
       refine T.pure (.int .i64 (IntKind.i64.wrap (7 - ((x2 : Int).tmod 8)))) (by kernel_rfl) (fun _ => by kernel_rfl) ?_
       obtain ⟨n1, hb2, hX2⟩ := Option.bind_eq_some_iff.1 hX2
       refine T.look (.int .u8 (shr .u8 (b1.toNat : Int) n1)) (by kernel_rfl) (fun w' hh => exec_shr rfl rfl rfl hb2) ?_
       refine T.pure (.int .i64 (IntKind.i64.wrap (shr .u8 (b1.toNat : Int) n1))) (by kernel_rfl) (fun _ => by kernel_rfl) ?_
       refine T.pure (.int .i64 (band .i64 (IntKind.i64.wrap (shr .u8 (b1.toNat : Int) n1)) 1)) (by kernel_rfl) (fun _ => by kernel_rfl) ?_
       refine T.pure (.int .i64 (band .i64 (IntKind.i64.wrap (shr .u8 (b1.toNat : Int) n1)) 1)) (by kernel_rfl) (fun _ => by kernel_rfl) ?_
       refine T.nil ?_
       cases hX2
       exact fun a w' hf hh => And.intro ((((((Fr.nil hf).pick hf 10 rfl).pick hf 9 rfl).pick hf 5 rfl).pick hf 3 rfl).pick hf 0 rfl) (hh.sub List.Sublist.slnil)
      ·
       rw [hc2, cond_false] at hX2
       refine T.skip_code ?_
       cases hX2
       exact fun a w' hf hh => And.intro ((((((Fr.nil hf).pick hf 10 rfl).pick hf 9 rfl).pick hf 5 rfl).pick hf 3 rfl).pick hf 0 rfl) (hh.sub List.Sublist.slnil)
     ·
      rintro a w' ⟨hf, hh⟩
      refine (?_ : T 39 w (vw w) [] [(0, .string p0), (3, .int .i64 x1), (5, .int .i64 z3), (9, .int .i64 (IntKind.i64.wrap (8 * (IntKind.i64.wrap ((p0.size : Int) + 2))))), (10, .int .i64 x2)] _) a w' hf hh
      clear hf hh
      refine T.seq ?_
      refine T.region ?_
      refine T.pure (.int .i64 x1) (by kernel_rfl) (fun _ => by kernel_rfl) ?_
      refine T.pure (.int .i64 (IntKind.i64.wrap (x1 * 2))) (by kernel_rfl) (fun _ => by kernel_rfl) ?_
      refine T.pure (.int .i64 z3) (by kernel_rfl) (fun _ => by kernel_rfl) ?_
      refine T.pure (.int .i64 (IntKind.i64.wrap ((IntKind.i64.wrap (x1 * 2)) + z3))) (by kernel_rfl) (fun _ => by kernel_rfl) ?_
      refine T.pure (.int .i64 (IntKind.i64.wrap ((IntKind.i64.wrap (x1 * 2)) + z3))) (by kernel_rfl) (fun _ => by kernel_rfl) ?_
      refine T.nil ?_
      refine T.seq ?_
      refine T.region ?_
      refine T.pure (.int .i64 (IntKind.i64.wrap ((IntKind.i64.wrap (x1 * 2)) + z3))) (by kernel_rfl) (fun _ => by kernel_rfl) ?_
      refine T.pure (.bool (decide ((65536 : Int) ≤ (IntKind.i64.wrap ((IntKind.i64.wrap (x1 * 2)) + z3))))) (by kernel_rfl) (fun _ => by kernel_rfl) ?_
      refine T.nil ?_
      refine T.cond (decide ((65536 : Int) ≤ (IntKind.i64.wrap ((IntKind.i64.wrap (x1 * 2)) + z3)))) (by kernel_rfl) (by kernel_rfl) (fun hc3 => ?_) (fun hc3 => ?_)
      ·
       rw [hc3, cond_true] at hX1
       refine T.region ?_
       refine T.pure (.int .i64 (IntKind.i64.wrap ((IntKind.i64.wrap (x1 * 2)) + z3))) (by kernel_rfl) (fun _ => by kernel_rfl) ?_
       refine T.pure (.int .i64 (IntKind.i64.wrap ((IntKind.i64.wrap ((IntKind.i64.wrap (x1 * 2)) + z3)) - 65536))) (by kernel_rfl) (fun _ => by kernel_rfl) ?_
       refine T.pure (.int .i64 (bxor .i64 (IntKind.i64.wrap ((IntKind.i64.wrap ((IntKind.i64.wrap (x1 * 2)) + z3)) - 65536)) 4129)) (by kernel_rfl) (fun _ => by kernel_rfl) ?_
       refine T.pure (.int .i64 (bxor .i64 (IntKind.i64.wrap ((IntKind.i64.wrap ((IntKind.i64.wrap (x1 * 2)) + z3)) - 65536)) 4129)) (by kernel_rfl) (fun _ => by kernel_rfl) ?_
       refine T.nil ?_
       cases hX1
       exact fun a w' hf hh => And.intro (((((Fr.nil hf).pick hf 10 rfl).pick hf 9 rfl).pick hf 3 rfl).pick hf 0 rfl) (hh.sub List.Sublist.slnil)
      ·
       rw [hc3, cond_false] at hX1
       refine T.skip_code ?_
       cases hX1
       exact fun a w' hf hh => And.intro (((((Fr.nil hf).pick hf 10 rfl).pick hf 9 rfl).pick hf 3 rfl).pick hf 0 rfl) (hh.sub List.Sublist.slnil)
    ·
     rintro a w' ⟨hf, hh⟩
     refine (?_ : T 39 w (vw w) [] [(0, .string p0), (3, .int .i64 z2), (9, .int .i64 (IntKind.i64.wrap (8 * (IntKind.i64.wrap ((p0.size : Int) + 2))))), (10, .int .i64 x2)] _) a w' hf hh
     clear hf hh
     refine T.region ?_
     refine T.pure (.int .i64 (IntKind.i64.wrap (x2 + 1))) (by kernel_rfl) (fun _ => by kernel_rfl) ?_
     refine T.pure (.int .i64 (IntKind.i64.wrap (x2 + 1))) (by kernel_rfl) (fun _ => by kernel_rfl) ?_
     refine T.nil ?_
     cases hY1
     exact fun a w' hf hh => Exists.intro (z2, IntKind.i64.wrap (x2 + 1)) (And.intro rfl (Exists.intro z2 (Exists.intro (IntKind.i64.wrap (x2 + 1)) (And.intro rfl (And.intro (((((Fr.nil hf).pick hf 10 rfl).pick hf 9 rfl).pick hf 3 rfl).pick hf 0 rfl) (hh.sub List.Sublist.slnil))))))
   ·
    rw [hc1, cond_false] at hY1
    refine T.exit ?_
    cases hY1
    cases (hr1 _ rfl)
    exact fun a w' hf hh => And.intro ((Fr.nil hf).pick hf 3 rfl) (hh.sub List.Sublist.slnil)
 ·
  rintro a w' ⟨hf, hh⟩
  refine (?_ : T 39 w (vw w) [] [(3, .int .i64 z1)] _) a w' hf hh
  clear hf hh
  refine T.seq ?_
  refine T.region ?_
  refine T.pure (.int .i64 z1) (by kernel_rfl) (fun _ => by kernel_rfl) ?_
  refine T.pure (.int .i64 z1) (by kernel_rfl) (fun _ => by kernel_rfl) ?_
  refine T.nil ?_
  cases hF
  refine T.ret rfl ?_
  exact T.ret1 rfl (ResIs.tmp rfl) fun w' hh => ⟨_, rfl, hh.below, (show _ from rfl)⟩
set_option maxRecDepth 100000 in
set_option maxHeartbeats 4000000 in
theorem annalref_Span_l (p0 : Int) (p1 : Int) (p2 : Int) (r : Int) (hF : annalref_Span p0 p1 p2 = some r) (w : World)  :
 Calls Try.prog 24 #[.int .i64 p0, .int .i64 p1, .int .i64 p2] w (Post (vSc eInt) r w) := by
 unfold annalref_Span at hF
 refine T.start (l := [.int .i64 p0, .int .i64 p1, .int .i64 p2]) Try.func24 rfl rfl rfl ?_
 refine T.seq ?_
 refine T.region ?_
 refine T.pure (.int .i64 0) (by kernel_rfl) (fun _ => by kernel_rfl) ?_
 refine T.nil ?_
 refine T.seq ?_
 refine T.seq ?_
 refine T.region ?_
 refine T.pure (.int .i64 p0) (by kernel_rfl) (fun _ => by kernel_rfl) ?_
 obtain ⟨r1, hb1, hF⟩ := Option.bind_eq_some_iff.1 hF
 refine T.step (W1.call (vSc eBool) r1 42 #[.int .i64 p0, .int .i64 15] (by kernel_rfl) (fun _ => by kernel_rfl) (fun w' hh => annalref_between_l p0 15 r1 hb1 w' ) ?_)
 intro u V1 hV1 hu
 obtain rfl := sureBool _ _ _ hu
 refine T.pure (.bool (!r1)) (by kernel_rfl) (fun _ => by kernel_rfl) ?_
 refine T.nil ?_
 refine T.cond (!r1) (by kernel_rfl) (by kernel_rfl) (fun hc1 => ?_) (fun hc1 => ?_)
 ·
  rw [hc1, cond_true] at hF
  refine T.seq ?_
  refine T.region ?_
  refine T.pure (.int .i64 1) (by kernel_rfl) (fun _ => by kernel_rfl) ?_
  refine T.nil ?_
  cases hF
  refine T.ret rfl ?_
  exact T.ret1 rfl (ResIs.tmp rfl) fun w' hh => ⟨_, rfl, hh.below, (show _ from rfl)⟩
 ·
  rw [hc1, cond_false] at hF
  refine T.skip_code ?_
  refine T.seq ?_
  refine T.cut (fun a w' => Fr 21 [(20, .bool ((decide (p1 < 0)) || ((decide (p2 < p1)) || (decide ((2147483647 : Int) < p2)))))] a ∧ Hp w V1 [] w') ?_ ?_
  ·
   refine T.region ?_
   refine T.pure (.int .i64 p1) (by kernel_rfl) (fun _ => by kernel_rfl) ?_
   refine T.pure (.bool (decide (p1 < 0))) (by kernel_rfl) (fun _ => by kernel_rfl) ?_
   refine T.pure (.bool (decide (p1 < 0))) (by kernel_rfl) (fun _ => by kernel_rfl) ?_
   cases hg1 : decide (p1 < 0)
   ·
    skip
    refine T.pure (.int .i64 p2) (by kernel_rfl) (fun _ => by kernel_rfl) ?_
    refine T.pure (.int .i64 p1) (by kernel_rfl) (fun _ => by kernel_rfl) ?_
    refine T.pure (.bool (decide (p2 < p1))) (by kernel_rfl) (fun _ => by kernel_rfl) ?_
    refine T.pure (.bool (decide (p2 < p1))) (by kernel_rfl) (fun _ => by kernel_rfl) ?_
    refine T.pure (.bool (decide (p2 < p1))) (by kernel_rfl) (fun _ => by kernel_rfl) ?_
    cases hg2 : decide (p2 < p1)
    ·
     skip
     refine T.pure (.int .i64 p2) (by kernel_rfl) (fun _ => by kernel_rfl) ?_
     refine T.pure (.bool (decide ((2147483647 : Int) < p2))) (by kernel_rfl) (fun _ => by kernel_rfl) ?_
     refine T.pure (.bool (decide ((2147483647 : Int) < p2))) (by kernel_rfl) (fun _ => by kernel_rfl) ?_
     refine T.nil ?_
     exact fun a w' hf hh => And.intro ((Fr.nil hf).pick hf 20 rfl) (hh.sub List.Sublist.slnil)
    ·
     skip
     refine T.pass (by kernel_rfl) (by kernel_rfl) ?_
     refine T.pass (by kernel_rfl) (by kernel_rfl) ?_
     refine T.pure (.bool true) (by kernel_rfl) (fun _ => by kernel_rfl) ?_
     refine T.nil ?_
     exact fun a w' hf hh => And.intro ((Fr.nil hf).pick hf 20 rfl) (hh.sub List.Sublist.slnil)
   ·
    skip
    refine T.pass (by kernel_rfl) (by kernel_rfl) ?_
    refine T.pass (by kernel_rfl) (by kernel_rfl) ?_
    refine T.pass (by kernel_rfl) (by kernel_rfl) ?_
    refine T.pure (.bool true) (by kernel_rfl) (fun _ => by kernel_rfl) ?_
    refine T.pure (.bool true) (by kernel_rfl) (fun _ => by kernel_rfl) ?_
    refine T.pass (by kernel_rfl) (by kernel_rfl) ?_
    refine T.pass (by kernel_rfl) (by kernel_rfl) ?_
    refine T.pure (.bool true) (by kernel_rfl) (fun _ => by kernel_rfl) ?_
    refine T.nil ?_
    exact fun a w' hf hh => And.intro ((Fr.nil hf).pick hf 20 rfl) (hh.sub List.Sublist.slnil)
  ·
   rintro a w' ⟨hf, hh⟩
   refine (?_ : T 21 w V1 [] [(20, .bool ((decide (p1 < 0)) || ((decide (p2 < p1)) || (decide ((2147483647 : Int) < p2)))))] _) a w' hf hh
   clear hf hh
   refine T.cond ((decide (p1 < 0)) || ((decide (p2 < p1)) || (decide ((2147483647 : Int) < p2)))) (by kernel_rfl) (by kernel_rfl) (fun hc2 => ?_) (fun hc2 => ?_)
   ·
    rw [hc2, cond_true] at hF
    refine T.seq ?_
    refine T.region ?_
    refine T.pure (.int .i64 9) (by kernel_rfl) (fun _ => by kernel_rfl) ?_
    refine T.nil ?_
    cases hF
    refine T.ret rfl ?_
    exact T.ret1 rfl (ResIs.tmp rfl) fun w' hh => ⟨_, rfl, hh.below, (show _ from rfl)⟩
   ·
    rw [hc2, cond_false] at hF
    refine T.skip_code ?_
    refine T.seq ?_
    refine T.region ?_
    refine T.pure (.int .i64 0) (by kernel_rfl) (fun _ => by kernel_rfl) ?_
    refine T.nil ?_
    cases hF
    refine T.ret rfl ?_
    exact T.ret1 rfl (ResIs.tmp rfl) fun w' hh => ⟨_, rfl, hh.below, (show _ from rfl)⟩
set_option maxRecDepth 100000 in
set_option maxHeartbeats 4000000 in
theorem annalref_Unframe_l (F : Nat) (p0 : ByteArray) (r : DFrame × Int × Int) (hF : annalref_Unframe F p0 = some r) (w : World)  :
 Calls Try.prog 22 #[.string p0] w (Post (vT3 (vAg eFrame) (vSc eInt) (vSc eInt)) r w) := by
 unfold annalref_Unframe at hF
 refine T.start (l := [.string p0]) Try.func22 rfl rfl rfl ?_
 refine T.seq ?_
 refine T.region ?_
 refine T.step (W1.new 60 [.int .i64 0, .string (ByteArray.mk #[])] (fun b => .pointer (some ⟨b, 0, none⟩)) (by kernel_rfl) (fun _ => by kernel_rfl) (fun b1 => ?_))
 refine T.pure (.int .i64 0) (by kernel_rfl) (fun _ => by kernel_rfl) ?_
 refine T.pure (.int .i64 0) (by kernel_rfl) (fun _ => by kernel_rfl) ?_
 refine T.nil ?_
 refine T.seq ?_
 refine T.seq ?_
 refine T.region ?_
 refine T.pure (.string p0) (by kernel_rfl) (fun _ => by kernel_rfl) ?_
 refine T.pure (.int .i64 (p0.size : Int)) (by kernel_rfl) (fun _ => by kernel_rfl) ?_
 refine T.pure (.bool (decide ((p0.size : Int) < 5))) (by kernel_rfl) (fun _ => by kernel_rfl) ?_
 refine T.nil ?_
 refine T.cond (decide ((p0.size : Int) < 5)) (by kernel_rfl) (by kernel_rfl) (fun hc1 => ?_) (fun hc1 => ?_)
 ·
  rw [hc1, cond_true] at hF
  refine T.seq ?_
  refine T.region ?_
  refine T.pure (.agg #[.int .i64 0, .string (ByteArray.mk #[])]) (by kernel_rfl) (fun _ => by kernel_rfl) ?_
  refine T.step (W1.store 0 [.int .i64 0, .string (ByteArray.mk #[])] [box b1 60 [.int .i64 0, .string (ByteArray.mk #[])]] (by rfl) rfl (by kernel_rfl) (fun w' hw => exec_store (vs := [.int .i64 0, .string (ByteArray.mk #[])]) rfl rfl rfl rfl (by kernel_rfl) (one_of rfl) (by simp) rfl hw) ?_)
  refine T.pure (.int .i64 0) (by kernel_rfl) (fun _ => by kernel_rfl) ?_
  refine T.pure (.int .i64 7) (by kernel_rfl) (fun _ => by kernel_rfl) ?_
  refine T.nil ?_
  cases hF
  refine T.ret rfl ?_
  exact T.ret3 rfl (ResIs.cellN 0 rfl (by rfl) (fun _ => by kernel_rfl) (fun _ => by kernel_rfl)) (ResIs.tmp rfl) (ResIs.tmp rfl) fun w' hh => ⟨_, rfl, hh.below, (vT3.mk (vAg.mk rfl) (show _ from rfl) (show _ from rfl))⟩
 ·
  rw [hc1, cond_false] at hF
  refine T.skip_code ?_
  refine T.seq ?_
  refine T.region ?_
  refine T.pure (.string p0) (by kernel_rfl) (fun _ => by kernel_rfl) ?_
  obtain ⟨s1, hb1, hF⟩ := Option.bind_eq_some_iff.1 hF
  refine T.look (.string s1) (by kernel_rfl) (fun w' hh => exec_slice_str rfl rfl rfl rfl (by kernel_rfl) hb1) ?_
  obtain ⟨r1, hb2, hF⟩ := Option.bind_eq_some_iff.1 hF
  refine T.step (W1.call (vSc eInt) r1 23 #[.string s1] (by kernel_rfl) (fun _ => by kernel_rfl) (fun w' hh => annalref_Big_l F s1 r1 hb2 w' ) ?_)
  intro u V1 hV1 hu
  obtain rfl := sureInt _ _ _ hu
  refine T.pure (.int .i64 r1) (by kernel_rfl) (fun _ => by kernel_rfl) ?_
  refine T.nil ?_
  refine T.seq ?_
  obtain ⟨z1, hX1, hF⟩ := Option.bind_eq_some_iff.1 hF
  refine T.cut (fun a w' => Fr 51 [(0, .string p0), (2, .pointer (some ⟨b1, 0, none⟩)), (5, .int .i64 r1), (19, .bool z1)] a ∧ Hp w V1 [box b1 60 [.int .i64 0, .string (ByteArray.mk #[])]] w') ?_ ?_
  ·
   refine T.region ?_
   refine T.pure (.string p0) (by kernel_rfl) (fun _ => by kernel_rfl) ?_
   obtain ⟨b2, hb3, hX1⟩ := Option.bind_eq_some_iff.1 hX1
   refine T.look (.int .u8 (b2.toNat : Int)) (by kernel_rfl) (fun w' hh => exec_index_str rfl rfl rfl (by kernel_rfl) hb3) ?_
   refine T.pure (.bool ((b2.toNat : Int) == 0)) (by kernel_rfl) (fun _ => by kernel_rfl) ?_
   refine T.pure (.bool ((b2.toNat : Int) == 0)) (by kernel_rfl) (fun _ => by kernel_rfl) ?_
   cases hg1 : ((b2.toNat : Int) == 0)
   ·
    skip
    rw [hg1, cond_false] at hX1
    refine T.pure (.int .i64 r1) (by kernel_rfl) (fun _ => by kernel_rfl) ?_
    refine T.pure (.bool (decide ((3000 : Int) < r1))) (by kernel_rfl) (fun _ => by kernel_rfl) ?_
    refine T.pure (.bool (decide ((3000 : Int) < r1))) (by kernel_rfl) (fun _ => by kernel_rfl) ?_
    refine T.nil ?_
    cases hX1
    exact fun a w' hf hh => And.intro (((((Fr.nil hf).pick hf 19 rfl).pick hf 5 rfl).pick hf 2 rfl).pick hf 0 rfl) (hh.sub (.cons_cons _ List.Sublist.slnil))
   ·
    skip
    rw [hg1, cond_true] at hX1
    refine T.pass (by kernel_rfl) (by kernel_rfl) ?_
    refine T.pass (by kernel_rfl) (by kernel_rfl) ?_
    refine T.pure (.bool true) (by kernel_rfl) (fun _ => by kernel_rfl) ?_
    refine T.nil ?_
    cases hX1
    exact fun a w' hf hh => And.intro (((((Fr.nil hf).pick hf 19 rfl).pick hf 5 rfl).pick hf 2 rfl).pick hf 0 rfl) (hh.sub (.cons_cons _ List.Sublist.slnil))
  ·
   rintro a w' ⟨hf, hh⟩
   refine (?_ : T 51 w V1 [box b1 60 [.int .i64 0, .string (ByteArray.mk #[])]] [(0, .string p0), (2, .pointer (some ⟨b1, 0, none⟩)), (5, .int .i64 r1), (19, .bool z1)] _) a w' hf hh
   clear hf hh
   refine T.cond z1 (by kernel_rfl) (by kernel_rfl) (fun hc2 => ?_) (fun hc2 => ?_)
   ·
    rw [hc2, cond_true] at hF
    refine T.seq ?_
    refine T.region ?_
    refine T.pure (.agg #[.int .i64 0, .string (ByteArray.mk #[])]) (by kernel_rfl) (fun _ => by kernel_rfl) ?_
    refine T.step (W1.store 0 [.int .i64 0, .string (ByteArray.mk #[])] [box b1 60 [.int .i64 0, .string (ByteArray.mk #[])]] (by rfl) rfl (by kernel_rfl) (fun w' hw => exec_store (vs := [.int .i64 0, .string (ByteArray.mk #[])]) rfl rfl rfl rfl (by kernel_rfl) (one_of rfl) (by simp) rfl hw) ?_)
    refine T.pure (.int .i64 0) (by kernel_rfl) (fun _ => by kernel_rfl) ?_
    refine T.pure (.int .i64 3) (by kernel_rfl) (fun _ => by kernel_rfl) ?_
    refine T.nil ?_
    cases hF
    refine T.ret rfl ?_
    exact T.ret3 rfl (ResIs.cellN 0 rfl (by rfl) (fun _ => by kernel_rfl) (fun _ => by kernel_rfl)) (ResIs.tmp rfl) (ResIs.tmp rfl) fun w' hh => ⟨_, rfl, hh.below, (vT3.mk (vAg.mk rfl) (show _ from rfl) (show _ from rfl))⟩
   ·
    rw [hc2, cond_false] at hF
    refine T.skip_code ?_
    refine T.seq ?_
    refine T.seq ?_
    refine T.region ?_
    refine T.pure (.string p0) (by kernel_rfl) (fun _ => by kernel_rfl) ?_
    refine T.pure (.int .i64 (p0.size : Int)) (by kernel_rfl) (fun _ => by kernel_rfl) ?_
    refine T.pure (.int .i64 r1) (by kernel_rfl) (fun _ => by kernel_rfl) ?_
    refine T.pure (.int .i64 (IntKind.i64.wrap (5 + r1))) (by kernel_rfl) (fun _ => by kernel_rfl) ?_
    refine T.pure (.bool (decide ((p0.size : Int) < (IntKind.i64.wrap (5 + r1))))) (by kernel_rfl) (fun _ => by kernel_rfl) ?_
    refine T.nil ?_
    refine T.cond (decide ((p0.size : Int) < (IntKind.i64.wrap (5 + r1)))) (by kernel_rfl) (by kernel_rfl) (fun hc3 => ?_) (fun hc3 => ?_)
    ·
     rw [hc3, cond_true] at hF
     refine T.seq ?_
     refine T.region ?_
     refine T.pure (.agg #[.int .i64 0, .string (ByteArray.mk #[])]) (by kernel_rfl) (fun _ => by kernel_rfl) ?_
     refine T.step (W1.store 0 [.int .i64 0, .string (ByteArray.mk #[])] [box b1 60 [.int .i64 0, .string (ByteArray.mk #[])]] (by rfl) rfl (by kernel_rfl) (fun w' hw => exec_store (vs := [.int .i64 0, .string (ByteArray.mk #[])]) rfl rfl rfl rfl (by kernel_rfl) (one_of rfl) (by simp) rfl hw) ?_)
     refine T.pure (.int .i64 0) (by kernel_rfl) (fun _ => by kernel_rfl) ?_
     refine T.pure (.int .i64 7) (by kernel_rfl) (fun _ => by kernel_rfl) ?_
     refine T.nil ?_
     cases hF
     refine T.ret rfl ?_
     exact T.ret3 rfl (ResIs.cellN 0 rfl (by rfl) (fun _ => by kernel_rfl) (fun _ => by kernel_rfl)) (ResIs.tmp rfl) (ResIs.tmp rfl) fun w' hh => ⟨_, rfl, hh.below, (vT3.mk (vAg.mk rfl) (show _ from rfl) (show _ from rfl))⟩
    ·
     rw [hc3, cond_false] at hF
     refine T.skip_code ?_
     refine T.seq ?_
     refine T.seq ?_
     refine T.quiet (by kernel_rfl) (by kernel_rfl) ?_
     refine TQ.pure (.string p0) (by kernel_rfl) (fun _ => by kernel_rfl) ?_
     refine TQ.pure (.int .i64 r1) (by kernel_rfl) (fun _ => by kernel_rfl) ?_
     refine TQ.pure (.int .i64 (IntKind.i64.wrap (3 + r1))) (by kernel_rfl) (fun _ => by kernel_rfl) ?_
     refine TQ.pure (.int .i64 r1) (by kernel_rfl) (fun _ => by kernel_rfl) ?_
     refine TQ.pure (.int .i64 (IntKind.i64.wrap (5 + r1))) (by kernel_rfl) (fun _ => by kernel_rfl) ?_
     obtain ⟨s2, hb4, hF⟩ := Option.bind_eq_some_iff.1 hF
     refine TQ.look (.string s2) (by kernel_rfl) (fun w' hh => exec_slice_str rfl rfl rfl rfl (by kernel_rfl) hb4) ?_
     obtain ⟨r2, hb5, hF⟩ := Option.bind_eq_some_iff.1 hF
     refine TQ.call (vSc eInt) r2 23 #[.string s2] (.int .i64 r2) (fun V u hu => sureInt V u _ hu) (by kernel_rfl) (fun _ => by kernel_rfl) (fun w' hh => annalref_Big_l F s2 r2 hb5 w' ) ?_
     refine TQ.pure (.string p0) (by kernel_rfl) (fun _ => by kernel_rfl) ?_
     refine TQ.pure (.int .i64 r1) (by kernel_rfl) (fun _ => by kernel_rfl) ?_
     refine TQ.pure (.int .i64 (IntKind.i64.wrap (3 + r1))) (by kernel_rfl) (fun _ => by kernel_rfl) ?_
     obtain ⟨s3, hb6, hF⟩ := Option.bind_eq_some_iff.1 hF
     refine TQ.look (.string s3) (by kernel_rfl) (fun w' hh => exec_slice_str_hi rfl rfl rfl (by kernel_rfl) hb6) ?_
     obtain ⟨r3, hb7, hF⟩ := Option.bind_eq_some_iff.1 hF
     refine TQ.call (vSc eInt) r3 41 #[.string s3] (.int .i64 r3) (fun V u hu => sureInt V u _ hu) (by kernel_rfl) (fun _ => by kernel_rfl) (fun w' hh => annalref_Sum_l F s3 r3 hb7 w' ) ?_
     refine TQ.pure (.bool (r2 != r3)) (by kernel_rfl) (fun _ => by kernel_rfl) ?_
     refine TQ.nil ?_
     refine T.cond (r2 != r3) (by kernel_rfl) (by kernel_rfl) (fun hc4 => ?_) (fun hc4 => ?_)
     ·
      rw [hc4, cond_true] at hF
      refine T.seq ?_
      refine T.region ?_
      refine T.pure (.agg #[.int .i64 0, .string (ByteArray.mk #[])]) (by kernel_rfl) (fun _ => by kernel_rfl) ?_
      refine T.step (W1.store 0 [.int .i64 0, .string (ByteArray.mk #[])] [box b1 60 [.int .i64 0, .string (ByteArray.mk #[])]] (by rfl) rfl (by kernel_rfl) (fun w' hw => exec_store (vs := [.int .i64 0, .string (ByteArray.mk #[])]) rfl rfl rfl rfl (by kernel_rfl) (one_of rfl) (by simp) rfl hw) ?_)
      refine T.pure (.int .i64 0) (by kernel_rfl) (fun _ => by kernel_rfl) ?_
      refine T.pure (.int .i64 6) (by kernel_rfl) (fun _ => by kernel_rfl) ?_
      refine T.nil ?_
      cases hF
      refine T.ret rfl ?_
      exact T.ret3 rfl (ResIs.cellN 0 rfl (by rfl) (fun _ => by kernel_rfl) (fun _ => by kernel_rfl)) (ResIs.tmp rfl) (ResIs.tmp rfl) fun w' hh => ⟨_, rfl, hh.below, (vT3.mk (vAg.mk rfl) (show _ from rfl) (show _ from rfl))⟩
     ·
      rw [hc4, cond_false] at hF
      refine T.skip_code ?_
      refine T.seq ?_
      refine T.held [] (by kernel_rfl) ?_
      refine TA.take 0 (.string p0) rfl (by kernel_rfl) (by kernel_rfl) (by kernel_rfl) (fun _ _ _ h => h) (Hp.old (View.le_refl _) hV1 (.cons _ List.Sublist.slnil) OldAll.nil) (by kernel_rfl) (fun _ _ => by kernel_rfl) ?_
      obtain ⟨s4, hb8, hF⟩ := Option.bind_eq_some_iff.1 hF
      refine TA.take 1 (.string s4) rfl (by kernel_rfl) (by kernel_rfl) (by kernel_rfl) (fun _ _ _ h => h) (Hp.old (View.le_refl _) hV1 (.cons _ List.Sublist.slnil) OldAll.nil) (by kernel_rfl) (fun w' hh => exec_slice_str_hi rfl rfl rfl (by kernel_rfl) hb8) ?_
      refine TA.take 3 (.string p0) rfl (by kernel_rfl) (by kernel_rfl) (by kernel_rfl) (fun _ _ _ h => h) (Hp.old (View.le_refl _) hV1 (.cons _ List.Sublist.slnil) OldAll.nil) (by kernel_rfl) (fun _ _ => by kernel_rfl) ?_
      refine TA.take 4 (.int .i64 r1) rfl (by kernel_rfl) (by kernel_rfl) (by kernel_rfl) (fun _ _ _ h => h) (Hp.old (View.le_refl _) hV1 (.cons _ List.Sublist.slnil) OldAll.nil) (by kernel_rfl) (fun _ _ => by kernel_rfl) ?_
      refine TA.take 5 (.int .i64 (IntKind.i64.wrap (3 + r1))) rfl (by kernel_rfl) (by kernel_rfl) (by kernel_rfl) (fun _ _ _ h => h) (Hp.old (View.le_refl _) hV1 (.cons _ List.Sublist.slnil) OldAll.nil) (by kernel_rfl) (fun _ _ => by kernel_rfl) ?_
      obtain ⟨s5, hb9, hF⟩ := Option.bind_eq_some_iff.1 hF
      refine TA.take 6 (.string s5) rfl (by kernel_rfl) (by kernel_rfl) (by kernel_rfl) (fun _ _ _ h => h) (Hp.old (View.le_refl _) hV1 (.cons _ List.Sublist.slnil) OldAll.nil) (by kernel_rfl) (fun w' hh => exec_slice_str rfl rfl rfl rfl (by kernel_rfl) hb9) ?_
      refine TA.take 8 (.int .i64 r1) rfl (by kernel_rfl) (by kernel_rfl) (by kernel_rfl) (fun _ _ _ h => h) (Hp.old (View.le_refl _) hV1 (.cons _ List.Sublist.slnil) OldAll.nil) (by kernel_rfl) (fun _ _ => by kernel_rfl) ?_
      refine TA.take 9 (.int .i64 (IntKind.i64.wrap (5 + r1))) rfl (by kernel_rfl) (by kernel_rfl) (by kernel_rfl) (fun _ _ _ h => h) (Hp.old (View.le_refl _) hV1 (.cons _ List.Sublist.slnil) OldAll.nil) (by kernel_rfl) (fun _ _ => by kernel_rfl) ?_
      refine TA.all [2] (by kernel_rfl) rfl ⟨?_, trivial⟩
      obtain ⟨r4, hb10, hF⟩ := Option.bind_eq_some_iff.1 hF
      refine TA.br rfl (W1.call (vSc eInt) r4 23 #[.string s4] (by kernel_rfl) (fun _ => by kernel_rfl) (fun w' hh => annalref_Big_l F s4 r4 hb10 w' ) ?_)
      intro u V2 hV2 hu
      obtain rfl := sureInt _ _ _ hu
      refine TA.on (Hp.old hV2 hV1 (.cons _ List.Sublist.slnil) OldAll.nil) ?_
      refine TA.take 7 (.agg #[.int .i64 r4, .string s5]) rfl (by kernel_rfl) (by kernel_rfl) (by kernel_rfl) (fun _ _ _ h => h) (Hp.old hV2 hV1 (.cons _ List.Sublist.slnil) OldAll.nil) (by kernel_rfl) (fun _ _ => by kernel_rfl) ?_
      refine TA.all [10] (by kernel_rfl) rfl ⟨?_, trivial⟩
      refine TA.br rfl (W1.store 0 [.int .i64 r4, .string s5] [box b1 60 [.int .i64 r4, .string s5]] (by rfl) rfl (by kernel_rfl) (fun w' hw => exec_store (vs := [.int .i64 r4, .string s5]) rfl rfl rfl rfl (by kernel_rfl) (one_of rfl) (by simp) rfl hw) ?_)
      refine TA.on (Hp.old hV2 hV1 (.cons _ List.Sublist.slnil) OldAll.nil) ?_
      refine TA.take 11 (.int .i64 (IntKind.i64.wrap (5 + r1))) rfl (by kernel_rfl) (by kernel_rfl) (by kernel_rfl) (fun _ _ _ h => h) (Hp.old hV2 hV1 (.cons _ List.Sublist.slnil) OldAll.nil) (by kernel_rfl) (fun _ _ => by kernel_rfl) ?_
      refine TA.take 12 (.int .i64 0) rfl (by kernel_rfl) (by kernel_rfl) (by kernel_rfl) (fun _ _ _ h => h) (Hp.old hV2 hV1 (.cons _ List.Sublist.slnil) OldAll.nil) (by kernel_rfl) (fun _ _ => by kernel_rfl) ?_
      refine TA.done (by kernel_rfl) ?_
      cases hF
      refine T.ret rfl ?_
      exact T.ret3 rfl (ResIs.cellN 0 rfl (by rfl) (fun _ => by kernel_rfl) (fun _ => by kernel_rfl)) (ResIs.tmp rfl) (ResIs.tmp rfl) fun w' hh => ⟨_, rfl, hh.below, (vT3.mk (vAg.mk rfl) (show _ from rfl) (show _ from rfl))⟩
set_option maxRecDepth 100000 in
set_option maxHeartbeats 4000000 in
theorem annalref_Unbytes_l (F : Nat) (p0 : ByteArray) (r : DElem × Int × Int) (hF : annalref_Unbytes F p0 = some r) (w : World)  :
 Calls Try.prog 25 #[.string p0] w (Post (vT3 (vAg eElem) (vSc eInt) (vSc eInt)) r w) := by
 unfold annalref_Unbytes at hF
 refine T.start (l := [.string p0]) Try.func25 rfl rfl rfl ?_
 refine T.seq ?_
 refine T.region ?_
 refine T.step (W1.new 37 [.int .i64 0, .int .i64 0, .int .i64 0, .int .i64 0, .int .i64 0, .string (ByteArray.mk #[])] (fun b => .pointer (some ⟨b, 0, none⟩)) (by kernel_rfl) (fun _ => by kernel_rfl) (fun b1 => ?_))
 refine T.pure (.int .i64 0) (by kernel_rfl) (fun _ => by kernel_rfl) ?_
 refine T.pure (.int .i64 0) (by kernel_rfl) (fun _ => by kernel_rfl) ?_
 refine T.nil ?_
 refine T.seq ?_
 refine T.seq ?_
 refine T.region ?_
 refine T.pure (.string p0) (by kernel_rfl) (fun _ => by kernel_rfl) ?_
 refine T.pure (.int .i64 (p0.size : Int)) (by kernel_rfl) (fun _ => by kernel_rfl) ?_
 refine T.pure (.bool (decide ((p0.size : Int) < 18))) (by kernel_rfl) (fun _ => by kernel_rfl) ?_
 refine T.nil ?_
 refine T.cond (decide ((p0.size : Int) < 18)) (by kernel_rfl) (by kernel_rfl) (fun hc1 => ?_) (fun hc1 => ?_)
 ·
  rw [hc1, cond_true] at hF
  refine T.seq ?_
  refine T.region ?_
  refine T.pure (.agg #[.int .i64 0, .int .i64 0, .int .i64 0, .int .i64 0, .int .i64 0, .string (ByteArray.mk #[])]) (by kernel_rfl) (fun _ => by kernel_rfl) ?_
  refine T.step (W1.store 0 [.int .i64 0, .int .i64 0, .int .i64 0, .int .i64 0, .int .i64 0, .string (ByteArray.mk #[])] [box b1 37 [.int .i64 0, .int .i64 0, .int .i64 0, .int .i64 0, .int .i64 0, .string (ByteArray.mk #[])]] (by rfl) rfl (by kernel_rfl) (fun w' hw => exec_store (vs := [.int .i64 0, .int .i64 0, .int .i64 0, .int .i64 0, .int .i64 0, .string (ByteArray.mk #[])]) rfl rfl rfl rfl (by kernel_rfl) (one_of rfl) (by simp) rfl hw) ?_)
  refine T.pure (.int .i64 0) (by kernel_rfl) (fun _ => by kernel_rfl) ?_
  refine T.pure (.int .i64 7) (by kernel_rfl) (fun _ => by kernel_rfl) ?_
  refine T.nil ?_
  cases hF
  refine T.ret rfl ?_
  exact T.ret3 rfl (ResIs.cellN 0 rfl (by rfl) (fun _ => by kernel_rfl) (fun _ => by kernel_rfl)) (ResIs.tmp rfl) (ResIs.tmp rfl) fun w' hh => ⟨_, rfl, hh.below, (vT3.mk (vAg.mk rfl) (show _ from rfl) (show _ from rfl))⟩
 ·
  rw [hc1, cond_false] at hF
  refine T.skip_code ?_
  refine T.seq ?_
  refine T.region ?_
  refine T.pure (.string p0) (by kernel_rfl) (fun _ => by kernel_rfl) ?_
  obtain ⟨s1, hb1, hF⟩ := Option.bind_eq_some_iff.1 hF
  refine T.look (.string s1) (by kernel_rfl) (fun w' hh => exec_slice_str rfl rfl rfl rfl (by kernel_rfl) hb1) ?_
  obtain ⟨r1, hb2, hF⟩ := Option.bind_eq_some_iff.1 hF
  refine T.step (W1.call (vSc eInt) r1 23 #[.string s1] (by kernel_rfl) (fun _ => by kernel_rfl) (fun w' hh => annalref_Big_l F s1 r1 hb2 w' ) ?_)
  intro u V1 hV1 hu
  obtain rfl := sureInt _ _ _ hu
  refine T.pure (.int .i64 (IntKind.i64.wrap (18 + r1))) (by kernel_rfl) (fun _ => by kernel_rfl) ?_
  refine T.pure (.int .i64 (IntKind.i64.wrap (18 + r1))) (by kernel_rfl) (fun _ => by kernel_rfl) ?_
  refine T.nil ?_
  refine T.seq ?_
  refine T.seq ?_
  refine T.region ?_
  refine T.pure (.int .i64 (IntKind.i64.wrap (18 + r1))) (by kernel_rfl) (fun _ => by kernel_rfl) ?_
  refine T.pure (.string p0) (by kernel_rfl) (fun _ => by kernel_rfl) ?_
  refine T.pure (.int .i64 (p0.size : Int)) (by kernel_rfl) (fun _ => by kernel_rfl) ?_
  refine T.pure (.bool (decide ((p0.size : Int) < (IntKind.i64.wrap (18 + r1))))) (by kernel_rfl) (fun _ => by kernel_rfl) ?_
  refine T.nil ?_
  refine T.cond (decide ((p0.size : Int) < (IntKind.i64.wrap (18 + r1)))) (by kernel_rfl) (by kernel_rfl) (fun hc2 => ?_) (fun hc2 => ?_)
  ·
   rw [hc2, cond_true] at hF
   refine T.seq ?_
   refine T.region ?_
   refine T.pure (.agg #[.int .i64 0, .int .i64 0, .int .i64 0, .int .i64 0, .int .i64 0, .string (ByteArray.mk #[])]) (by kernel_rfl) (fun _ => by kernel_rfl) ?_
   refine T.step (W1.store 0 [.int .i64 0, .int .i64 0, .int .i64 0, .int .i64 0, .int .i64 0, .string (ByteArray.mk #[])] [box b1 37 [.int .i64 0, .int .i64 0, .int .i64 0, .int .i64 0, .int .i64 0, .string (ByteArray.mk #[])]] (by rfl) rfl (by kernel_rfl) (fun w' hw => exec_store (vs := [.int .i64 0, .int .i64 0, .int .i64 0, .int .i64 0, .int .i64 0, .string (ByteArray.mk #[])]) rfl rfl rfl rfl (by kernel_rfl) (one_of rfl) (by simp) rfl hw) ?_)
   refine T.pure (.int .i64 0) (by kernel_rfl) (fun _ => by kernel_rfl) ?_
   refine T.pure (.int .i64 7) (by kernel_rfl) (fun _ => by kernel_rfl) ?_
   refine T.nil ?_
   cases hF
   refine T.ret rfl ?_
   exact T.ret3 rfl (ResIs.cellN 0 rfl (by rfl) (fun _ => by kernel_rfl) (fun _ => by kernel_rfl)) (ResIs.tmp rfl) (ResIs.tmp rfl) fun w' hh => ⟨_, rfl, hh.below, (vT3.mk (vAg.mk rfl) (show _ from rfl) (show _ from rfl))⟩
  ·
   rw [hc2, cond_false] at hF
   refine T.skip_code ?_
   refine T.seq ?_
   obtain ⟨s2, hb3, hF⟩ := Option.bind_eq_some_iff.1 hF
   obtain ⟨s3, hb4, hF⟩ := Option.bind_eq_some_iff.1 hF
   obtain ⟨s4, hb5, hF⟩ := Option.bind_eq_some_iff.1 hF
   obtain ⟨s5, hb6, hF⟩ := Option.bind_eq_some_iff.1 hF
   obtain ⟨s6, hb7, hF⟩ := Option.bind_eq_some_iff.1 hF
   obtain ⟨s7, hb8, hF⟩ := Option.bind_eq_some_iff.1 hF
   obtain ⟨r2, hb9, hF⟩ := Option.bind_eq_some_iff.1 hF
   obtain ⟨r3, hb10, hF⟩ := Option.bind_eq_some_iff.1 hF
   obtain ⟨r4, hb11, hF⟩ := Option.bind_eq_some_iff.1 hF
   obtain ⟨r5, hb12, hF⟩ := Option.bind_eq_some_iff.1 hF
   obtain ⟨r6, hb13, hF⟩ := Option.bind_eq_some_iff.1 hF
   refine T.mid (fun a w' => ∃ (b2 : Nat) (V7 : View), View.le V1 V7 ∧ Fr 46 [(2, .pointer (some ⟨b1, 0, none⟩)), (5, .int .i64 (IntKind.i64.wrap (18 + r1))), (6, .pointer (some ⟨b2, 0, none⟩))] a ∧ Hp w V7 [box b2 37 [.int .i64 r2, .int .i64 r3, .int .i64 r4, .int .i64 r5, .int .i64 r6, .string s7], box b1 37 [.int .i64 0, .int .i64 0, .int .i64 0, .int .i64 0, .int .i64 0, .string (ByteArray.mk #[])]] w') ?_ ?_
   ·
    refine T.held [box b1 37 [.int .i64 0, .int .i64 0, .int .i64 0, .int .i64 0, .int .i64 0, .string (ByteArray.mk #[])]] (by kernel_rfl) ?_
    refine TA.take 0 (.string p0) rfl (by kernel_rfl) (by kernel_rfl) (by kernel_rfl) (fun _ _ _ h => h) (Hp.old (View.le_refl _) hV1 (.cons_cons _ List.Sublist.slnil) (OldAll.box OldAll.nil)) (by kernel_rfl) (fun _ _ => by kernel_rfl) ?_
    refine TA.take 1 (.string s2) rfl (by kernel_rfl) (by kernel_rfl) (by kernel_rfl) (fun _ _ _ h => h) (Hp.old (View.le_refl _) hV1 (.cons_cons _ List.Sublist.slnil) (OldAll.box OldAll.nil)) (by kernel_rfl) (fun w' hh => exec_slice_str_hi rfl rfl rfl (by kernel_rfl) hb3) ?_
    refine TA.take 3 (.string p0) rfl (by kernel_rfl) (by kernel_rfl) (by kernel_rfl) (fun _ _ _ h => h) (Hp.old (View.le_refl _) hV1 (.cons_cons _ List.Sublist.slnil) (OldAll.box OldAll.nil)) (by kernel_rfl) (fun _ _ => by kernel_rfl) ?_
    refine TA.take 4 (.string s3) rfl (by kernel_rfl) (by kernel_rfl) (by kernel_rfl) (fun _ _ _ h => h) (Hp.old (View.le_refl _) hV1 (.cons_cons _ List.Sublist.slnil) (OldAll.box OldAll.nil)) (by kernel_rfl) (fun w' hh => exec_slice_str rfl rfl rfl rfl (by kernel_rfl) hb4) ?_
    refine TA.take 6 (.string p0) rfl (by kernel_rfl) (by kernel_rfl) (by kernel_rfl) (fun _ _ _ h => h) (Hp.old (View.le_refl _) hV1 (.cons_cons _ List.Sublist.slnil) (OldAll.box OldAll.nil)) (by kernel_rfl) (fun _ _ => by kernel_rfl) ?_
    refine TA.take 7 (.string s4) rfl (by kernel_rfl) (by kernel_rfl) (by kernel_rfl) (fun _ _ _ h => h) (Hp.old (View.le_refl _) hV1 (.cons_cons _ List.Sublist.slnil) (OldAll.box OldAll.nil)) (by kernel_rfl) (fun w' hh => exec_slice_str rfl rfl rfl rfl (by kernel_rfl) hb5) ?_
    refine TA.take 10 (.string p0) rfl (by kernel_rfl) (by kernel_rfl) (by kernel_rfl) (fun _ _ _ h => h) (Hp.old (View.le_refl _) hV1 (.cons_cons _ List.Sublist.slnil) (OldAll.box OldAll.nil)) (by kernel_rfl) (fun _ _ => by kernel_rfl) ?_
    refine TA.take 11 (.string s5) rfl (by kernel_rfl) (by kernel_rfl) (by kernel_rfl) (fun _ _ _ h => h) (Hp.old (View.le_refl _) hV1 (.cons_cons _ List.Sublist.slnil) (OldAll.box OldAll.nil)) (by kernel_rfl) (fun w' hh => exec_slice_str rfl rfl rfl rfl (by kernel_rfl) hb6) ?_
    refine TA.take 13 (.string p0) rfl (by kernel_rfl) (by kernel_rfl) (by kernel_rfl) (fun _ _ _ h => h) (Hp.old (View.le_refl _) hV1 (.cons_cons _ List.Sublist.slnil) (OldAll.box OldAll.nil)) (by kernel_rfl) (fun _ _ => by kernel_rfl) ?_
    refine TA.take 14 (.string s6) rfl (by kernel_rfl) (by kernel_rfl) (by kernel_rfl) (fun _ _ _ h => h) (Hp.old (View.le_refl _) hV1 (.cons_cons _ List.Sublist.slnil) (OldAll.box OldAll.nil)) (by kernel_rfl) (fun w' hh => exec_slice_str rfl rfl rfl rfl (by kernel_rfl) hb7) ?_
    refine TA.take 16 (.string p0) rfl (by kernel_rfl) (by kernel_rfl) (by kernel_rfl) (fun _ _ _ h => h) (Hp.old (View.le_refl _) hV1 (.cons_cons _ List.Sublist.slnil) (OldAll.box OldAll.nil)) (by kernel_rfl) (fun _ _ => by kernel_rfl) ?_
    refine TA.take 17 (.int .i64 (IntKind.i64.wrap (18 + r1))) rfl (by kernel_rfl) (by kernel_rfl) (by kernel_rfl) (fun _ _ _ h => h) (Hp.old (View.le_refl _) hV1 (.cons_cons _ List.Sublist.slnil) (OldAll.box OldAll.nil)) (by kernel_rfl) (fun _ _ => by kernel_rfl) ?_
    refine TA.take 18 (.string s7) rfl (by kernel_rfl) (by kernel_rfl) (by kernel_rfl) (fun _ _ _ h => h) (Hp.old (View.le_refl _) hV1 (.cons_cons _ List.Sublist.slnil) (OldAll.box OldAll.nil)) (by kernel_rfl) (fun w' hh => exec_slice_str rfl rfl rfl rfl (by kernel_rfl) hb8) ?_
    refine TA.all [2, 20] (by kernel_rfl) rfl ⟨?_, ?_, trivial⟩
    ·
     refine TA.br rfl (W1.call (vSc eInt) r2 23 #[.string s2] (by kernel_rfl) (fun _ => by kernel_rfl) (fun w' hh => annalref_Big_l F s2 r2 hb9 w' ) ?_)
     intro u V2 hV2 hu
     obtain rfl := sureInt _ _ _ hu
     refine TA.on (Hp.old hV2 hV1 (.cons_cons _ List.Sublist.slnil) (OldAll.box OldAll.nil)) ?_
     refine TA.all [5, 20] (by kernel_rfl) rfl ⟨?_, ?_, trivial⟩
     ·
      refine TA.br rfl (W1.call (vSc eInt) r3 23 #[.string s3] (by kernel_rfl) (fun _ => by kernel_rfl) (fun w' hh => annalref_Big_l F s3 r3 hb10 w' ) ?_)
      intro u V3 hV3 hu
      obtain rfl := sureInt _ _ _ hu
      refine TA.on (Hp.old (View.le_trans hV2 hV3) hV1 (.cons_cons _ List.Sublist.slnil) (OldAll.box OldAll.nil)) ?_
      refine TA.all [8, 20] (by kernel_rfl) rfl ⟨?_, ?_, trivial⟩
      ·
       refine TA.br rfl (W1.call (vSc eInt) r4 23 #[.string s4] (by kernel_rfl) (fun _ => by kernel_rfl) (fun w' hh => annalref_Big_l F s4 r4 hb11 w' ) ?_)
       intro u V4 hV4 hu
       obtain rfl := sureInt _ _ _ hu
       refine TA.on (Hp.old (View.le_trans (View.le_trans hV2 hV3) hV4) hV1 (.cons_cons _ List.Sublist.slnil) (OldAll.box OldAll.nil)) ?_
       refine TA.take 9 (.agg #[.int .i64 r2, .int .i64 r3, .int .i64 r4]) rfl (by kernel_rfl) (by kernel_rfl) (by kernel_rfl) (fun _ _ _ h => h) (Hp.old (View.le_trans (View.le_trans hV2 hV3) hV4) hV1 (.cons_cons _ List.Sublist.slnil) (OldAll.box OldAll.nil)) (by kernel_rfl) (fun _ _ => by kernel_rfl) ?_
       refine TA.all [12, 20] (by kernel_rfl) rfl ⟨?_, ?_, trivial⟩
       ·
        refine TA.br rfl (W1.call (vSc eInt) r5 23 #[.string s5] (by kernel_rfl) (fun _ => by kernel_rfl) (fun w' hh => annalref_Big_l F s5 r5 hb12 w' ) ?_)
        intro u V5 hV5 hu
        obtain rfl := sureInt _ _ _ hu
        refine TA.on (Hp.old (View.le_trans (View.le_trans (View.le_trans hV2 hV3) hV4) hV5) hV1 (.cons_cons _ List.Sublist.slnil) (OldAll.box OldAll.nil)) ?_
        refine TA.all [15, 20] (by kernel_rfl) rfl ⟨?_, ?_, trivial⟩
        ·
         refine TA.br rfl (W1.call (vSc eInt) r6 23 #[.string s6] (by kernel_rfl) (fun _ => by kernel_rfl) (fun w' hh => annalref_Big_l F s6 r6 hb13 w' ) ?_)
         intro u V6 hV6 hu
         obtain rfl := sureInt _ _ _ hu
         refine TA.on (Hp.old (View.le_trans (View.le_trans (View.le_trans (View.le_trans hV2 hV3) hV4) hV5) hV6) hV1 (.cons_cons _ List.Sublist.slnil) (OldAll.box OldAll.nil)) ?_
         refine TA.take 19 (.agg #[.int .i64 r2, .int .i64 r3, .int .i64 r4, .int .i64 r5, .int .i64 r6, .string s7]) rfl (by kernel_rfl) (by kernel_rfl) (by kernel_rfl) (fun _ _ _ h => h) (Hp.old (View.le_trans (View.le_trans (View.le_trans (View.le_trans hV2 hV3) hV4) hV5) hV6) hV1 (.cons_cons _ List.Sublist.slnil) (OldAll.box OldAll.nil)) (by kernel_rfl) (fun _ _ => by kernel_rfl) ?_
         refine TA.all [20] (by kernel_rfl) rfl ⟨?_, trivial⟩
         refine TA.br rfl (W1.new 37 [.int .i64 0, .int .i64 0, .int .i64 0, .int .i64 0, .int .i64 0, .string (ByteArray.mk #[])] (fun b => .pointer (some ⟨b, 0, none⟩)) (by kernel_rfl) (fun _ => by kernel_rfl) (fun b2 => ?_))
         refine TA.on (Hp.old (View.le_trans (View.le_trans (View.le_trans (View.le_trans hV2 hV3) hV4) hV5) hV6) hV1 (.cons _ (.cons_cons _ List.Sublist.slnil)) (OldAll.box OldAll.nil)) ?_
         refine TA.all [21] (by kernel_rfl) rfl ⟨?_, trivial⟩
         refine TA.br rfl (W1.store 0 [.int .i64 r2, .int .i64 r3, .int .i64 r4, .int .i64 r5, .int .i64 r6, .string s7] [box b2 37 [.int .i64 r2, .int .i64 r3, .int .i64 r4, .int .i64 r5, .int .i64 r6, .string s7], box b1 37 [.int .i64 0, .int .i64 0, .int .i64 0, .int .i64 0, .int .i64 0, .string (ByteArray.mk #[])]] (by rfl) rfl (by kernel_rfl) (fun w' hw => exec_store (vs := [.int .i64 r2, .int .i64 r3, .int .i64 r4, .int .i64 r5, .int .i64 r6, .string s7]) rfl rfl rfl rfl (by kernel_rfl) (one_of rfl) (by simp) rfl hw) ?_)
         refine TA.on (Hp.old (View.le_trans (View.le_trans (View.le_trans (View.le_trans hV2 hV3) hV4) hV5) hV6) hV1 (.cons _ (.cons_cons _ List.Sublist.slnil)) (OldAll.box OldAll.nil)) ?_
         refine TA.done (by kernel_rfl) ?_
         exact fun a w' hf hh => Exists.intro b2 (Exists.intro V6 (And.intro (View.le_trans (View.le_trans (View.le_trans (View.le_trans hV2 hV3) hV4) hV5) hV6) (And.intro ((((Fr.nil hf).pick hf 6 rfl).pick hf 5 rfl).pick hf 2 rfl) (hh.sub (.cons_cons _ (.cons_cons _ List.Sublist.slnil))))))
        ·
         refine TA.br rfl (W1.new 37 [.int .i64 0, .int .i64 0, .int .i64 0, .int .i64 0, .int .i64 0, .string (ByteArray.mk #[])] (fun b => .pointer (some ⟨b, 0, none⟩)) (by kernel_rfl) (fun _ => by kernel_rfl) (fun b2 => ?_))
         refine TA.on (Hp.old (View.le_trans (View.le_trans (View.le_trans hV2 hV3) hV4) hV5) hV1 (.cons _ (.cons_cons _ List.Sublist.slnil)) (OldAll.box OldAll.nil)) ?_
         refine TA.all [15] (by kernel_rfl) rfl ⟨?_, trivial⟩
         refine TA.br rfl (W1.call (vSc eInt) r6 23 #[.string s6] (by kernel_rfl) (fun _ => by kernel_rfl) (fun w' hh => annalref_Big_l F s6 r6 hb13 w' ) ?_)
         intro u V6 hV6 hu
         obtain rfl := sureInt _ _ _ hu
         refine TA.on (Hp.old (View.le_trans (View.le_trans (View.le_trans (View.le_trans hV2 hV3) hV4) hV5) hV6) hV1 (.cons _ (.cons_cons _ List.Sublist.slnil)) (OldAll.box OldAll.nil)) ?_
         refine TA.take 19 (.agg #[.int .i64 r2, .int .i64 r3, .int .i64 r4, .int .i64 r5, .int .i64 r6, .string s7]) rfl (by kernel_rfl) (by kernel_rfl) (by kernel_rfl) (fun _ _ _ h => h) (Hp.old (View.le_trans (View.le_trans (View.le_trans (View.le_trans hV2 hV3) hV4) hV5) hV6) hV1 (.cons _ (.cons_cons _ List.Sublist.slnil)) (OldAll.box OldAll.nil)) (by kernel_rfl) (fun _ _ => by kernel_rfl) ?_
         refine TA.all [21] (by kernel_rfl) rfl ⟨?_, trivial⟩
         refine TA.br rfl (W1.store 0 [.int .i64 r2, .int .i64 r3, .int .i64 r4, .int .i64 r5, .int .i64 r6, .string s7] [box b2 37 [.int .i64 r2, .int .i64 r3, .int .i64 r4, .int .i64 r5, .int .i64 r6, .string s7], box b1 37 [.int .i64 0, .int .i64 0, .int .i64 0, .int .i64 0, .int .i64 0, .string (ByteArray.mk #[])]] (by rfl) rfl (by kernel_rfl) (fun w' hw => exec_store (vs := [.int .i64 r2, .int .i64 r3, .int .i64 r4, .int .i64 r5, .int .i64 r6, .string s7]) rfl rfl rfl rfl (by kernel_rfl) (one_of rfl) (by simp) rfl hw) ?_)
         refine TA.on (Hp.old (View.le_trans (View.le_trans (View.le_trans (View.le_trans hV2 hV3) hV4) hV5) hV6) hV1 (.cons _ (.cons_cons _ List.Sublist.slnil)) (OldAll.box OldAll.nil)) ?_
         refine TA.done (by kernel_rfl) ?_
         exact fun a w' hf hh => Exists.intro b2 (Exists.intro V6 (And.intro (View.le_trans (View.le_trans (View.le_trans (View.le_trans hV2 hV3) hV4) hV5) hV6) (And.intro ((((Fr.nil hf).pick hf 6 rfl).pick hf 5 rfl).pick hf 2 rfl) (hh.sub (.cons_cons _ (.cons_cons _ List.Sublist.slnil))))))
       ·
        refine TA.br rfl (W1.new 37 [.int .i64 0, .int .i64 0, .int .i64 0, .int .i64 0, .int .i64 0, .string (ByteArray.mk #[])] (fun b => .pointer (some ⟨b, 0, none⟩)) (by kernel_rfl) (fun _ => by kernel_rfl) (fun b2 => ?_))
        refine TA.on (Hp.old (View.le_trans (View.le_trans hV2 hV3) hV4) hV1 (.cons _ (.cons_cons _ List.Sublist.slnil)) (OldAll.box OldAll.nil)) ?_
        refine TA.all [12] (by kernel_rfl) rfl ⟨?_, trivial⟩
        refine TA.br rfl (W1.call (vSc eInt) r5 23 #[.string s5] (by kernel_rfl) (fun _ => by kernel_rfl) (fun w' hh => annalref_Big_l F s5 r5 hb12 w' ) ?_)
        intro u V5 hV5 hu
        obtain rfl := sureInt _ _ _ hu
        refine TA.on (Hp.old (View.le_trans (View.le_trans (View.le_trans hV2 hV3) hV4) hV5) hV1 (.cons _ (.cons_cons _ List.Sublist.slnil)) (OldAll.box OldAll.nil)) ?_
        refine TA.all [15] (by kernel_rfl) rfl ⟨?_, trivial⟩
        refine TA.br rfl (W1.call (vSc eInt) r6 23 #[.string s6] (by kernel_rfl) (fun _ => by kernel_rfl) (fun w' hh => annalref_Big_l F s6 r6 hb13 w' ) ?_)
        intro u V6 hV6 hu
        obtain rfl := sureInt _ _ _ hu
        refine TA.on (Hp.old (View.le_trans (View.le_trans (View.le_trans (View.le_trans hV2 hV3) hV4) hV5) hV6) hV1 (.cons _ (.cons_cons _ List.Sublist.slnil)) (OldAll.box OldAll.nil)) ?_
        refine TA.take 19 (.agg #[.int .i64 r2, .int .i64 r3, .int .i64 r4, .int .i64 r5, .int .i64 r6, .string s7]) rfl (by kernel_rfl) (by kernel_rfl) (by kernel_rfl) (fun _ _ _ h => h) (Hp.old (View.le_trans (View.le_trans (View.le_trans (View.le_trans hV2 hV3) hV4) hV5) hV6) hV1 (.cons _ (.cons_cons _ List.Sublist.slnil)) (OldAll.box OldAll.nil)) (by kernel_rfl) (fun _ _ => by kernel_rfl) ?_
        refine TA.all [21] (by kernel_rfl) rfl ⟨?_, trivial⟩
        refine TA.br rfl (W1.store 0 [.int .i64 r2, .int .i64 r3, .int .i64 r4, .int .i64 r5, .int .i64 r6, .string s7] [box b2 37 [.int .i64 r2, .int .i64 r3, .int .i64 r4, .int .i64 r5, .int .i64 r6, .string s7], box b1 37 [.int .i64 0, .int .i64 0, .int .i64 0, .int .i64 0, .int .i64 0, .string (ByteArray.mk #[])]] (by rfl) rfl (by kernel_rfl) (fun w' hw => exec_store (vs := [.int .i64 r2, .int .i64 r3, .int .i64 r4, .int .i64 r5, .int .i64 r6, .string s7]) rfl rfl rfl rfl (by kernel_rfl) (one_of rfl) (by simp) rfl hw) ?_)
        refine TA.on (Hp.old (View.le_trans (View.le_trans (View.le_trans (View.le_trans hV2 hV3) hV4) hV5) hV6) hV1 (.cons _ (.cons_cons _ List.Sublist.slnil)) (OldAll.box OldAll.nil)) ?_
        refine TA.done (by kernel_rfl) ?_
        exact fun a w' hf hh => Exists.intro b2 (Exists.intro V6 (And.intro (View.le_trans (View.le_trans (View.le_trans (View.le_trans hV2 hV3) hV4) hV5) hV6) (And.intro ((((Fr.nil hf).pick hf 6 rfl).pick hf 5 rfl).pick hf 2 rfl) (hh.sub (.cons_cons _ (.cons_cons _ List.Sublist.slnil))))))
      ·
       refine TA.br rfl (W1.new 37 [.int .i64 0, .int .i64 0, .int .i64 0, .int .i64 0, .int .i64 0, .string (ByteArray.mk #[])] (fun b => .pointer (some ⟨b, 0, none⟩)) (by kernel_rfl) (fun _ => by kernel_rfl) (fun b2 => ?_))
       refine TA.on (Hp.old (View.le_trans hV2 hV3) hV1 (.cons _ (.cons_cons _ List.Sublist.slnil)) (OldAll.box OldAll.nil)) ?_
       refine TA.all [8] (by kernel_rfl) rfl ⟨?_, trivial⟩
       refine TA.br rfl (W1.call (vSc eInt) r4 23 #[.string s4] (by kernel_rfl) (fun _ => by kernel_rfl) (fun w' hh => annalref_Big_l F s4 r4 hb11 w' ) ?_)
       intro u V4 hV4 hu
       obtain rfl := sureInt _ _ _ hu
       refine TA.on (Hp.old (View.le_trans (View.le_trans hV2 hV3) hV4) hV1 (.cons _ (.cons_cons _ List.Sublist.slnil)) (OldAll.box OldAll.nil)) ?_
       refine TA.take 9 (.agg #[.int .i64 r2, .int .i64 r3, .int .i64 r4]) rfl (by kernel_rfl) (by kernel_rfl) (by kernel_rfl) (fun _ _ _ h => h) (Hp.old (View.le_trans (View.le_trans hV2 hV3) hV4) hV1 (.cons _ (.cons_cons _ List.Sublist.slnil)) (OldAll.box OldAll.nil)) (by kernel_rfl) (fun _ _ => by kernel_rfl) ?_
       refine TA.all [12] (by kernel_rfl) rfl ⟨?_, trivial⟩
       refine TA.br rfl (W1.call (vSc eInt) r5 23 #[.string s5] (by kernel_rfl) (fun _ => by kernel_rfl) (fun w' hh => annalref_Big_l F s5 r5 hb12 w' ) ?_)
       intro u V5 hV5 hu
       obtain rfl := sureInt _ _ _ hu
       refine TA.on (Hp.old (View.le_trans (View.le_trans (View.le_trans hV2 hV3) hV4) hV5) hV1 (.cons _ (.cons_cons _ List.Sublist.slnil)) (OldAll.box OldAll.nil)) ?_
       refine TA.all [15] (by kernel_rfl) rfl ⟨?_, trivial⟩
       refine TA.br rfl (W1.call (vSc eInt) r6 23 #[.string s6] (by kernel_rfl) (fun _ => by kernel_rfl) (fun w' hh => annalref_Big_l F s6 r6 hb13 w' ) ?_)
       intro u V6 hV6 hu
       obtain rfl := sureInt _ _ _ hu
       refine TA.on (Hp.old (View.le_trans (View.le_trans (View.le_trans (View.le_trans hV2 hV3) hV4) hV5) hV6) hV1 (.cons _ (.cons_cons _ List.Sublist.slnil)) (OldAll.box OldAll.nil)) ?_
       refine TA.take 19 (.agg #[.int .i64 r2, .int .i64 r3, .int .i64 r4, .int .i64 r5, .int .i64 r6, .string s7]) rfl (by kernel_rfl) (by kernel_rfl) (by kernel_rfl) (fun _ _ _ h => h) (Hp.old (View.le_trans (View.le_trans (View.le_trans (View.le_trans hV2 hV3) hV4) hV5) hV6) hV1 (.cons _ (.cons_cons _ List.Sublist.slnil)) (OldAll.box OldAll.nil)) (by kernel_rfl) (fun _ _ => by kernel_rfl) ?_
       refine TA.all [21] (by kernel_rfl) rfl ⟨?_, trivial⟩
       refine TA.br rfl (W1.store 0 [.int .i64 r2, .int .i64 r3, .int .i64 r4, .int .i64 r5, .int .i64 r6, .string s7] [box b2 37 [.int .i64 r2, .int .i64 r3, .int .i64 r4, .int .i64 r5, .int .i64 r6, .string s7], box b1 37 [.int .i64 0, .int .i64 0, .int .i64 0, .int .i64 0, .int .i64 0, .string (ByteArray.mk #[])]] (by rfl) rfl (by kernel_rfl) (fun w' hw => exec_store (vs := [.int .i64 r2, .int .i64 r3, .int .i64 r4, .int .i64 r5, .int .i64 r6, .string s7]) rfl rfl rfl rfl (by kernel_rfl) (one_of rfl) (by simp) rfl hw) ?_)
       refine TA.on (Hp.old (View.le_trans (View.le_trans (View.le_trans (View.le_trans hV2 hV3) hV4) hV5) hV6) hV1 (.cons _ (.cons_cons _ List.Sublist.slnil)) (OldAll.box OldAll.nil)) ?_
       refine TA.done (by kernel_rfl) ?_
       exact fun a w' hf hh => Exists.intro b2 (Exists.intro V6 (And.intro (View.le_trans (View.le_trans (View.le_trans (View.le_trans hV2 hV3) hV4) hV5) hV6) (And.intro ((((Fr.nil hf).pick hf 6 rfl).pick hf 5 rfl).pick hf 2 rfl) (hh.sub (.cons_cons _ (.cons_cons _ List.Sublist.slnil))))))
     ·
      refine TA.br rfl (W1.new 37 [.int .i64 0, .int .i64 0, .int .i64 0, .int .i64 0, .int .i64 0, .string (ByteArray.mk #[])] (fun b => .pointer (some ⟨b, 0, none⟩)) (by kernel_rfl) (fun _ => by kernel_rfl) (fun b2 => ?_))
      refine TA.on (Hp.old hV2 hV1 (.cons _ (.cons_cons _ List.Sublist.slnil)) (OldAll.box OldAll.nil)) ?_
      refine TA.all [5] (by kernel_rfl) rfl ⟨?_, trivial⟩
      refine TA.br rfl (W1.call (vSc eInt) r3 23 #[.string s3] (by kernel_rfl) (fun _ => by kernel_rfl) (fun w' hh => annalref_Big_l F s3 r3 hb10 w' ) ?_)
      intro u V3 hV3 hu
      obtain rfl := sureInt _ _ _ hu
      refine TA.on (Hp.old (View.le_trans hV2 hV3) hV1 (.cons _ (.cons_cons _ List.Sublist.slnil)) (OldAll.box OldAll.nil)) ?_
      refine TA.all [8] (by kernel_rfl) rfl ⟨?_, trivial⟩
      refine TA.br rfl (W1.call (vSc eInt) r4 23 #[.string s4] (by kernel_rfl) (fun _ => by kernel_rfl) (fun w' hh => annalref_Big_l F s4 r4 hb11 w' ) ?_)
      intro u V4 hV4 hu
      obtain rfl := sureInt _ _ _ hu
      refine TA.on (Hp.old (View.le_trans (View.le_trans hV2 hV3) hV4) hV1 (.cons _ (.cons_cons _ List.Sublist.slnil)) (OldAll.box OldAll.nil)) ?_
      refine TA.take 9 (.agg #[.int .i64 r2, .int .i64 r3, .int .i64 r4]) rfl (by kernel_rfl) (by kernel_rfl) (by kernel_rfl) (fun _ _ _ h => h) (Hp.old (View.le_trans (View.le_trans hV2 hV3) hV4) hV1 (.cons _ (.cons_cons _ List.Sublist.slnil)) (OldAll.box OldAll.nil)) (by kernel_rfl) (fun _ _ => by kernel_rfl) ?_
      refine TA.all [12] (by kernel_rfl) rfl ⟨?_, trivial⟩
      refine TA.br rfl (W1.call (vSc eInt) r5 23 #[.string s5] (by kernel_rfl) (fun _ => by kernel_rfl) (fun w' hh => annalref_Big_l F s5 r5 hb12 w' ) ?_)
      intro u V5 hV5 hu
      obtain rfl := sureInt _ _ _ hu
      refine TA.on (Hp.old (View.le_trans (View.le_trans (View.le_trans hV2 hV3) hV4) hV5) hV1 (.cons _ (.cons_cons _ List.Sublist.slnil)) (OldAll.box OldAll.nil)) ?_
      refine TA.all [15] (by kernel_rfl) rfl ⟨?_, trivial⟩
      refine TA.br rfl (W1.call (vSc eInt) r6 23 #[.string s6] (by kernel_rfl) (fun _ => by kernel_rfl) (fun w' hh => annalref_Big_l F s6 r6 hb13 w' ) ?_)
      intro u V6 hV6 hu
      obtain rfl := sureInt _ _ _ hu
      refine TA.on (Hp.old (View.le_trans (View.le_trans (View.le_trans (View.le_trans hV2 hV3) hV4) hV5) hV6) hV1 (.cons _ (.cons_cons _ List.Sublist.slnil)) (OldAll.box OldAll.nil)) ?_
      refine TA.take 19 (.agg #[.int .i64 r2, .int .i64 r3, .int .i64 r4, .int .i64 r5, .int .i64 r6, .string s7]) rfl (by kernel_rfl) (by kernel_rfl) (by kernel_rfl) (fun _ _ _ h => h) (Hp.old (View.le_trans (View.le_trans (View.le_trans (View.le_trans hV2 hV3) hV4) hV5) hV6) hV1 (.cons _ (.cons_cons _ List.Sublist.slnil)) (OldAll.box OldAll.nil)) (by kernel_rfl) (fun _ _ => by kernel_rfl) ?_
      refine TA.all [21] (by kernel_rfl) rfl ⟨?_, trivial⟩
      refine TA.br rfl (W1.store 0 [.int .i64 r2, .int .i64 r3, .int .i64 r4, .int .i64 r5, .int .i64 r6, .string s7] [box b2 37 [.int .i64 r2, .int .i64 r3, .int .i64 r4, .int .i64 r5, .int .i64 r6, .string s7], box b1 37 [.int .i64 0, .int .i64 0, .int .i64 0, .int .i64 0, .int .i64 0, .string (ByteArray.mk #[])]] (by rfl) rfl (by kernel_rfl) (fun w' hw => exec_store (vs := [.int .i64 r2, .int .i64 r3, .int .i64 r4, .int .i64 r5, .int .i64 r6, .string s7]) rfl rfl rfl rfl (by kernel_rfl) (one_of rfl) (by simp) rfl hw) ?_)
      refine TA.on (Hp.old (View.le_trans (View.le_trans (View.le_trans (View.le_trans hV2 hV3) hV4) hV5) hV6) hV1 (.cons _ (.cons_cons _ List.Sublist.slnil)) (OldAll.box OldAll.nil)) ?_
      refine TA.done (by kernel_rfl) ?_
      exact fun a w' hf hh => Exists.intro b2 (Exists.intro V6 (And.intro (View.le_trans (View.le_trans (View.le_trans (View.le_trans hV2 hV3) hV4) hV5) hV6) (And.intro ((((Fr.nil hf).pick hf 6 rfl).pick hf 5 rfl).pick hf 2 rfl) (hh.sub (.cons_cons _ (.cons_cons _ List.Sublist.slnil))))))
    ·
     refine TA.br rfl (W1.new 37 [.int .i64 0, .int .i64 0, .int .i64 0, .int .i64 0, .int .i64 0, .string (ByteArray.mk #[])] (fun b => .pointer (some ⟨b, 0, none⟩)) (by kernel_rfl) (fun _ => by kernel_rfl) (fun b2 => ?_))
     refine TA.on (Hp.old (View.le_refl _) hV1 (.cons _ (.cons_cons _ List.Sublist.slnil)) (OldAll.box OldAll.nil)) ?_
     refine TA.all [2] (by kernel_rfl) rfl ⟨?_, trivial⟩
     refine TA.br rfl (W1.call (vSc eInt) r2 23 #[.string s2] (by kernel_rfl) (fun _ => by kernel_rfl) (fun w' hh => annalref_Big_l F s2 r2 hb9 w' ) ?_)
     intro u V2 hV2 hu
     obtain rfl := sureInt _ _ _ hu
     refine TA.on (Hp.old hV2 hV1 (.cons _ (.cons_cons _ List.Sublist.slnil)) (OldAll.box OldAll.nil)) ?_
     refine TA.all [5] (by kernel_rfl) rfl ⟨?_, trivial⟩
     refine TA.br rfl (W1.call (vSc eInt) r3 23 #[.string s3] (by kernel_rfl) (fun _ => by kernel_rfl) (fun w' hh => annalref_Big_l F s3 r3 hb10 w' ) ?_)
     intro u V3 hV3 hu
     obtain rfl := sureInt _ _ _ hu
     refine TA.on (Hp.old (View.le_trans hV2 hV3) hV1 (.cons _ (.cons_cons _ List.Sublist.slnil)) (OldAll.box OldAll.nil)) ?_
     refine TA.all [8] (by kernel_rfl) rfl ⟨?_, trivial⟩
     refine TA.br rfl (W1.call (vSc eInt) r4 23 #[.string s4] (by kernel_rfl) (fun _ => by kernel_rfl) (fun w' hh => annalref_Big_l F s4 r4 hb11 w' ) ?_)
     intro u V4 hV4 hu
     obtain rfl := sureInt _ _ _ hu
     refine TA.on (Hp.old (View.le_trans (View.le_trans hV2 hV3) hV4) hV1 (.cons _ (.cons_cons _ List.Sublist.slnil)) (OldAll.box OldAll.nil)) ?_
     refine TA.take 9 (.agg #[.int .i64 r2, .int .i64 r3, .int .i64 r4]) rfl (by kernel_rfl) (by kernel_rfl) (by kernel_rfl) (fun _ _ _ h => h) (Hp.old (View.le_trans (View.le_trans hV2 hV3) hV4) hV1 (.cons _ (.cons_cons _ List.Sublist.slnil)) (OldAll.box OldAll.nil)) (by kernel_rfl) (fun _ _ => by kernel_rfl) ?_
     refine TA.all [12] (by kernel_rfl) rfl ⟨?_, trivial⟩
     refine TA.br rfl (W1.call (vSc eInt) r5 23 #[.string s5] (by kernel_rfl) (fun _ => by kernel_rfl) (fun w' hh => annalref_Big_l F s5 r5 hb12 w' ) ?_)
     intro u V5 hV5 hu
     obtain rfl := sureInt _ _ _ hu
     refine TA.on (Hp.old (View.le_trans (View.le_trans (View.le_trans hV2 hV3) hV4) hV5) hV1 (.cons _ (.cons_cons _ List.Sublist.slnil)) (OldAll.box OldAll.nil)) ?_
     refine TA.all [15] (by kernel_rfl) rfl ⟨?_, trivial⟩
     refine TA.br rfl (W1.call (vSc eInt) r6 23 #[.string s6] (by kernel_rfl) (fun _ => by kernel_rfl) (fun w' hh => annalref_Big_l F s6 r6 hb13 w' ) ?_)
     intro u V6 hV6 hu
     obtain rfl := sureInt _ _ _ hu
     refine TA.on (Hp.old (View.le_trans (View.le_trans (View.le_trans (View.le_trans hV2 hV3) hV4) hV5) hV6) hV1 (.cons _ (.cons_cons _ List.Sublist.slnil)) (OldAll.box OldAll.nil)) ?_
     refine TA.take 19 (.agg #[.int .i64 r2, .int .i64 r3, .int .i64 r4, .int .i64 r5, .int .i64 r6, .string s7]) rfl (by kernel_rfl) (by kernel_rfl) (by kernel_rfl) (fun _ _ _ h => h) (Hp.old (View.le_trans (View.le_trans (View.le_trans (View.le_trans hV2 hV3) hV4) hV5) hV6) hV1 (.cons _ (.cons_cons _ List.Sublist.slnil)) (OldAll.box OldAll.nil)) (by kernel_rfl) (fun _ _ => by kernel_rfl) ?_
     refine TA.all [21] (by kernel_rfl) rfl ⟨?_, trivial⟩
     refine TA.br rfl (W1.store 0 [.int .i64 r2, .int .i64 r3, .int .i64 r4, .int .i64 r5, .int .i64 r6, .string s7] [box b2 37 [.int .i64 r2, .int .i64 r3, .int .i64 r4, .int .i64 r5, .int .i64 r6, .string s7], box b1 37 [.int .i64 0, .int .i64 0, .int .i64 0, .int .i64 0, .int .i64 0, .string (ByteArray.mk #[])]] (by rfl) rfl (by kernel_rfl) (fun w' hw => exec_store (vs := [.int .i64 r2, .int .i64 r3, .int .i64 r4, .int .i64 r5, .int .i64 r6, .string s7]) rfl rfl rfl rfl (by kernel_rfl) (one_of rfl) (by simp) rfl hw) ?_)
     refine TA.on (Hp.old (View.le_trans (View.le_trans (View.le_trans (View.le_trans hV2 hV3) hV4) hV5) hV6) hV1 (.cons _ (.cons_cons _ List.Sublist.slnil)) (OldAll.box OldAll.nil)) ?_
     refine TA.done (by kernel_rfl) ?_
     exact fun a w' hf hh => Exists.intro b2 (Exists.intro V6 (And.intro (View.le_trans (View.le_trans (View.le_trans (View.le_trans hV2 hV3) hV4) hV5) hV6) (And.intro ((((Fr.nil hf).pick hf 6 rfl).pick hf 5 rfl).pick hf 2 rfl) (hh.sub (.cons_cons _ (.cons_cons _ List.Sublist.slnil))))))
   ·
    rintro a w' ⟨b2, V7, hV7, hf, hh⟩
    refine (?_ : T 46 w V7 [box b2 37 [.int .i64 r2, .int .i64 r3, .int .i64 r4, .int .i64 r5, .int .i64 r6, .string s7], box b1 37 [.int .i64 0, .int .i64 0, .int .i64 0, .int .i64 0, .int .i64 0, .string (ByteArray.mk #[])]] [(2, .pointer (some ⟨b1, 0, none⟩)), (5, .int .i64 (IntKind.i64.wrap (18 + r1))), (6, .pointer (some ⟨b2, 0, none⟩))] _) a w' hf hh
    clear hf hh
    refine T.seq ?_
    refine T.seq ?_
    refine T.region ?_
    refine T.look (.agg #[.int .i64 r2, .int .i64 r3, .int .i64 r4, .int .i64 r5, .int .i64 r6, .string s7]) (by kernel_rfl) (fun w' hh => exec_loadN (cs := [.int .i64 r2, .int .i64 r3, .int .i64 r4, .int .i64 r5, .int .i64 r6, .string s7]) rfl rfl (by kernel_rfl) (by kernel_rfl) (fun j u hj => (hh.box_at (i := 0) (cs := [.int .i64 r2, .int .i64 r3, .int .i64 r4, .int .i64 r5, .int .i64 r6, .string s7]) (by rfl) 0 j).trans (seg_at (n := 6) (by rfl) hj))) ?_
    obtain ⟨r7, hb14, hF⟩ := Option.bind_eq_some_iff.1 hF
    refine T.step (W1.call (vSc eInt) r7 43 #[.agg #[.int .i64 r2, .int .i64 r3, .int .i64 r4, .int .i64 r5, .int .i64 r6, .string s7]] (by kernel_rfl) (fun _ => by kernel_rfl) (fun w' hh => annalref_Elem_l (DElem.mk (DKey.mk r2 r3 r4) r5 r6 s7) r7 hb14 w' ) ?_)
    intro u V8 hV8 hu
    obtain rfl := sureInt _ _ _ hu
    refine T.pure (.bool (r7 != 0)) (by kernel_rfl) (fun _ => by kernel_rfl) ?_
    refine T.nil ?_
    refine T.cond (r7 != 0) (by kernel_rfl) (by kernel_rfl) (fun hc3 => ?_) (fun hc3 => ?_)
    ·
     rw [hc3, cond_true] at hF
     refine T.seq ?_
     refine T.region ?_
     refine T.pure (.agg #[.int .i64 0, .int .i64 0, .int .i64 0, .int .i64 0, .int .i64 0, .string (ByteArray.mk #[])]) (by kernel_rfl) (fun _ => by kernel_rfl) ?_
     refine T.step (W1.store 1 [.int .i64 0, .int .i64 0, .int .i64 0, .int .i64 0, .int .i64 0, .string (ByteArray.mk #[])] [box b2 37 [.int .i64 r2, .int .i64 r3, .int .i64 r4, .int .i64 r5, .int .i64 r6, .string s7], box b1 37 [.int .i64 0, .int .i64 0, .int .i64 0, .int .i64 0, .int .i64 0, .string (ByteArray.mk #[])]] (by rfl) rfl (by kernel_rfl) (fun w' hw => exec_store (vs := [.int .i64 0, .int .i64 0, .int .i64 0, .int .i64 0, .int .i64 0, .string (ByteArray.mk #[])]) rfl rfl rfl rfl (by kernel_rfl) (one_of rfl) (by simp) rfl hw) ?_)
     refine T.pure (.int .i64 0) (by kernel_rfl) (fun _ => by kernel_rfl) ?_
     refine T.pure (.int .i64 3) (by kernel_rfl) (fun _ => by kernel_rfl) ?_
     refine T.nil ?_
     cases hF
     refine T.ret rfl ?_
     exact T.ret3 rfl (ResIs.cellN 1 rfl (by rfl) (fun _ => by kernel_rfl) (fun _ => by kernel_rfl)) (ResIs.tmp rfl) (ResIs.tmp rfl) fun w' hh => ⟨_, rfl, hh.below, (vT3.mk (vAg.mk rfl) (show _ from rfl) (show _ from rfl))⟩
    ·
     rw [hc3, cond_false] at hF
     refine T.skip_code ?_
     refine T.seq ?_
     refine T.region ?_
     refine T.look (.agg #[.int .i64 r2, .int .i64 r3, .int .i64 r4, .int .i64 r5, .int .i64 r6, .string s7]) (by kernel_rfl) (fun w' hh => exec_loadN (cs := [.int .i64 r2, .int .i64 r3, .int .i64 r4, .int .i64 r5, .int .i64 r6, .string s7]) rfl rfl (by kernel_rfl) (by kernel_rfl) (fun j u hj => (hh.box_at (i := 0) (cs := [.int .i64 r2, .int .i64 r3, .int .i64 r4, .int .i64 r5, .int .i64 r6, .string s7]) (by rfl) 0 j).trans (seg_at (n := 6) (by rfl) hj))) ?_
     refine T.pure (.int .i64 (IntKind.i64.wrap (18 + r1))) (by kernel_rfl) (fun _ => by kernel_rfl) ?_
     refine T.step (W1.store 1 [.int .i64 r2, .int .i64 r3, .int .i64 r4, .int .i64 r5, .int .i64 r6, .string s7] [box b2 37 [.int .i64 r2, .int .i64 r3, .int .i64 r4, .int .i64 r5, .int .i64 r6, .string s7], box b1 37 [.int .i64 r2, .int .i64 r3, .int .i64 r4, .int .i64 r5, .int .i64 r6, .string s7]] (by rfl) rfl (by kernel_rfl) (fun w' hw => exec_store (vs := [.int .i64 r2, .int .i64 r3, .int .i64 r4, .int .i64 r5, .int .i64 r6, .string s7]) rfl rfl rfl rfl (by kernel_rfl) (one_of rfl) (by simp) rfl hw) ?_)
     refine T.pure (.int .i64 (IntKind.i64.wrap (18 + r1))) (by kernel_rfl) (fun _ => by kernel_rfl) ?_
     refine T.pure (.int .i64 0) (by kernel_rfl) (fun _ => by kernel_rfl) ?_
     refine T.nil ?_
     cases hF
     refine T.ret rfl ?_
     exact T.ret3 rfl (ResIs.cellN 1 rfl (by rfl) (fun _ => by kernel_rfl) (fun _ => by kernel_rfl)) (ResIs.tmp rfl) (ResIs.tmp rfl) fun w' hh => ⟨_, rfl, hh.below, (vT3.mk (vAg.mk rfl) (show _ from rfl) (show _ from rfl))⟩
set_option maxRecDepth 100000 in
set_option maxHeartbeats 4000000 in
theorem annalref_Parse_l (F : Nat) (p0 : ByteArray) (r : Dannalref_Parsed) (hF : annalref_Parse F p0 = some r) (w : World)  :
 Calls Try.prog 12 #[.string p0] w (Post (vAg eannalref_Parsed) r w) := by
 unfold annalref_Parse at hF
 refine T.start (l := [.string p0]) Try.func12 rfl rfl rfl ?_
 refine T.seq ?_
 refine T.region ?_
 refine T.step (W1.new 42 [.int .i64 0, .int .i64 0, .int .i64 0, .slice none 0 0, .int .i64 0] (fun b => .pointer (some ⟨b, 0, none⟩)) (by kernel_rfl) (fun _ => by kernel_rfl) (fun b1 => ?_))
 refine T.nil ?_
 refine T.seq ?_
 refine T.region ?_
 refine T.step (W1.new 42 [.int .i64 0, .int .i64 0, .int .i64 0, .slice none 0 0, .int .i64 0] (fun b => .pointer (some ⟨b, 0, none⟩)) (by kernel_rfl) (fun _ => by kernel_rfl) (fun b2 => ?_))
 refine T.nil ?_
 refine T.seq ?_
 refine T.region ?_
 refine T.pure (.int .i64 0) (by kernel_rfl) (fun _ => by kernel_rfl) ?_
 refine T.nil ?_
 refine T.rownil 37 eElem ?_
 obtain ⟨q1, hz1, hF⟩ := Option.bind_eq_some_iff.1 hF
 refine T.mid (fun a w' => False) ?_ ?_
 ·
  refine T.block ?_
  refine T.iter (fun s1 a w' => ∃ (x1 : List DElem) (x2 : Int) (x3 : Int) (x4 : Int) (x5 : ByteArray) (x6 : Int), s1 = (x1, x2, x3, x4, x5, x6) ∧ ∃ (A1 : Option Addr) (c1 : Nat) (V1 : View), View.le (vw w) V1 ∧ Fr 134 [(0, .string x5), (2, .pointer (some ⟨b1, 0, none⟩)), (3, .pointer (some ⟨b2, 0, none⟩)), (4, .int .i64 x6)] a ∧ Hp w V1 [row 37 eElem A1 c1 x1, box b2 42 [.int .i64 x2, .int .i64 x3, .int .i64 x4, .slice A1 x1.length c1, .int .i64 0], box b1 42 [.int .i64 0, .int .i64 0, .int .i64 0, .slice none 0 0, .int .i64 0]] w') hz1 ?_ ?_
  ·
   exact fun a w' hf hh => Exists.intro [] (Exists.intro 0 (Exists.intro 0 (Exists.intro 0 (Exists.intro p0 (Exists.intro 0 (And.intro rfl (Exists.intro none (Exists.intro 0 (Exists.intro (vw w) (And.intro (View.le_refl _) (And.intro (((((Fr.nil hf).pick hf 4 rfl).pick hf 3 rfl).pick hf 2 rfl).pick hf 0 rfl) (hh.sub (.cons_cons _ (.cons_cons _ (.cons_cons _ List.Sublist.slnil)))))))))))))))
  ·
   rintro s1 y1 hY1 hr1 a w' ⟨x1, x2, x3, x4, x5, x6, rfl, A1, c1, V1, hV1, hf, hh⟩
   refine (?_ : T 134 w V1 [row 37 eElem A1 c1 x1, box b2 42 [.int .i64 x2, .int .i64 x3, .int .i64 x4, .slice A1 x1.length c1, .int .i64 0], box b1 42 [.int .i64 0, .int .i64 0, .int .i64 0, .slice none 0 0, .int .i64 0]] [(0, .string x5), (2, .pointer (some ⟨b1, 0, none⟩)), (3, .pointer (some ⟨b2, 0, none⟩)), (4, .int .i64 x6)] _) a w' hf hh
   clear hf hh
   try dsimp only at hY1
   refine T.seq ?_
   refine T.block ?_
   refine T.seq ?_
   refine T.region ?_
   refine T.pure (.string x5) (by kernel_rfl) (fun _ => by kernel_rfl) ?_
   obtain ⟨r2, hb1, hY1⟩ := Option.bind_eq_some_iff.1 hY1
   refine T.step (W1.call (vT3 (vAg eFrame) (vSc eInt) (vSc eInt)) r2 22 #[.string x5] (by kernel_rfl) (fun _ => by kernel_rfl) (fun w' hh => annalref_Unframe_l F x5 r2 hb1 w' ) ?_)
   intro u V2 hV2 hu
   obtain rfl := (Sure.t3 sureFrame sureInt sureInt) _ _ _ hu
   refine T.pure (.tuple #[.agg #[.int .i64 r2.1.kind, .string r2.1.body], .int .i64 r2.2.1, .int .i64 r2.2.2]) (by kernel_rfl) (fun _ => by kernel_rfl) ?_
   refine T.pure (.agg #[.int .i64 r2.1.kind, .string r2.1.body]) (by kernel_rfl) (fun _ => by kernel_rfl) ?_
   refine T.pure (.int .i64 r2.2.1) (by kernel_rfl) (fun _ => by kernel_rfl) ?_
   refine T.pure (.int .i64 r2.2.2) (by kernel_rfl) (fun _ => by kernel_rfl) ?_
   refine T.step (W1.new 60 [.int .i64 0, .string (ByteArray.mk #[])] (fun b => .pointer (some ⟨b, 0, none⟩)) (by kernel_rfl) (fun _ => by kernel_rfl) (fun b3 => ?_))
   refine T.step (W1.store 0 [.int .i64 r2.1.kind, .string r2.1.body] [box b3 60 [.int .i64 r2.1.kind, .string r2.1.body], row 37 eElem A1 c1 x1, box b2 42 [.int .i64 x2, .int .i64 x3, .int .i64 x4, .slice A1 x1.length c1, .int .i64 0], box b1 42 [.int .i64 0, .int .i64 0, .int .i64 0, .slice none 0 0, .int .i64 0]] (by rfl) rfl (by kernel_rfl) (fun w' hw => exec_store (vs := [.int .i64 r2.1.kind, .string r2.1.body]) rfl rfl rfl rfl (by kernel_rfl) (one_of rfl) (by simp) rfl hw) ?_)
   refine T.pure (.int .i64 r2.2.1) (by kernel_rfl) (fun _ => by kernel_rfl) ?_
   refine T.pure (.int .i64 r2.2.2) (by kernel_rfl) (fun _ => by kernel_rfl) ?_
   refine T.nil ?_
   refine T.seq ?_
   refine T.seq ?_
   refine T.region ?_
   refine T.pure (.int .i64 r2.2.2) (by kernel_rfl) (fun _ => by kernel_rfl) ?_
   refine T.pure (.bool (r2.2.2 != 0)) (by kernel_rfl) (fun _ => by kernel_rfl) ?_
   refine T.nil ?_
   refine T.cond (r2.2.2 != 0) (by kernel_rfl) (by kernel_rfl) (fun hc1 => ?_) (fun hc1 => ?_)
   ·
    rw [hc1, cond_true] at hY1
    refine T.seq ?_
    refine T.region ?_
    refine T.pure (.int .i64 r2.2.2) (by kernel_rfl) (fun _ => by kernel_rfl) ?_
    refine T.pure (.agg #[.int .i64 0, .int .i64 0, .int .i64 0, .slice none 0 0, .int .i64 r2.2.2]) (by kernel_rfl) (fun _ => by kernel_rfl) ?_
    refine T.step (W1.store 3 [.int .i64 0, .int .i64 0, .int .i64 0, .slice none 0 0, .int .i64 r2.2.2] [box b3 60 [.int .i64 r2.1.kind, .string r2.1.body], row 37 eElem A1 c1 x1, box b2 42 [.int .i64 x2, .int .i64 x3, .int .i64 x4, .slice A1 x1.length c1, .int .i64 0], box b1 42 [.int .i64 0, .int .i64 0, .int .i64 0, .slice none 0 0, .int .i64 r2.2.2]] (by rfl) rfl (by kernel_rfl) (fun w' hw => exec_store (vs := [.int .i64 0, .int .i64 0, .int .i64 0, .slice none 0 0, .int .i64 r2.2.2]) rfl rfl rfl rfl (by kernel_rfl) (one_of rfl) (by simp) rfl hw) ?_)
    refine T.nil ?_
    cases hY1
    cases (hr1 _ rfl)
    try dsimp only at hF
    cases hF
    refine T.ret rfl ?_
    exact T.ret1 rfl (ResIs.cellN 3 rfl (by rfl) (fun _ => by kernel_rfl) (fun _ => by kernel_rfl)) fun w' hh => ⟨_, rfl, hh.below, (vAg.mk ⟨_, _, rfl, (SlOk.nil _ _)⟩)⟩
   ·
    rw [hc1, cond_false] at hY1
    refine T.skip_code ?_
    refine T.seq ?_
    refine T.region ?_
    refine T.pure (.string x5) (by kernel_rfl) (fun _ => by kernel_rfl) ?_
    refine T.pure (.int .i64 r2.2.1) (by kernel_rfl) (fun _ => by kernel_rfl) ?_
    obtain ⟨s2, hb2, hY1⟩ := Option.bind_eq_some_iff.1 hY1
    refine T.look (.string s2) (by kernel_rfl) (fun w' hh => exec_slice_str_lo rfl rfl rfl (by kernel_rfl) hb2) ?_
    refine T.pure (.string s2) (by kernel_rfl) (fun _ => by kernel_rfl) ?_
    refine T.nil ?_
    refine T.seq ?_
    refine T.region ?_
    refine T.pure (.bool false) (by kernel_rfl) (fun _ => by kernel_rfl) ?_
    refine T.nil ?_
    obtain ⟨q2, hX1, hY1⟩ := Option.bind_eq_some_iff.1 hY1
    refine T.cut (fun a w' => ∃ (z1 : List DElem) (z2 : Int) (z3 : Int) (z4 : Int) (z5 : Bool), q2 = Sum.inl (z1, z2, z3, z4, z5) ∧ ∃ (A2 : Option Addr) (c2 : Nat) (V3 : View), View.le V2 V3 ∧ Fr 134 [(0, .string s2), (2, .pointer (some ⟨b1, 0, none⟩)), (3, .pointer (some ⟨b2, 0, none⟩)), (4, .int .i64 x6), (8, .bool z5)] a ∧ Hp w V3 [row 37 eElem A2 c2 z1, box b2 42 [.int .i64 z2, .int .i64 z3, .int .i64 z4, .slice A2 z1.length c2, .int .i64 0], box b1 42 [.int .i64 0, .int .i64 0, .int .i64 0, .slice none 0 0, .int .i64 0]] w') ?_ ?_
    ·
     refine T.block ?_
     refine T.seq ?_
     refine T.region ?_
     refine T.pure (.int .i64 x6) (by kernel_rfl) (fun _ => by kernel_rfl) ?_
     refine T.pure (.bool (x6 == 0)) (by kernel_rfl) (fun _ => by kernel_rfl) ?_
     refine T.pure (.bool (x6 == 0)) (by kernel_rfl) (fun _ => by kernel_rfl) ?_
     refine T.nil ?_
     refine T.cond (x6 == 0) (by kernel_rfl) (by kernel_rfl) (fun hc2 => ?_) (fun hc2 => ?_)
     ·
      rw [hc2, cond_true] at hX1
      refine T.cut (fun a w' => Fr 134 [(0, .string s2), (2, .pointer (some ⟨b1, 0, none⟩)), (3, .pointer (some ⟨b2, 0, none⟩)), (4, .int .i64 x6), (5, .pointer (some ⟨b3, 0, none⟩)), (8, .bool ((r2.1.kind == 1) && ((r2.1.body.size : Int) == 12)))] a ∧ Hp w V2 [box b3 60 [.int .i64 r2.1.kind, .string r2.1.body], row 37 eElem A1 c1 x1, box b2 42 [.int .i64 x2, .int .i64 x3, .int .i64 x4, .slice A1 x1.length c1, .int .i64 0], box b1 42 [.int .i64 0, .int .i64 0, .int .i64 0, .slice none 0 0, .int .i64 0]] w') ?_ ?_
      ·
       refine T.region ?_
       refine T.pure (.pointer (some ⟨b3, 0, none⟩)) (by kernel_rfl) (fun _ => by kernel_rfl) ?_
       refine T.look (.int .i64 r2.1.kind) (by kernel_rfl) (fun w' hh => exec_load1 rfl rfl (by kernel_rfl) (hh.cellBox (i := 0) (by rfl) 0)) ?_
       refine T.pure (.bool (r2.1.kind == 1)) (by kernel_rfl) (fun _ => by kernel_rfl) ?_
       refine T.pure (.bool (r2.1.kind == 1)) (by kernel_rfl) (fun _ => by kernel_rfl) ?_
       cases hg1 : (r2.1.kind == 1)
       ·
        skip
        refine T.pass (by kernel_rfl) (by kernel_rfl) ?_
        refine T.pass (by kernel_rfl) (by kernel_rfl) ?_
        refine T.pass (by kernel_rfl) (by kernel_rfl) ?_
        refine T.pass (by kernel_rfl) (by kernel_rfl) ?_
        refine T.pure (.bool false) (by kernel_rfl) (fun _ => by kernel_rfl) ?_
        refine T.pure (.bool false) (by kernel_rfl) (fun _ => by kernel_rfl) ?_
        refine T.nil ?_
        exact fun a w' hf hh => And.intro (((((((Fr.nil hf).pick hf 8 rfl).pick hf 5 rfl).pick hf 4 rfl).pick hf 3 rfl).pick hf 2 rfl).pick hf 0 rfl) (hh.sub (.cons_cons _ (.cons_cons _ (.cons_cons _ (.cons_cons _ List.Sublist.slnil)))))
       ·
        skip
        refine T.pure (.pointer (some ⟨b3, 1, none⟩)) (by kernel_rfl) (fun _ => by kernel_rfl) ?_
        refine T.look (.string r2.1.body) (by kernel_rfl) (fun w' hh => exec_load1 rfl rfl (by kernel_rfl) (hh.cellBox (i := 0) (by rfl) 1)) ?_
        refine T.pure (.int .i64 (r2.1.body.size : Int)) (by kernel_rfl) (fun _ => by kernel_rfl) ?_
        refine T.pure (.bool ((r2.1.body.size : Int) == 12)) (by kernel_rfl) (fun _ => by kernel_rfl) ?_
        refine T.pure (.bool ((r2.1.body.size : Int) == 12)) (by kernel_rfl) (fun _ => by kernel_rfl) ?_
        refine T.pure (.bool ((r2.1.body.size : Int) == 12)) (by kernel_rfl) (fun _ => by kernel_rfl) ?_
        refine T.nil ?_
        exact fun a w' hf hh => And.intro (((((((Fr.nil hf).pick hf 8 rfl).pick hf 5 rfl).pick hf 4 rfl).pick hf 3 rfl).pick hf 2 rfl).pick hf 0 rfl) (hh.sub (.cons_cons _ (.cons_cons _ (.cons_cons _ (.cons_cons _ List.Sublist.slnil)))))
      ·
       rintro a w' ⟨hf, hh⟩
       refine (?_ : T 134 w V2 [box b3 60 [.int .i64 r2.1.kind, .string r2.1.body], row 37 eElem A1 c1 x1, box b2 42 [.int .i64 x2, .int .i64 x3, .int .i64 x4, .slice A1 x1.length c1, .int .i64 0], box b1 42 [.int .i64 0, .int .i64 0, .int .i64 0, .slice none 0 0, .int .i64 0]] [(0, .string s2), (2, .pointer (some ⟨b1, 0, none⟩)), (3, .pointer (some ⟨b2, 0, none⟩)), (4, .int .i64 x6), (5, .pointer (some ⟨b3, 0, none⟩)), (8, .bool ((r2.1.kind == 1) && ((r2.1.body.size : Int) == 12)))] _) a w' hf hh
       clear hf hh
       refine T.seq ?_
       refine T.region ?_
       refine T.pure (.bool ((r2.1.kind == 1) && ((r2.1.body.size : Int) == 12))) (by kernel_rfl) (fun _ => by kernel_rfl) ?_
       refine T.nil ?_
       refine T.cond ((r2.1.kind == 1) && ((r2.1.body.size : Int) == 12)) (by kernel_rfl) (by kernel_rfl) (fun hc3 => ?_) (fun hc3 => ?_)
       ·
        rw [hc3, cond_true] at hX1
        refine T.seq ?_
        refine T.held [box b3 60 [.int .i64 r2.1.kind, .string r2.1.body], row 37 eElem A1 c1 x1, box b1 42 [.int .i64 0, .int .i64 0, .int .i64 0, .slice none 0 0, .int .i64 0]] (by kernel_rfl) ?_
        refine TA.take 0 (.pointer (some ⟨b3, 1, none⟩)) rfl (by kernel_rfl) (by kernel_rfl) (by kernel_rfl) (fun _ _ _ h => h) (Hp.old (View.le_refl _) (View.le_trans hV1 hV2) (.cons_cons _ (.cons_cons _ (.cons _ (.cons_cons _ List.Sublist.slnil)))) (OldAll.box (OldAll.row (fun _ _ _ _ h => h) (OldAll.box OldAll.nil)))) (by kernel_rfl) (fun _ _ => by kernel_rfl) ?_
        refine TA.take 1 (.string r2.1.body) rfl (by kernel_rfl) (by kernel_rfl) (by kernel_rfl) (fun _ _ _ h => h) (Hp.old (View.le_refl _) (View.le_trans hV1 hV2) (.cons_cons _ (.cons_cons _ (.cons _ (.cons_cons _ List.Sublist.slnil)))) (OldAll.box (OldAll.row (fun _ _ _ _ h => h) (OldAll.box OldAll.nil)))) (by kernel_rfl) (fun w' hh => exec_load1 rfl rfl (by kernel_rfl) (hh.cellBox (i := 0) (by rfl) 1)) ?_
        obtain ⟨s3, hb3, hX1⟩ := Option.bind_eq_some_iff.1 hX1
        refine TA.take 2 (.string s3) rfl (by kernel_rfl) (by kernel_rfl) (by kernel_rfl) (fun _ _ _ h => h) (Hp.old (View.le_refl _) (View.le_trans hV1 hV2) (.cons_cons _ (.cons_cons _ (.cons _ (.cons_cons _ List.Sublist.slnil)))) (OldAll.box (OldAll.row (fun _ _ _ _ h => h) (OldAll.box OldAll.nil)))) (by kernel_rfl) (fun w' hh => exec_slice_str_hi rfl rfl rfl (by kernel_rfl) hb3) ?_
        refine TA.take 4 (.pointer (some ⟨b3, 1, none⟩)) rfl (by kernel_rfl) (by kernel_rfl) (by kernel_rfl) (fun _ _ _ h => h) (Hp.old (View.le_refl _) (View.le_trans hV1 hV2) (.cons_cons _ (.cons_cons _ (.cons _ (.cons_cons _ List.Sublist.slnil)))) (OldAll.box (OldAll.row (fun _ _ _ _ h => h) (OldAll.box OldAll.nil)))) (by kernel_rfl) (fun _ _ => by kernel_rfl) ?_
        refine TA.take 5 (.string r2.1.body) rfl (by kernel_rfl) (by kernel_rfl) (by kernel_rfl) (fun _ _ _ h => h) (Hp.old (View.le_refl _) (View.le_trans hV1 hV2) (.cons_cons _ (.cons_cons _ (.cons _ (.cons_cons _ List.Sublist.slnil)))) (OldAll.box (OldAll.row (fun _ _ _ _ h => h) (OldAll.box OldAll.nil)))) (by kernel_rfl) (fun w' hh => exec_load1 rfl rfl (by kernel_rfl) (hh.cellBox (i := 0) (by rfl) 1)) ?_
        obtain ⟨s4, hb4, hX1⟩ := Option.bind_eq_some_iff.1 hX1
        refine TA.take 6 (.string s4) rfl (by kernel_rfl) (by kernel_rfl) (by kernel_rfl) (fun _ _ _ h => h) (Hp.old (View.le_refl _) (View.le_trans hV1 hV2) (.cons_cons _ (.cons_cons _ (.cons _ (.cons_cons _ List.Sublist.slnil)))) (OldAll.box (OldAll.row (fun _ _ _ _ h => h) (OldAll.box OldAll.nil)))) (by kernel_rfl) (fun w' hh => exec_slice_str rfl rfl rfl rfl (by kernel_rfl) hb4) ?_
        refine TA.take 8 (.pointer (some ⟨b3, 1, none⟩)) rfl (by kernel_rfl) (by kernel_rfl) (by kernel_rfl) (fun _ _ _ h => h) (Hp.old (View.le_refl _) (View.le_trans hV1 hV2) (.cons_cons _ (.cons_cons _ (.cons _ (.cons_cons _ List.Sublist.slnil)))) (OldAll.box (OldAll.row (fun _ _ _ _ h => h) (OldAll.box OldAll.nil)))) (by kernel_rfl) (fun _ _ => by kernel_rfl) ?_
        refine TA.take 9 (.string r2.1.body) rfl (by kernel_rfl) (by kernel_rfl) (by kernel_rfl) (fun _ _ _ h => h) (Hp.old (View.le_refl _) (View.le_trans hV1 hV2) (.cons_cons _ (.cons_cons _ (.cons _ (.cons_cons _ List.Sublist.slnil)))) (OldAll.box (OldAll.row (fun _ _ _ _ h => h) (OldAll.box OldAll.nil)))) (by kernel_rfl) (fun w' hh => exec_load1 rfl rfl (by kernel_rfl) (hh.cellBox (i := 0) (by rfl) 1)) ?_
        obtain ⟨s5, hb5, hX1⟩ := Option.bind_eq_some_iff.1 hX1
        refine TA.take 10 (.string s5) rfl (by kernel_rfl) (by kernel_rfl) (by kernel_rfl) (fun _ _ _ h => h) (Hp.old (View.le_refl _) (View.le_trans hV1 hV2) (.cons_cons _ (.cons_cons _ (.cons _ (.cons_cons _ List.Sublist.slnil)))) (OldAll.box (OldAll.row (fun _ _ _ _ h => h) (OldAll.box OldAll.nil)))) (by kernel_rfl) (fun w' hh => exec_slice_str_lo rfl rfl rfl (by kernel_rfl) hb5) ?_
        refine TA.all [3] (by kernel_rfl) rfl ⟨?_, trivial⟩
        obtain ⟨r3, hb6, hX1⟩ := Option.bind_eq_some_iff.1 hX1
        refine TA.br rfl (W1.call (vSc eInt) r3 23 #[.string s3] (by kernel_rfl) (fun _ => by kernel_rfl) (fun w' hh => annalref_Big_l F s3 r3 hb6 w' ) ?_)
        intro u V4 hV4 hu
        obtain rfl := sureInt _ _ _ hu
        refine TA.on (Hp.old hV4 (View.le_trans hV1 hV2) (.cons_cons _ (.cons_cons _ (.cons _ (.cons_cons _ List.Sublist.slnil)))) (OldAll.box (OldAll.row (fun _ _ _ _ h => h) (OldAll.box OldAll.nil)))) ?_
        refine TA.take 12 (.pointer (some ⟨b2, 0, none⟩)) rfl (by kernel_rfl) (by kernel_rfl) (by kernel_rfl) (fun _ _ _ h => h) (Hp.old hV4 (View.le_trans hV1 hV2) (.cons_cons _ (.cons_cons _ (.cons _ (.cons_cons _ List.Sublist.slnil)))) (OldAll.box (OldAll.row (fun _ _ _ _ h => h) (OldAll.box OldAll.nil)))) (by kernel_rfl) (fun _ _ => by kernel_rfl) ?_
        refine TA.all [7] (by kernel_rfl) rfl ⟨?_, trivial⟩
        obtain ⟨r4, hb7, hX1⟩ := Option.bind_eq_some_iff.1 hX1
        refine TA.br rfl (W1.call (vSc eInt) r4 23 #[.string s4] (by kernel_rfl) (fun _ => by kernel_rfl) (fun w' hh => annalref_Big_l F s4 r4 hb7 w' ) ?_)
        intro u V5 hV5 hu
        obtain rfl := sureInt _ _ _ hu
        refine TA.on (Hp.old (View.le_trans hV4 hV5) (View.le_trans hV1 hV2) (.cons_cons _ (.cons_cons _ (.cons _ (.cons_cons _ List.Sublist.slnil)))) (OldAll.box (OldAll.row (fun _ _ _ _ h => h) (OldAll.box OldAll.nil)))) ?_
        refine TA.all [11] (by kernel_rfl) rfl ⟨?_, trivial⟩
        obtain ⟨r5, hb8, hX1⟩ := Option.bind_eq_some_iff.1 hX1
        refine TA.br rfl (W1.call (vSc eInt) r5 23 #[.string s5] (by kernel_rfl) (fun _ => by kernel_rfl) (fun w' hh => annalref_Big_l F s5 r5 hb8 w' ) ?_)
        intro u V6 hV6 hu
        obtain rfl := sureInt _ _ _ hu
        refine TA.on (Hp.old (View.le_trans (View.le_trans hV4 hV5) hV6) (View.le_trans hV1 hV2) (.cons_cons _ (.cons_cons _ (.cons _ (.cons_cons _ List.Sublist.slnil)))) (OldAll.box (OldAll.row (fun _ _ _ _ h => h) (OldAll.box OldAll.nil)))) ?_
        refine TA.all [13] (by kernel_rfl) rfl ⟨?_, trivial⟩
        refine TA.br rfl (W1.store 2 [.int .i64 r3, .int .i64 x3, .int .i64 x4, .slice A1 x1.length c1, .int .i64 0] [box b3 60 [.int .i64 r2.1.kind, .string r2.1.body], row 37 eElem A1 c1 x1, box b2 42 [.int .i64 r3, .int .i64 x3, .int .i64 x4, .slice A1 x1.length c1, .int .i64 0], box b1 42 [.int .i64 0, .int .i64 0, .int .i64 0, .slice none 0 0, .int .i64 0]] (by rfl) rfl (by kernel_rfl) (fun w' hw => exec_store (vs := [.int .i64 r3]) rfl rfl rfl rfl (by kernel_rfl) (one_of rfl) (by simp) rfl hw) ?_)
        refine TA.on (Hp.old (View.le_trans (View.le_trans hV4 hV5) hV6) (View.le_trans hV1 hV2) (.cons_cons _ (.cons_cons _ (.cons _ (.cons_cons _ List.Sublist.slnil)))) (OldAll.box (OldAll.row (fun _ _ _ _ h => h) (OldAll.box OldAll.nil)))) ?_
        refine TA.take 14 (.pointer (some ⟨b2, 1, none⟩)) rfl (by kernel_rfl) (by kernel_rfl) (by kernel_rfl) (fun _ _ _ h => h) (Hp.old (View.le_trans (View.le_trans hV4 hV5) hV6) (View.le_trans hV1 hV2) (.cons_cons _ (.cons_cons _ (.cons _ (.cons_cons _ List.Sublist.slnil)))) (OldAll.box (OldAll.row (fun _ _ _ _ h => h) (OldAll.box OldAll.nil)))) (by kernel_rfl) (fun _ _ => by kernel_rfl) ?_
        refine TA.all [15] (by kernel_rfl) rfl ⟨?_, trivial⟩
        refine TA.br rfl (W1.store 2 [.int .i64 r3, .int .i64 r4, .int .i64 x4, .slice A1 x1.length c1, .int .i64 0] [box b3 60 [.int .i64 r2.1.kind, .string r2.1.body], row 37 eElem A1 c1 x1, box b2 42 [.int .i64 r3, .int .i64 r4, .int .i64 x4, .slice A1 x1.length c1, .int .i64 0], box b1 42 [.int .i64 0, .int .i64 0, .int .i64 0, .slice none 0 0, .int .i64 0]] (by rfl) rfl (by kernel_rfl) (fun w' hw => exec_store (vs := [.int .i64 r4]) rfl rfl rfl rfl (by kernel_rfl) (one_of rfl) (by simp) rfl hw) ?_)
        refine TA.on (Hp.old (View.le_trans (View.le_trans hV4 hV5) hV6) (View.le_trans hV1 hV2) (.cons_cons _ (.cons_cons _ (.cons _ (.cons_cons _ List.Sublist.slnil)))) (OldAll.box (OldAll.row (fun _ _ _ _ h => h) (OldAll.box OldAll.nil)))) ?_
        refine TA.take 16 (.pointer (some ⟨b2, 2, none⟩)) rfl (by kernel_rfl) (by kernel_rfl) (by kernel_rfl) (fun _ _ _ h => h) (Hp.old (View.le_trans (View.le_trans hV4 hV5) hV6) (View.le_trans hV1 hV2) (.cons_cons _ (.cons_cons _ (.cons _ (.cons_cons _ List.Sublist.slnil)))) (OldAll.box (OldAll.row (fun _ _ _ _ h => h) (OldAll.box OldAll.nil)))) (by kernel_rfl) (fun _ _ => by kernel_rfl) ?_
        refine TA.all [17] (by kernel_rfl) rfl ⟨?_, trivial⟩
        refine TA.br rfl (W1.store 2 [.int .i64 r3, .int .i64 r4, .int .i64 r5, .slice A1 x1.length c1, .int .i64 0] [box b3 60 [.int .i64 r2.1.kind, .string r2.1.body], row 37 eElem A1 c1 x1, box b2 42 [.int .i64 r3, .int .i64 r4, .int .i64 r5, .slice A1 x1.length c1, .int .i64 0], box b1 42 [.int .i64 0, .int .i64 0, .int .i64 0, .slice none 0 0, .int .i64 0]] (by rfl) rfl (by kernel_rfl) (fun w' hw => exec_store (vs := [.int .i64 r5]) rfl rfl rfl rfl (by kernel_rfl) (one_of rfl) (by simp) rfl hw) ?_)
        refine TA.on (Hp.old (View.le_trans (View.le_trans hV4 hV5) hV6) (View.le_trans hV1 hV2) (.cons_cons _ (.cons_cons _ (.cons _ (.cons_cons _ List.Sublist.slnil)))) (OldAll.box (OldAll.row (fun _ _ _ _ h => h) (OldAll.box OldAll.nil)))) ?_
        refine TA.done (by kernel_rfl) ?_
        refine T.region ?_
        refine T.pure (.pointer (some ⟨b2, 0, none⟩)) (by kernel_rfl) (fun _ => by kernel_rfl) ?_
        refine T.look (.int .i64 r3) (by kernel_rfl) (fun w' hh => exec_load1 rfl rfl (by kernel_rfl) (hh.cellBox (i := 2) (by rfl) 0)) ?_
        refine T.pure (.pointer (some ⟨b2, 1, none⟩)) (by kernel_rfl) (fun _ => by kernel_rfl) ?_
        refine T.look (.int .i64 r4) (by kernel_rfl) (fun w' hh => exec_load1 rfl rfl (by kernel_rfl) (hh.cellBox (i := 2) (by rfl) 1)) ?_
        refine T.pure (.pointer (some ⟨b2, 2, none⟩)) (by kernel_rfl) (fun _ => by kernel_rfl) ?_
        refine T.look (.int .i64 r5) (by kernel_rfl) (fun w' hh => exec_load1 rfl rfl (by kernel_rfl) (hh.cellBox (i := 2) (by rfl) 2)) ?_
        obtain ⟨r6, hb9, hX1⟩ := Option.bind_eq_some_iff.1 hX1
        refine T.step (W1.call (vSc eInt) r6 24 #[.int .i64 r3, .int .i64 r4, .int .i64 r5] (by kernel_rfl) (fun _ => by kernel_rfl) (fun w' hh => annalref_Span_l r3 r4 r5 r6 hb9 w' ) ?_)
        intro u V7 hV7 hu
        obtain rfl := sureInt _ _ _ hu
        refine T.pure (.bool (r6 == 0)) (by kernel_rfl) (fun _ => by kernel_rfl) ?_
        refine T.pure (.bool (r6 == 0)) (by kernel_rfl) (fun _ => by kernel_rfl) ?_
        refine T.nil ?_
        cases hX1
        exact fun a w' hf hh => Exists.intro x1 (Exists.intro r3 (Exists.intro r4 (Exists.intro r5 (Exists.intro (r6 == 0) (And.intro rfl (Exists.intro A1 (Exists.intro c1 (Exists.intro V7 (And.intro (View.le_trans (View.le_trans (View.le_trans hV4 hV5) hV6) hV7) (And.intro ((((((Fr.nil hf).pick hf 8 rfl).pick hf 4 rfl).pick hf 3 rfl).pick hf 2 rfl).pick hf 0 rfl) (hh.sub (.cons _ (.cons_cons _ (.cons_cons _ (.cons_cons _ List.Sublist.slnil)))))))))))))))
       ·
        rw [hc3, cond_false] at hX1
        refine T.skip_code ?_
        cases hX1
        exact fun a w' hf hh => Exists.intro x1 (Exists.intro x2 (Exists.intro x3 (Exists.intro x4 (Exists.intro ((r2.1.kind == 1) && ((r2.1.body.size : Int) == 12)) (And.intro (by rw [hc3]) (Exists.intro A1 (Exists.intro c1 (Exists.intro V2 (And.intro (View.le_refl _) (And.intro ((((((Fr.nil hf).pick hf 8 rfl).pick hf 4 rfl).pick hf 3 rfl).pick hf 2 rfl).pick hf 0 rfl) (hh.sub (.cons _ (.cons_cons _ (.cons_cons _ (.cons_cons _ List.Sublist.slnil)))))))))))))))
     ·
      rw [hc2, cond_false] at hX1
      refine T.seq ?_
      refine T.region ?_
      refine T.pure (.pointer (some ⟨b3, 0, none⟩)) (by kernel_rfl) (fun _ => by kernel_rfl) ?_
      refine T.look (.int .i64 r2.1.kind) (by kernel_rfl) (fun w' hh => exec_load1 rfl rfl (by kernel_rfl) (hh.cellBox (i := 0) (by rfl) 0)) ?_
      refine T.pure (.bool (r2.1.kind == 2)) (by kernel_rfl) (fun _ => by kernel_rfl) ?_
      refine T.pure (.bool (r2.1.kind == 2)) (by kernel_rfl) (fun _ => by kernel_rfl) ?_
      refine T.nil ?_
      refine T.cond (r2.1.kind == 2) (by kernel_rfl) (by kernel_rfl) (fun hc4 => ?_) (fun hc4 => ?_)
      ·
       rw [hc4, cond_true] at hX1
       refine T.seq ?_
       refine T.region ?_
       refine T.pure (.pointer (some ⟨b3, 1, none⟩)) (by kernel_rfl) (fun _ => by kernel_rfl) ?_
       refine T.look (.string r2.1.body) (by kernel_rfl) (fun w' hh => exec_load1 rfl rfl (by kernel_rfl) (hh.cellBox (i := 0) (by rfl) 1)) ?_
       obtain ⟨r7, hb10, hX1⟩ := Option.bind_eq_some_iff.1 hX1
       refine T.step (W1.call (vT3 (vAg eElem) (vSc eInt) (vSc eInt)) r7 25 #[.string r2.1.body] (by kernel_rfl) (fun _ => by kernel_rfl) (fun w' hh => annalref_Unbytes_l F r2.1.body r7 hb10 w' ) ?_)
       intro u V8 hV8 hu
       obtain rfl := (Sure.t3 sureElem sureInt sureInt) _ _ _ hu
       refine T.pure (.tuple #[.agg #[.int .i64 r7.1.key.pfs, .int .i64 r7.1.key.obj, .int .i64 r7.1.key.off, .int .i64 r7.1.made, .int .i64 r7.1.gone, .string r7.1.val], .int .i64 r7.2.1, .int .i64 r7.2.2]) (by kernel_rfl) (fun _ => by kernel_rfl) ?_
       refine T.pure (.agg #[.int .i64 r7.1.key.pfs, .int .i64 r7.1.key.obj, .int .i64 r7.1.key.off, .int .i64 r7.1.made, .int .i64 r7.1.gone, .string r7.1.val]) (by kernel_rfl) (fun _ => by kernel_rfl) ?_
       refine T.pure (.int .i64 r7.2.1) (by kernel_rfl) (fun _ => by kernel_rfl) ?_
       refine T.pure (.int .i64 r7.2.2) (by kernel_rfl) (fun _ => by kernel_rfl) ?_
       refine T.step (W1.new 37 [.int .i64 0, .int .i64 0, .int .i64 0, .int .i64 0, .int .i64 0, .string (ByteArray.mk #[])] (fun b => .pointer (some ⟨b, 0, none⟩)) (by kernel_rfl) (fun _ => by kernel_rfl) (fun b4 => ?_))
       refine T.step (W1.store 0 [.int .i64 r7.1.key.pfs, .int .i64 r7.1.key.obj, .int .i64 r7.1.key.off, .int .i64 r7.1.made, .int .i64 r7.1.gone, .string r7.1.val] [box b4 37 [.int .i64 r7.1.key.pfs, .int .i64 r7.1.key.obj, .int .i64 r7.1.key.off, .int .i64 r7.1.made, .int .i64 r7.1.gone, .string r7.1.val], box b3 60 [.int .i64 r2.1.kind, .string r2.1.body], row 37 eElem A1 c1 x1, box b2 42 [.int .i64 x2, .int .i64 x3, .int .i64 x4, .slice A1 x1.length c1, .int .i64 0], box b1 42 [.int .i64 0, .int .i64 0, .int .i64 0, .slice none 0 0, .int .i64 0]] (by rfl) rfl (by kernel_rfl) (fun w' hw => exec_store (vs := [.int .i64 r7.1.key.pfs, .int .i64 r7.1.key.obj, .int .i64 r7.1.key.off, .int .i64 r7.1.made, .int .i64 r7.1.gone, .string r7.1.val]) rfl rfl rfl rfl (by kernel_rfl) (one_of rfl) (by simp) rfl hw) ?_)
       refine T.pure (.int .i64 r7.2.1) (by kernel_rfl) (fun _ => by kernel_rfl) ?_
       refine T.pure (.int .i64 r7.2.2) (by kernel_rfl) (fun _ => by kernel_rfl) ?_
       refine T.nil ?_
       refine T.seq ?_
       refine T.region ?_
       refine T.pure (.pointer (some ⟨b2, 3, none⟩)) (by kernel_rfl) (fun _ => by kernel_rfl) ?_
       refine T.look (.slice A1 x1.length c1) (by kernel_rfl) (fun w' hh => exec_load1 rfl rfl (by kernel_rfl) (hh.cellBox (i := 3) (by rfl) 3)) ?_
       refine T.look (.agg #[.int .i64 r7.1.key.pfs, .int .i64 r7.1.key.obj, .int .i64 r7.1.key.off, .int .i64 r7.1.made, .int .i64 r7.1.gone, .string r7.1.val]) (by kernel_rfl) (fun w' hh => exec_loadN (cs := [.int .i64 r7.1.key.pfs, .int .i64 r7.1.key.obj, .int .i64 r7.1.key.off, .int .i64 r7.1.made, .int .i64 r7.1.gone, .string r7.1.val]) rfl rfl (by kernel_rfl) (by kernel_rfl) (fun j u hj => (hh.box_at (i := 0) (cs := [.int .i64 r7.1.key.pfs, .int .i64 r7.1.key.obj, .int .i64 r7.1.key.off, .int .i64 r7.1.made, .int .i64 r7.1.gone, .string r7.1.val]) (by rfl) 0 j).trans (seg_at (n := 6) (by rfl) hj))) ?_
       refine T.step (W1.new 37 [.int .i64 r7.1.key.pfs, .int .i64 r7.1.key.obj, .int .i64 r7.1.key.off, .int .i64 r7.1.made, .int .i64 r7.1.gone, .string r7.1.val] (fun b => .slice (some ⟨b, 0, none⟩) 1 1) (by kernel_rfl) (fun _ => by kernel_rfl) (fun b5 => ?_))
       obtain ⟨y2, hb11, hX1⟩ := Option.bind_eq_some_iff.1 hX1
       obtain ⟨hb11_r, hb11_m, rfl⟩ := grow_some hb11
       obtain ⟨ti, hti, hz1, hz2, hz3⟩ := info_parts (P := Try.prog) (e := 37) (z := .agg #[.int .i64 0, .int .i64 0, .int .i64 0, .int .i64 0, .int .i64 0, .string (ByteArray.mk #[])]) (size := 6) (bytes := 56) (by kernel_rfl)
       refine T.step (W1.append (E := eElem) (l := x1) (m := [r7.1]) 3 _ _ 56 ti _ (by rfl) (by kernel_rfl) rfl (by kernel_rfl) hti hz1 hz2 hz3 rfl (by decide) rfl rfl (fun w' hh => (SlOk.srcF (slok_lit (E := eElem) (f := DElem.cells) [r7.1] (fun _ _ => rfl) (Nat.le_of_ble_eq_true (by rfl)) (fun j => hh.cellBox (i := 0) (by rfl) j)) (fun _ _ _ _ h => h))) hb11_r hb11_m (fun A3 c3 => ?_))
       refine T.pure (.pointer (some ⟨b2, 3, none⟩)) (by kernel_rfl) (fun _ => by kernel_rfl) ?_
       refine T.step (W1.store 4 [.int .i64 x2, .int .i64 x3, .int .i64 x4, .slice A3 ((x1 ++ [r7.1]).length) c3, .int .i64 0] [box b5 37 [.int .i64 r7.1.key.pfs, .int .i64 r7.1.key.obj, .int .i64 r7.1.key.off, .int .i64 r7.1.made, .int .i64 r7.1.gone, .string r7.1.val], box b4 37 [.int .i64 r7.1.key.pfs, .int .i64 r7.1.key.obj, .int .i64 r7.1.key.off, .int .i64 r7.1.made, .int .i64 r7.1.gone, .string r7.1.val], box b3 60 [.int .i64 r2.1.kind, .string r2.1.body], row 37 eElem A3 c3 (x1 ++ [r7.1]), box b2 42 [.int .i64 x2, .int .i64 x3, .int .i64 x4, .slice A3 ((x1 ++ [r7.1]).length) c3, .int .i64 0], box b1 42 [.int .i64 0, .int .i64 0, .int .i64 0, .slice none 0 0, .int .i64 0]] (by rfl) rfl (by kernel_rfl) (fun w' hw => exec_store (vs := [.slice A3 ((x1 ++ [r7.1]).length) c3]) rfl rfl rfl rfl (by kernel_rfl) (one_of rfl) (by simp) rfl hw) ?_)
       refine T.nil ?_
       refine T.quiet (by kernel_rfl) (by kernel_rfl) ?_
       refine TQ.pure (.int .i64 r7.2.2) (by kernel_rfl) (fun _ => by kernel_rfl) ?_
       refine TQ.pure (.bool (r7.2.2 == 0)) (by kernel_rfl) (fun _ => by kernel_rfl) ?_
       refine TQ.pure (.bool (r7.2.2 == 0)) (by kernel_rfl) (fun _ => by kernel_rfl) ?_
       cases hg2 : (r7.2.2 == 0)
       ·
        skip
        rw [hg2, cond_false] at hX1
        refine TQ.pass (by kernel_rfl) (by kernel_rfl) ?_
        refine TQ.pass (by kernel_rfl) (by kernel_rfl) ?_
        refine TQ.pass (by kernel_rfl) (by kernel_rfl) ?_
        refine TQ.pass (by kernel_rfl) (by kernel_rfl) ?_
        refine TQ.pass (by kernel_rfl) (by kernel_rfl) ?_
        refine TQ.pure (.bool false) (by kernel_rfl) (fun _ => by kernel_rfl) ?_
        refine TQ.pure (.bool false) (by kernel_rfl) (fun _ => by kernel_rfl) ?_
        refine TQ.pass (by kernel_rfl) (by kernel_rfl) ?_
        refine TQ.pass (by kernel_rfl) (by kernel_rfl) ?_
        refine TQ.pass (by kernel_rfl) (by kernel_rfl) ?_
        refine TQ.pass (by kernel_rfl) (by kernel_rfl) ?_
        refine TQ.pass (by kernel_rfl) (by kernel_rfl) ?_
        refine TQ.pass (by kernel_rfl) (by kernel_rfl) ?_
        refine TQ.pure (.bool false) (by kernel_rfl) (fun _ => by kernel_rfl) ?_
        refine TQ.pure (.bool false) (by kernel_rfl) (fun _ => by kernel_rfl) ?_
        refine TQ.pass (by kernel_rfl) (by kernel_rfl) ?_
        refine TQ.pass (by kernel_rfl) (by kernel_rfl) ?_
        refine TQ.pass (by kernel_rfl) (by kernel_rfl) ?_
        refine TQ.pass (by kernel_rfl) (by kernel_rfl) ?_
        refine TQ.pass (by kernel_rfl) (by kernel_rfl) ?_
        refine TQ.pure (.bool false) (by kernel_rfl) (fun _ => by kernel_rfl) ?_
        refine TQ.pure (.bool false) (by kernel_rfl) (fun _ => by kernel_rfl) ?_
        refine TQ.pass (by kernel_rfl) (by kernel_rfl) ?_
        refine TQ.pass (by kernel_rfl) (by kernel_rfl) ?_
        refine TQ.pass (by kernel_rfl) (by kernel_rfl) ?_
        refine TQ.pass (by kernel_rfl) (by kernel_rfl) ?_
        refine TQ.pass (by kernel_rfl) (by kernel_rfl) ?_
        refine TQ.pure (.bool false) (by kernel_rfl) (fun _ => by kernel_rfl) ?_
        refine TQ.pure (.bool false) (by kernel_rfl) (fun _ => by kernel_rfl) ?_
        refine TQ.pass (by kernel_rfl) (by kernel_rfl) ?_
        refine TQ.pass (by kernel_rfl) (by kernel_rfl) ?_
        refine TQ.pass (by kernel_rfl) (by kernel_rfl) ?_
        refine TQ.pure (.bool false) (by kernel_rfl) (fun _ => by kernel_rfl) ?_
        refine TQ.pure (.bool false) (by kernel_rfl) (fun _ => by kernel_rfl) ?_
        refine TQ.nil ?_
        cases hX1
        exact fun a w' hf hh => Exists.intro (x1 ++ [r7.1]) (Exists.intro x2 (Exists.intro x3 (Exists.intro x4 (Exists.intro false (And.intro rfl (Exists.intro A3 (Exists.intro c3 (Exists.intro V8 (And.intro hV8 (And.intro ((((((Fr.nil hf).pick hf 8 rfl).pick hf 4 rfl).pick hf 3 rfl).pick hf 2 rfl).pick hf 0 rfl) (hh.sub (.cons _ (.cons _ (.cons _ (.cons_cons _ (.cons_cons _ (.cons_cons _ List.Sublist.slnil)))))))))))))))))
       ·
        skip
        rw [hg2, cond_true] at hX1
        refine TQ.pure (.int .i64 r7.2.1) (by kernel_rfl) (fun _ => by kernel_rfl) ?_
        refine TQ.pure (.pointer (some ⟨b3, 1, none⟩)) (by kernel_rfl) (fun _ => by kernel_rfl) ?_
        refine TQ.look (.string r2.1.body) (by kernel_rfl) (fun w' hh => exec_load1 rfl rfl (by kernel_rfl) (hh.cellBox (i := 2) (by rfl) 1)) ?_
        refine TQ.pure (.int .i64 (r2.1.body.size : Int)) (by kernel_rfl) (fun _ => by kernel_rfl) ?_
        refine TQ.pure (.bool (r7.2.1 == (r2.1.body.size : Int))) (by kernel_rfl) (fun _ => by kernel_rfl) ?_
        refine TQ.pure (.bool (r7.2.1 == (r2.1.body.size : Int))) (by kernel_rfl) (fun _ => by kernel_rfl) ?_
        refine TQ.pure (.bool (r7.2.1 == (r2.1.body.size : Int))) (by kernel_rfl) (fun _ => by kernel_rfl) ?_
        cases hg3 : (r7.2.1 == (r2.1.body.size : Int))
        ·
         skip
         rw [hg3, cond_false] at hX1
         refine TQ.pass (by kernel_rfl) (by kernel_rfl) ?_
         refine TQ.pass (by kernel_rfl) (by kernel_rfl) ?_
         refine TQ.pass (by kernel_rfl) (by kernel_rfl) ?_
         refine TQ.pass (by kernel_rfl) (by kernel_rfl) ?_
         refine TQ.pass (by kernel_rfl) (by kernel_rfl) ?_
         refine TQ.pass (by kernel_rfl) (by kernel_rfl) ?_
         refine TQ.pure (.bool false) (by kernel_rfl) (fun _ => by kernel_rfl) ?_
         refine TQ.pure (.bool false) (by kernel_rfl) (fun _ => by kernel_rfl) ?_
         refine TQ.pass (by kernel_rfl) (by kernel_rfl) ?_
         refine TQ.pass (by kernel_rfl) (by kernel_rfl) ?_
         refine TQ.pass (by kernel_rfl) (by kernel_rfl) ?_
         refine TQ.pass (by kernel_rfl) (by kernel_rfl) ?_
         refine TQ.pass (by kernel_rfl) (by kernel_rfl) ?_
         refine TQ.pure (.bool false) (by kernel_rfl) (fun _ => by kernel_rfl) ?_
         refine TQ.pure (.bool false) (by kernel_rfl) (fun _ => by kernel_rfl) ?_
         refine TQ.pass (by kernel_rfl) (by kernel_rfl) ?_
         refine TQ.pass (by kernel_rfl) (by kernel_rfl) ?_
         refine TQ.pass (by kernel_rfl) (by kernel_rfl) ?_
         refine TQ.pass (by kernel_rfl) (by kernel_rfl) ?_
         refine TQ.pass (by kernel_rfl) (by kernel_rfl) ?_
         refine TQ.pure (.bool false) (by kernel_rfl) (fun _ => by kernel_rfl) ?_
         refine TQ.pure (.bool false) (by kernel_rfl) (fun _ => by kernel_rfl) ?_
         refine TQ.pass (by kernel_rfl) (by kernel_rfl) ?_
         refine TQ.pass (by kernel_rfl) (by kernel_rfl) ?_
         refine TQ.pass (by kernel_rfl) (by kernel_rfl) ?_
         refine TQ.pure (.bool false) (by kernel_rfl) (fun _ => by kernel_rfl) ?_
         refine TQ.pure (.bool false) (by kernel_rfl) (fun _ => by kernel_rfl) ?_
         refine TQ.nil ?_
         cases hX1
         exact fun a w' hf hh => Exists.intro (x1 ++ [r7.1]) (Exists.intro x2 (Exists.intro x3 (Exists.intro x4 (Exists.intro false (And.intro rfl (Exists.intro A3 (Exists.intro c3 (Exists.intro V8 (And.intro hV8 (And.intro ((((((Fr.nil hf).pick hf 8 rfl).pick hf 4 rfl).pick hf 3 rfl).pick hf 2 rfl).pick hf 0 rfl) (hh.sub (.cons _ (.cons _ (.cons _ (.cons_cons _ (.cons_cons _ (.cons_cons _ List.Sublist.slnil)))))))))))))))))
        ·
         skip
         rw [hg3, cond_true] at hX1
         refine TQ.pure (.pointer (some ⟨b4, 0, none⟩)) (by kernel_rfl) (fun _ => by kernel_rfl) ?_
         refine TQ.pure (.pointer (some ⟨b4, 0, none⟩)) (by kernel_rfl) (fun _ => by kernel_rfl) ?_
         refine TQ.look (.int .i64 r7.1.key.pfs) (by kernel_rfl) (fun w' hh => exec_load1 rfl rfl (by kernel_rfl) (hh.cellBox (i := 1) (by rfl) 0)) ?_
         refine TQ.pure (.pointer (some ⟨b2, 0, none⟩)) (by kernel_rfl) (fun _ => by kernel_rfl) ?_
         refine TQ.look (.int .i64 x2) (by kernel_rfl) (fun w' hh => exec_load1 rfl rfl (by kernel_rfl) (hh.cellBox (i := 4) (by rfl) 0)) ?_
         refine TQ.pure (.bool (r7.1.key.pfs == x2)) (by kernel_rfl) (fun _ => by kernel_rfl) ?_
         refine TQ.pure (.bool (r7.1.key.pfs == x2)) (by kernel_rfl) (fun _ => by kernel_rfl) ?_
         refine TQ.pure (.bool (r7.1.key.pfs == x2)) (by kernel_rfl) (fun _ => by kernel_rfl) ?_
         cases hg4 : (r7.1.key.pfs == x2)
         ·
          skip
          rw [hg4, cond_false] at hX1
          refine TQ.pass (by kernel_rfl) (by kernel_rfl) ?_
          refine TQ.pass (by kernel_rfl) (by kernel_rfl) ?_
          refine TQ.pass (by kernel_rfl) (by kernel_rfl) ?_
          refine TQ.pass (by kernel_rfl) (by kernel_rfl) ?_
          refine TQ.pass (by kernel_rfl) (by kernel_rfl) ?_
          refine TQ.pure (.bool false) (by kernel_rfl) (fun _ => by kernel_rfl) ?_
          refine TQ.pure (.bool false) (by kernel_rfl) (fun _ => by kernel_rfl) ?_
          refine TQ.pass (by kernel_rfl) (by kernel_rfl) ?_
          refine TQ.pass (by kernel_rfl) (by kernel_rfl) ?_
          refine TQ.pass (by kernel_rfl) (by kernel_rfl) ?_
          refine TQ.pass (by kernel_rfl) (by kernel_rfl) ?_
          refine TQ.pass (by kernel_rfl) (by kernel_rfl) ?_
          refine TQ.pure (.bool false) (by kernel_rfl) (fun _ => by kernel_rfl) ?_
          refine TQ.pure (.bool false) (by kernel_rfl) (fun _ => by kernel_rfl) ?_
          refine TQ.pass (by kernel_rfl) (by kernel_rfl) ?_
          refine TQ.pass (by kernel_rfl) (by kernel_rfl) ?_
          refine TQ.pass (by kernel_rfl) (by kernel_rfl) ?_
          refine TQ.pure (.bool false) (by kernel_rfl) (fun _ => by kernel_rfl) ?_
          refine TQ.pure (.bool false) (by kernel_rfl) (fun _ => by kernel_rfl) ?_
          refine TQ.nil ?_
          cases hX1
          exact fun a w' hf hh => Exists.intro (x1 ++ [r7.1]) (Exists.intro x2 (Exists.intro x3 (Exists.intro x4 (Exists.intro false (And.intro rfl (Exists.intro A3 (Exists.intro c3 (Exists.intro V8 (And.intro hV8 (And.intro ((((((Fr.nil hf).pick hf 8 rfl).pick hf 4 rfl).pick hf 3 rfl).pick hf 2 rfl).pick hf 0 rfl) (hh.sub (.cons _ (.cons _ (.cons _ (.cons_cons _ (.cons_cons _ (.cons_cons _ List.Sublist.slnil)))))))))))))))))
         ·
          skip
          rw [hg4, cond_true] at hX1
          refine TQ.look (.agg #[.int .i64 r7.1.key.pfs, .int .i64 r7.1.key.obj, .int .i64 r7.1.key.off, .int .i64 r7.1.made, .int .i64 r7.1.gone, .string r7.1.val]) (by kernel_rfl) (fun w' hh => exec_loadN (cs := [.int .i64 r7.1.key.pfs, .int .i64 r7.1.key.obj, .int .i64 r7.1.key.off, .int .i64 r7.1.made, .int .i64 r7.1.gone, .string r7.1.val]) rfl rfl (by kernel_rfl) (by kernel_rfl) (fun j u hj => (hh.box_at (i := 1) (cs := [.int .i64 r7.1.key.pfs, .int .i64 r7.1.key.obj, .int .i64 r7.1.key.off, .int .i64 r7.1.made, .int .i64 r7.1.gone, .string r7.1.val]) (by rfl) 0 j).trans (seg_at (n := 6) (by rfl) hj))) ?_
          obtain ⟨r8, hb12, hX1⟩ := Option.bind_eq_some_iff.1 hX1
          refine TQ.call (vSc eInt) r8 26 #[.agg #[.int .i64 r7.1.key.pfs, .int .i64 r7.1.key.obj, .int .i64 r7.1.key.off, .int .i64 r7.1.made, .int .i64 r7.1.gone, .string r7.1.val]] (.int .i64 r8) (fun V u hu => sureInt V u _ hu) (by kernel_rfl) (fun _ => by kernel_rfl) (fun w' hh => annalref_Last_l r7.1 r8 hb12 w' ) ?_
          refine TQ.pure (.pointer (some ⟨b2, 1, none⟩)) (by kernel_rfl) (fun _ => by kernel_rfl) ?_
          refine TQ.look (.int .i64 x3) (by kernel_rfl) (fun w' hh => exec_load1 rfl rfl (by kernel_rfl) (hh.cellBox (i := 4) (by rfl) 1)) ?_
          refine TQ.pure (.bool (decide (x3 < r8))) (by kernel_rfl) (fun _ => by kernel_rfl) ?_
          refine TQ.pure (.bool (decide (x3 < r8))) (by kernel_rfl) (fun _ => by kernel_rfl) ?_
          refine TQ.pure (.bool (decide (x3 < r8))) (by kernel_rfl) (fun _ => by kernel_rfl) ?_
          cases hg5 : decide (x3 < r8)
          ·
           skip
           rw [hg5, cond_false] at hX1
           refine TQ.pass (by kernel_rfl) (by kernel_rfl) ?_
           refine TQ.pass (by kernel_rfl) (by kernel_rfl) ?_
           refine TQ.pass (by kernel_rfl) (by kernel_rfl) ?_
           refine TQ.pass (by kernel_rfl) (by kernel_rfl) ?_
           refine TQ.pass (by kernel_rfl) (by kernel_rfl) ?_
           refine TQ.pure (.bool false) (by kernel_rfl) (fun _ => by kernel_rfl) ?_
           refine TQ.pure (.bool false) (by kernel_rfl) (fun _ => by kernel_rfl) ?_
           refine TQ.pass (by kernel_rfl) (by kernel_rfl) ?_
           refine TQ.pass (by kernel_rfl) (by kernel_rfl) ?_
           refine TQ.pass (by kernel_rfl) (by kernel_rfl) ?_
           refine TQ.pure (.bool false) (by kernel_rfl) (fun _ => by kernel_rfl) ?_
           refine TQ.pure (.bool false) (by kernel_rfl) (fun _ => by kernel_rfl) ?_
           refine TQ.nil ?_
           cases hX1
           exact fun a w' hf hh => Exists.intro (x1 ++ [r7.1]) (Exists.intro x2 (Exists.intro x3 (Exists.intro x4 (Exists.intro false (And.intro rfl (Exists.intro A3 (Exists.intro c3 (Exists.intro V8 (And.intro hV8 (And.intro ((((((Fr.nil hf).pick hf 8 rfl).pick hf 4 rfl).pick hf 3 rfl).pick hf 2 rfl).pick hf 0 rfl) (hh.sub (.cons _ (.cons _ (.cons _ (.cons_cons _ (.cons_cons _ (.cons_cons _ List.Sublist.slnil)))))))))))))))))
          ·
           skip
           rw [hg5, cond_true] at hX1
           refine TQ.look (.agg #[.int .i64 r7.1.key.pfs, .int .i64 r7.1.key.obj, .int .i64 r7.1.key.off, .int .i64 r7.1.made, .int .i64 r7.1.gone, .string r7.1.val]) (by kernel_rfl) (fun w' hh => exec_loadN (cs := [.int .i64 r7.1.key.pfs, .int .i64 r7.1.key.obj, .int .i64 r7.1.key.off, .int .i64 r7.1.made, .int .i64 r7.1.gone, .string r7.1.val]) rfl rfl (by kernel_rfl) (by kernel_rfl) (fun j u hj => (hh.box_at (i := 1) (cs := [.int .i64 r7.1.key.pfs, .int .i64 r7.1.key.obj, .int .i64 r7.1.key.off, .int .i64 r7.1.made, .int .i64 r7.1.gone, .string r7.1.val]) (by rfl) 0 j).trans (seg_at (n := 6) (by rfl) hj))) ?_
           obtain ⟨r9, hb13, hX1⟩ := Option.bind_eq_some_iff.1 hX1
           refine TQ.call (vSc eInt) r9 26 #[.agg #[.int .i64 r7.1.key.pfs, .int .i64 r7.1.key.obj, .int .i64 r7.1.key.off, .int .i64 r7.1.made, .int .i64 r7.1.gone, .string r7.1.val]] (.int .i64 r9) (fun V u hu => sureInt V u _ hu) (by kernel_rfl) (fun _ => by kernel_rfl) (fun w' hh => annalref_Last_l r7.1 r9 hb13 w' ) ?_
           refine TQ.pure (.pointer (some ⟨b2, 2, none⟩)) (by kernel_rfl) (fun _ => by kernel_rfl) ?_
           refine TQ.look (.int .i64 x4) (by kernel_rfl) (fun w' hh => exec_load1 rfl rfl (by kernel_rfl) (hh.cellBox (i := 4) (by rfl) 2)) ?_
           refine TQ.pure (.bool (decide (r9 ≤ x4))) (by kernel_rfl) (fun _ => by kernel_rfl) ?_
           refine TQ.pure (.bool (decide (r9 ≤ x4))) (by kernel_rfl) (fun _ => by kernel_rfl) ?_
           refine TQ.pure (.bool (decide (r9 ≤ x4))) (by kernel_rfl) (fun _ => by kernel_rfl) ?_
           cases hg6 : decide (r9 ≤ x4)
           ·
            skip
            rw [hg6, cond_false] at hX1
            refine TQ.pass (by kernel_rfl) (by kernel_rfl) ?_
            refine TQ.pass (by kernel_rfl) (by kernel_rfl) ?_
            refine TQ.pass (by kernel_rfl) (by kernel_rfl) ?_
            refine TQ.pure (.bool false) (by kernel_rfl) (fun _ => by kernel_rfl) ?_
            refine TQ.pure (.bool false) (by kernel_rfl) (fun _ => by kernel_rfl) ?_
            refine TQ.nil ?_
            cases hX1
            exact fun a w' hf hh => Exists.intro (x1 ++ [r7.1]) (Exists.intro x2 (Exists.intro x3 (Exists.intro x4 (Exists.intro false (And.intro rfl (Exists.intro A3 (Exists.intro c3 (Exists.intro V8 (And.intro hV8 (And.intro ((((((Fr.nil hf).pick hf 8 rfl).pick hf 4 rfl).pick hf 3 rfl).pick hf 2 rfl).pick hf 0 rfl) (hh.sub (.cons _ (.cons _ (.cons _ (.cons_cons _ (.cons_cons _ (.cons_cons _ List.Sublist.slnil)))))))))))))))))
           ·
            skip
            rw [hg6, cond_true] at hX1
            refine TQ.pure (.pointer (some ⟨b2, 3, none⟩)) (by kernel_rfl) (fun _ => by kernel_rfl) ?_
            refine TQ.look (.slice A3 ((x1 ++ [r7.1]).length) c3) (by kernel_rfl) (fun w' hh => exec_load1 rfl rfl (by kernel_rfl) (hh.cellBox (i := 4) (by rfl) 3)) ?_
            obtain ⟨r10, hb14, hX1⟩ := Option.bind_eq_some_iff.1 hX1
            refine TQ.call (vSc eBool) r10 27 #[.slice A3 ((x1 ++ [r7.1]).length) c3] (.bool r10) (fun V u hu => sureBool V u _ hu) (by kernel_rfl) (fun _ => by kernel_rfl) (fun w' hh => annalref_Rising_l F (x1 ++ [r7.1]) r10 hb14 w' A3 c3 (hh.row_slOk (i := 3) (by rfl))) ?_
            refine TQ.pure (.bool r10) (by kernel_rfl) (fun _ => by kernel_rfl) ?_
            refine TQ.pure (.bool r10) (by kernel_rfl) (fun _ => by kernel_rfl) ?_
            refine TQ.nil ?_
            cases hX1
            exact fun a w' hf hh => Exists.intro (x1 ++ [r7.1]) (Exists.intro x2 (Exists.intro x3 (Exists.intro x4 (Exists.intro r10 (And.intro rfl (Exists.intro A3 (Exists.intro c3 (Exists.intro V8 (And.intro hV8 (And.intro ((((((Fr.nil hf).pick hf 8 rfl).pick hf 4 rfl).pick hf 3 rfl).pick hf 2 rfl).pick hf 0 rfl) (hh.sub (.cons _ (.cons _ (.cons _ (.cons_cons _ (.cons_cons _ (.cons_cons _ List.Sublist.slnil)))))))))))))))))
      ·
       rw [hc4, cond_false] at hX1
       refine T.seq ?_
       refine T.region ?_
       refine T.pure (.pointer (some ⟨b3, 0, none⟩)) (by kernel_rfl) (fun _ => by kernel_rfl) ?_
       refine T.look (.int .i64 r2.1.kind) (by kernel_rfl) (fun w' hh => exec_load1 rfl rfl (by kernel_rfl) (hh.cellBox (i := 0) (by rfl) 0)) ?_
       refine T.pure (.bool (r2.1.kind == 3)) (by kernel_rfl) (fun _ => by kernel_rfl) ?_
       refine T.pure (.bool (r2.1.kind == 3)) (by kernel_rfl) (fun _ => by kernel_rfl) ?_
       refine T.nil ?_
       refine T.cond (r2.1.kind == 3) (by kernel_rfl) (by kernel_rfl) (fun hc5 => ?_) (fun hc5 => ?_)
       ·
        rw [hc5, cond_true] at hX1
        obtain ⟨z6, hX2, hX1⟩ := Option.bind_eq_some_iff.1 hX1
        refine T.cut (fun a w' => ∃ (V9 : View), View.le V2 V9 ∧ Fr 134 [(0, .string s2), (2, .pointer (some ⟨b1, 0, none⟩)), (3, .pointer (some ⟨b2, 0, none⟩)), (4, .int .i64 x6), (8, .bool false), (129, .bool z6)] a ∧ Hp w V9 [row 37 eElem A1 c1 x1, box b2 42 [.int .i64 x2, .int .i64 x3, .int .i64 x4, .slice A1 x1.length c1, .int .i64 0], box b1 42 [.int .i64 0, .int .i64 0, .int .i64 0, .slice none 0 0, .int .i64 0]] w') ?_ ?_
        ·
         refine T.held [box b3 60 [.int .i64 r2.1.kind, .string r2.1.body], row 37 eElem A1 c1 x1, box b2 42 [.int .i64 x2, .int .i64 x3, .int .i64 x4, .slice A1 x1.length c1, .int .i64 0], box b1 42 [.int .i64 0, .int .i64 0, .int .i64 0, .slice none 0 0, .int .i64 0]] (by kernel_rfl) ?_
         refine TA.take 0 (.string s2) rfl (by kernel_rfl) (by kernel_rfl) (by kernel_rfl) (fun _ _ _ h => h) (Hp.old (View.le_refl _) (View.le_trans hV1 hV2) (.cons_cons _ (.cons_cons _ (.cons_cons _ (.cons_cons _ List.Sublist.slnil)))) (OldAll.box (OldAll.row (fun _ _ _ _ h => h) (OldAll.box (OldAll.box OldAll.nil))))) (by kernel_rfl) (fun _ _ => by kernel_rfl) ?_
         refine TA.take 1 (.bool (seq s2 (ByteArray.mk #[]))) rfl (by kernel_rfl) (by kernel_rfl) (by kernel_rfl) (fun _ _ _ h => h) (Hp.old (View.le_refl _) (View.le_trans hV1 hV2) (.cons_cons _ (.cons_cons _ (.cons_cons _ (.cons_cons _ List.Sublist.slnil)))) (OldAll.box (OldAll.row (fun _ _ _ _ h => h) (OldAll.box (OldAll.box OldAll.nil))))) (by kernel_rfl) (fun _ _ => by kernel_rfl) ?_
         refine TA.take 2 (.bool (seq s2 (ByteArray.mk #[]))) rfl (by kernel_rfl) (by kernel_rfl) (by kernel_rfl) (fun _ _ _ h => h) (Hp.old (View.le_refl _) (View.le_trans hV1 hV2) (.cons_cons _ (.cons_cons _ (.cons_cons _ (.cons_cons _ List.Sublist.slnil)))) (OldAll.box (OldAll.row (fun _ _ _ _ h => h) (OldAll.box (OldAll.box OldAll.nil))))) (by kernel_rfl) (fun _ _ => by kernel_rfl) ?_
         cases hg7 : (seq s2 (ByteArray.mk #[]))
         ·
          rw [hg7, cond_false] at hX2
          refine TA.takeNo 3 rfl (by kernel_rfl) (by kernel_rfl) (by kernel_rfl) (fun _ _ _ h => h) (Hp.old (View.le_refl _) (View.le_trans hV1 hV2) (.cons_cons _ (.cons_cons _ (.cons_cons _ (.cons_cons _ List.Sublist.slnil)))) (OldAll.box (OldAll.row (fun _ _ _ _ h => h) (OldAll.box (OldAll.box OldAll.nil))))) (by kernel_rfl) (by kernel_rfl) ?_
          refine TA.takeNo 4 rfl (by kernel_rfl) (by kernel_rfl) (by kernel_rfl) (fun _ _ _ h => h) (Hp.old (View.le_refl _) (View.le_trans hV1 hV2) (.cons_cons _ (.cons_cons _ (.cons_cons _ (.cons_cons _ List.Sublist.slnil)))) (OldAll.box (OldAll.row (fun _ _ _ _ h => h) (OldAll.box (OldAll.box OldAll.nil))))) (by kernel_rfl) (by kernel_rfl) ?_
          refine TA.takeNo 5 rfl (by kernel_rfl) (by kernel_rfl) (by kernel_rfl) (fun _ _ _ h => h) (Hp.old (View.le_refl _) (View.le_trans hV1 hV2) (.cons_cons _ (.cons_cons _ (.cons_cons _ (.cons_cons _ List.Sublist.slnil)))) (OldAll.box (OldAll.row (fun _ _ _ _ h => h) (OldAll.box (OldAll.box OldAll.nil))))) (by kernel_rfl) (by kernel_rfl) ?_
          refine TA.takeNo 6 rfl (by kernel_rfl) (by kernel_rfl) (by kernel_rfl) (fun _ _ _ h => h) (Hp.old (View.le_refl _) (View.le_trans hV1 hV2) (.cons_cons _ (.cons_cons _ (.cons_cons _ (.cons_cons _ List.Sublist.slnil)))) (OldAll.box (OldAll.row (fun _ _ _ _ h => h) (OldAll.box (OldAll.box OldAll.nil))))) (by kernel_rfl) (by kernel_rfl) ?_
          refine TA.takeNo 7 rfl (by kernel_rfl) (by kernel_rfl) (by kernel_rfl) (fun _ _ _ h => h) (Hp.old (View.le_refl _) (View.le_trans hV1 hV2) (.cons_cons _ (.cons_cons _ (.cons_cons _ (.cons_cons _ List.Sublist.slnil)))) (OldAll.box (OldAll.row (fun _ _ _ _ h => h) (OldAll.box (OldAll.box OldAll.nil))))) (by kernel_rfl) (by kernel_rfl) ?_
          refine TA.takeNo 8 rfl (by kernel_rfl) (by kernel_rfl) (by kernel_rfl) (fun _ _ _ h => h) (Hp.old (View.le_refl _) (View.le_trans hV1 hV2) (.cons_cons _ (.cons_cons _ (.cons_cons _ (.cons_cons _ List.Sublist.slnil)))) (OldAll.box (OldAll.row (fun _ _ _ _ h => h) (OldAll.box (OldAll.box OldAll.nil))))) (by kernel_rfl) (by kernel_rfl) ?_
          refine TA.take 9 (.bool false) rfl (by kernel_rfl) (by kernel_rfl) (by kernel_rfl) (fun _ _ _ h => h) (Hp.old (View.le_refl _) (View.le_trans hV1 hV2) (.cons_cons _ (.cons_cons _ (.cons_cons _ (.cons_cons _ List.Sublist.slnil)))) (OldAll.box (OldAll.row (fun _ _ _ _ h => h) (OldAll.box (OldAll.box OldAll.nil))))) (by kernel_rfl) (fun _ _ => by kernel_rfl) ?_
          refine TA.done (by kernel_rfl) ?_
          cases hX2
          exact fun a w' hf hh => Exists.intro V2 (And.intro (View.le_refl _) (And.intro (((((((Fr.nil hf).pick hf 129 rfl).pick hf 8 rfl).pick hf 4 rfl).pick hf 3 rfl).pick hf 2 rfl).pick hf 0 rfl) (hh.sub (.cons _ (.cons_cons _ (.cons_cons _ (.cons_cons _ List.Sublist.slnil)))))))
         ·
          rw [hg7, cond_true] at hX2
          refine TA.take 3 (.pointer (some ⟨b3, 1, none⟩)) rfl (by kernel_rfl) (by kernel_rfl) (by kernel_rfl) (fun _ _ _ h => h) (Hp.old (View.le_refl _) (View.le_trans hV1 hV2) (.cons_cons _ (.cons_cons _ (.cons_cons _ (.cons_cons _ List.Sublist.slnil)))) (OldAll.box (OldAll.row (fun _ _ _ _ h => h) (OldAll.box (OldAll.box OldAll.nil))))) (by kernel_rfl) (fun _ _ => by kernel_rfl) ?_
          refine TA.take 4 (.string r2.1.body) rfl (by kernel_rfl) (by kernel_rfl) (by kernel_rfl) (fun _ _ _ h => h) (Hp.old (View.le_refl _) (View.le_trans hV1 hV2) (.cons_cons _ (.cons_cons _ (.cons_cons _ (.cons_cons _ List.Sublist.slnil)))) (OldAll.box (OldAll.row (fun _ _ _ _ h => h) (OldAll.box (OldAll.box OldAll.nil))))) (by kernel_rfl) (fun w' hh => exec_load1 rfl rfl (by kernel_rfl) (hh.cellBox (i := 0) (by rfl) 1)) ?_
          refine TA.take 5 (.int .i64 x6) rfl (by kernel_rfl) (by kernel_rfl) (by kernel_rfl) (fun _ _ _ h => h) (Hp.old (View.le_refl _) (View.le_trans hV1 hV2) (.cons_cons _ (.cons_cons _ (.cons_cons _ (.cons_cons _ List.Sublist.slnil)))) (OldAll.box (OldAll.row (fun _ _ _ _ h => h) (OldAll.box (OldAll.box OldAll.nil))))) (by kernel_rfl) (fun _ _ => by kernel_rfl) ?_
          refine TA.take 6 (.int .i64 (IntKind.i64.wrap (x6 - 1))) rfl (by kernel_rfl) (by kernel_rfl) (by kernel_rfl) (fun _ _ _ h => h) (Hp.old (View.le_refl _) (View.le_trans hV1 hV2) (.cons_cons _ (.cons_cons _ (.cons_cons _ (.cons_cons _ List.Sublist.slnil)))) (OldAll.box (OldAll.row (fun _ _ _ _ h => h) (OldAll.box (OldAll.box OldAll.nil))))) (by kernel_rfl) (fun _ _ => by kernel_rfl) ?_
          refine TA.all [7] (by kernel_rfl) rfl ⟨?_, trivial⟩
          obtain ⟨q3, hz2, hX2⟩ := Option.bind_eq_some_iff.1 hX2
          refine (have hq1 := fix_rec (fun (s_ : Int × Int) (r_ : ByteArray) => ∀ (x7 : Int) (x8 : Int), s_ = (x7, x8) → ∀ (V10 : View) (G1 : List HObj) (w1 : World), View.le V2 V10 → Hp w V10 G1 w1 → Calls Try.prog 28 #[.int .i64 x7, .int .i64 x8] w1 (fun e w2 => ∃ v, e = .returned v ∧ ∃ (z7 : ByteArray), r_ = z7 ∧ ∃ (V11 : View), View.le V10 V11 ∧ v = .string z7 ∧ Hp w V11 G1 w2)) hz2 ?_; ?_)
          ·
           rintro rf1 ih1 s_ r_ hS1 x7 x8 rfl V10 G1 w1 hV10 hh
           try dsimp only at hS1
           refine T.startI (l := [.int .i64 x7, .int .i64 x8]) Try.func28 rfl rfl rfl ?_ hh
           clear hh
           refine T.seq ?_
           refine T.region ?_
           refine T.pure (.string (ByteArray.mk #[])) (by kernel_rfl) (fun _ => by kernel_rfl) ?_
           refine T.nil ?_
           refine T.seq ?_
           refine T.seq ?_
           refine T.region ?_
           refine T.pure (.int .i64 x8) (by kernel_rfl) (fun _ => by kernel_rfl) ?_
           refine T.pure (.bool (x8 == 0)) (by kernel_rfl) (fun _ => by kernel_rfl) ?_
           refine T.nil ?_
           refine T.cond (x8 == 0) (by kernel_rfl) (by kernel_rfl) (fun hc6 => ?_) (fun hc6 => ?_)
           ·
            rw [hc6, cond_true] at hS1
            refine T.seq ?_
            refine T.region ?_
            refine T.pure (.string (ByteArray.mk #[])) (by kernel_rfl) (fun _ => by kernel_rfl) ?_
            refine T.nil ?_
            have hres := Option.some.inj hS1
            subst hres
            refine T.ret rfl ?_
            repeat first | refine T.unthen ?_ | refine T.unblock ?_
            exact T.ret1 rfl (ResIs.tmp rfl) fun w' hh => ⟨_, rfl, Exists.intro (ByteArray.mk #[]) (And.intro rfl (Exists.intro V10 (And.intro (View.le_refl _) (And.intro rfl (hh.sub (List.Sublist.refl _))))))⟩
           ·
            rw [hc6, cond_false] at hS1
            refine T.skip_code ?_
            refine T.seq ?_
            obtain ⟨z8, hz3, hS1⟩ := Option.bind_eq_some_iff.1 hS1
            obtain ⟨s6, hb15, hS1⟩ := Option.bind_eq_some_iff.1 hS1
            refine T.mid (fun a w' => ∃ (V13 : View), View.le V10 V13 ∧ Fr 18 [(4, .string s6)] a ∧ Hp w V13 G1 w') ?_ ?_
            ·
             refine T.held [] (by kernel_rfl) ?_
             refine TA.take 0 (.int .i64 x7) rfl (by kernel_rfl) (by kernel_rfl) (by kernel_rfl) (fun _ _ _ h => h) (Hp.old (View.le_refl _) (View.le_trans (View.le_trans hV1 hV2) hV10) (List.nil_sublist _) OldAll.nil) (by kernel_rfl) (fun _ _ => by kernel_rfl) ?_
             refine TA.take 1 (.int .i64 (IntKind.i64.wrap ((x7 : Int).tdiv 256))) rfl (by kernel_rfl) (by kernel_rfl) (by kernel_rfl) (fun _ _ _ h => h) (Hp.old (View.le_refl _) (View.le_trans (View.le_trans hV1 hV2) hV10) (List.nil_sublist _) OldAll.nil) (by kernel_rfl) (fun _ _ => by kernel_rfl) ?_
             refine TA.take 2 (.int .i64 x8) rfl (by kernel_rfl) (by kernel_rfl) (by kernel_rfl) (fun _ _ _ h => h) (Hp.old (View.le_refl _) (View.le_trans (View.le_trans hV1 hV2) hV10) (List.nil_sublist _) OldAll.nil) (by kernel_rfl) (fun _ _ => by kernel_rfl) ?_
             refine TA.take 3 (.int .i64 (IntKind.i64.wrap (x8 - 1))) rfl (by kernel_rfl) (by kernel_rfl) (by kernel_rfl) (fun _ _ _ h => h) (Hp.old (View.le_refl _) (View.le_trans (View.le_trans hV1 hV2) hV10) (List.nil_sublist _) OldAll.nil) (by kernel_rfl) (fun _ _ => by kernel_rfl) ?_
             refine TA.take 5 (.int .i64 x7) rfl (by kernel_rfl) (by kernel_rfl) (by kernel_rfl) (fun _ _ _ h => h) (Hp.old (View.le_refl _) (View.le_trans (View.le_trans hV1 hV2) hV10) (List.nil_sublist _) OldAll.nil) (by kernel_rfl) (fun _ _ => by kernel_rfl) ?_
             refine TA.take 6 (.int .i64 ((x7 : Int).tmod 256)) rfl (by kernel_rfl) (by kernel_rfl) (by kernel_rfl) (fun _ _ _ h => h) (Hp.old (View.le_refl _) (View.le_trans (View.le_trans hV1 hV2) hV10) (List.nil_sublist _) OldAll.nil) (by kernel_rfl) (fun _ _ => by kernel_rfl) ?_
             refine TA.take 7 (.int .u8 (IntKind.u8.wrap ((x7 : Int).tmod 256))) rfl (by kernel_rfl) (by kernel_rfl) (by kernel_rfl) (fun _ _ _ h => h) (Hp.old (View.le_refl _) (View.le_trans (View.le_trans hV1 hV2) hV10) (List.nil_sublist _) OldAll.nil) (by kernel_rfl) (fun _ _ => by kernel_rfl) ?_
             refine TA.all [4, 8] (by kernel_rfl) rfl ⟨?_, ?_, trivial⟩
             ·
              refine TA.br rfl (W1.callI 28 [.int .i64 (IntKind.i64.wrap ((x7 : Int).tdiv 256)), .int .i64 (IntKind.i64.wrap (x8 - 1))] (fun v w' => ∃ (z8x : ByteArray), z8 = z8x ∧ ∃ (V12 : View), View.le V10 V12 ∧ v = .string z8x ∧ Hp w V12 G1 w') (by kernel_rfl) (fun _ => by kernel_rfl) (fun w' hh => ih1 _ _ hz3 (IntKind.i64.wrap ((x7 : Int).tdiv 256)) (IntKind.i64.wrap (x8 - 1)) rfl V10 G1 w' hV10 (hh.sub (List.Sublist.refl _))) ?_)
              rintro v w' ⟨z8x, rfl, V12, hV12, rfl, hh⟩
              try dsimp only at hS1
              refine ⟨_, _, hh, ?_⟩
              clear hh
              refine TA.on (Hp.old hV12 (View.le_trans (View.le_trans hV1 hV2) hV10) (List.nil_sublist _) OldAll.nil) ?_
              refine TA.all [8] (by kernel_rfl) rfl ⟨?_, trivial⟩
              refine TA.br rfl (W1.new 5 [.int .u8 (IntKind.u8.wrap ((x7 : Int).tmod 256))] (fun b => .slice (some ⟨b, 0, none⟩) 1 1) (by kernel_rfl) (fun _ => by kernel_rfl) (fun b6 => ?_))
              refine TA.on (Hp.old hV12 (View.le_trans (View.le_trans hV1 hV2) hV10) (.cons _ (List.nil_sublist _)) OldAll.nil) ?_
              refine TA.all [9] (by kernel_rfl) rfl ⟨?_, trivial⟩
              refine TA.br rfl (W1.look (.string (bytesOf [IntKind.u8.wrap ((x7 : Int).tmod 256)])) (by kernel_rfl) (fun w' hh => exec_bytes_str (e := 5) rfl rfl (by kernel_rfl) (by kernel_rfl) (by kernel_rfl) (slok_lit (E := (eK .u8)) (f := (fun x => [.int .u8 x])) [IntKind.u8.wrap ((x7 : Int).tmod 256)] (fun _ _ => rfl) (Nat.le_of_ble_eq_true (by rfl)) (fun j => hh.cellBox (i := 0) (by rfl) j))) ?_)
              refine TA.on (Hp.old hV12 (View.le_trans (View.le_trans hV1 hV2) hV10) (.cons _ (List.nil_sublist _)) OldAll.nil) ?_
              refine TA.take 10 (.string s6) rfl (by kernel_rfl) (by kernel_rfl) (by kernel_rfl) (fun _ _ _ h => h) (Hp.old hV12 (View.le_trans (View.le_trans hV1 hV2) hV10) (.cons _ (List.nil_sublist _)) OldAll.nil) (by kernel_rfl) (fun w' hh => exec_scat rfl rfl rfl hb15) ?_
              refine TA.take 11 (.string s6) rfl (by kernel_rfl) (by kernel_rfl) (by kernel_rfl) (fun _ _ _ h => h) (Hp.old hV12 (View.le_trans (View.le_trans hV1 hV2) hV10) (.cons _ (List.nil_sublist _)) OldAll.nil) (by kernel_rfl) (fun _ _ => by kernel_rfl) ?_
              refine TA.done (by kernel_rfl) ?_
              exact fun a w' hf hh => Exists.intro V12 (And.intro hV12 (And.intro ((Fr.nil hf).pick hf 4 rfl) (hh.sub (.cons _ (List.Sublist.refl _)))))
             ·
              refine TA.br rfl (W1.new 5 [.int .u8 (IntKind.u8.wrap ((x7 : Int).tmod 256))] (fun b => .slice (some ⟨b, 0, none⟩) 1 1) (by kernel_rfl) (fun _ => by kernel_rfl) (fun b6 => ?_))
              refine TA.on (Hp.old (View.le_refl _) (View.le_trans (View.le_trans hV1 hV2) hV10) (.cons _ (List.nil_sublist _)) OldAll.nil) ?_
              refine TA.all [4, 9] (by kernel_rfl) rfl ⟨?_, ?_, trivial⟩
              ·
               refine TA.br rfl (W1.callI 28 [.int .i64 (IntKind.i64.wrap ((x7 : Int).tdiv 256)), .int .i64 (IntKind.i64.wrap (x8 - 1))] (fun v w' => ∃ (z8x : ByteArray), z8 = z8x ∧ ∃ (V12 : View), View.le V10 V12 ∧ v = .string z8x ∧ Hp w V12 ((box b6 5 [.int .u8 (IntKind.u8.wrap ((x7 : Int).tmod 256))]) :: G1) w') (by kernel_rfl) (fun _ => by kernel_rfl) (fun w' hh => ih1 _ _ hz3 (IntKind.i64.wrap ((x7 : Int).tdiv 256)) (IntKind.i64.wrap (x8 - 1)) rfl V10 ((box b6 5 [.int .u8 (IntKind.u8.wrap ((x7 : Int).tmod 256))]) :: G1) w' hV10 (hh.sub (.cons_cons _ (List.Sublist.refl _)))) ?_)
               rintro v w' ⟨z8x, rfl, V12, hV12, rfl, hh⟩
               try dsimp only at hS1
               refine ⟨_, _, hh, ?_⟩
               clear hh
               refine TA.on (Hp.old hV12 (View.le_trans (View.le_trans hV1 hV2) hV10) (.cons _ (List.nil_sublist _)) OldAll.nil) ?_
               refine TA.all [9] (by kernel_rfl) rfl ⟨?_, trivial⟩
               refine TA.br rfl (W1.look (.string (bytesOf [IntKind.u8.wrap ((x7 : Int).tmod 256)])) (by kernel_rfl) (fun w' hh => exec_bytes_str (e := 5) rfl rfl (by kernel_rfl) (by kernel_rfl) (by kernel_rfl) (slok_lit (E := (eK .u8)) (f := (fun x => [.int .u8 x])) [IntKind.u8.wrap ((x7 : Int).tmod 256)] (fun _ _ => rfl) (Nat.le_of_ble_eq_true (by rfl)) (fun j => hh.cellBox (i := 0) (by rfl) j))) ?_)
               refine TA.on (Hp.old hV12 (View.le_trans (View.le_trans hV1 hV2) hV10) (.cons _ (List.nil_sublist _)) OldAll.nil) ?_
               refine TA.take 10 (.string s6) rfl (by kernel_rfl) (by kernel_rfl) (by kernel_rfl) (fun _ _ _ h => h) (Hp.old hV12 (View.le_trans (View.le_trans hV1 hV2) hV10) (.cons _ (List.nil_sublist _)) OldAll.nil) (by kernel_rfl) (fun w' hh => exec_scat rfl rfl rfl hb15) ?_
               refine TA.take 11 (.string s6) rfl (by kernel_rfl) (by kernel_rfl) (by kernel_rfl) (fun _ _ _ h => h) (Hp.old hV12 (View.le_trans (View.le_trans hV1 hV2) hV10) (.cons _ (List.nil_sublist _)) OldAll.nil) (by kernel_rfl) (fun _ _ => by kernel_rfl) ?_
               refine TA.done (by kernel_rfl) ?_
               exact fun a w' hf hh => Exists.intro V12 (And.intro hV12 (And.intro ((Fr.nil hf).pick hf 4 rfl) (hh.sub (.cons _ (List.Sublist.refl _)))))
              ·
               refine TA.br rfl (W1.look (.string (bytesOf [IntKind.u8.wrap ((x7 : Int).tmod 256)])) (by kernel_rfl) (fun w' hh => exec_bytes_str (e := 5) rfl rfl (by kernel_rfl) (by kernel_rfl) (by kernel_rfl) (slok_lit (E := (eK .u8)) (f := (fun x => [.int .u8 x])) [IntKind.u8.wrap ((x7 : Int).tmod 256)] (fun _ _ => rfl) (Nat.le_of_ble_eq_true (by rfl)) (fun j => hh.cellBox (i := 0) (by rfl) j))) ?_)
               refine TA.on (Hp.old (View.le_refl _) (View.le_trans (View.le_trans hV1 hV2) hV10) (.cons _ (List.nil_sublist _)) OldAll.nil) ?_
               refine TA.all [4] (by kernel_rfl) rfl ⟨?_, trivial⟩
               refine TA.br rfl (W1.callI 28 [.int .i64 (IntKind.i64.wrap ((x7 : Int).tdiv 256)), .int .i64 (IntKind.i64.wrap (x8 - 1))] (fun v w' => ∃ (z8x : ByteArray), z8 = z8x ∧ ∃ (V12 : View), View.le V10 V12 ∧ v = .string z8x ∧ Hp w V12 ((box b6 5 [.int .u8 (IntKind.u8.wrap ((x7 : Int).tmod 256))]) :: G1) w') (by kernel_rfl) (fun _ => by kernel_rfl) (fun w' hh => ih1 _ _ hz3 (IntKind.i64.wrap ((x7 : Int).tdiv 256)) (IntKind.i64.wrap (x8 - 1)) rfl V10 ((box b6 5 [.int .u8 (IntKind.u8.wrap ((x7 : Int).tmod 256))]) :: G1) w' hV10 (hh.sub (.cons_cons _ (List.Sublist.refl _)))) ?_)
               rintro v w' ⟨z8x, rfl, V12, hV12, rfl, hh⟩
               try dsimp only at hS1
               refine ⟨_, _, hh, ?_⟩
               clear hh
               refine TA.on (Hp.old hV12 (View.le_trans (View.le_trans hV1 hV2) hV10) (.cons _ (List.nil_sublist _)) OldAll.nil) ?_
               refine TA.take 10 (.string s6) rfl (by kernel_rfl) (by kernel_rfl) (by kernel_rfl) (fun _ _ _ h => h) (Hp.old hV12 (View.le_trans (View.le_trans hV1 hV2) hV10) (.cons _ (List.nil_sublist _)) OldAll.nil) (by kernel_rfl) (fun w' hh => exec_scat rfl rfl rfl hb15) ?_
               refine TA.take 11 (.string s6) rfl (by kernel_rfl) (by kernel_rfl) (by kernel_rfl) (fun _ _ _ h => h) (Hp.old hV12 (View.le_trans (View.le_trans hV1 hV2) hV10) (.cons _ (List.nil_sublist _)) OldAll.nil) (by kernel_rfl) (fun _ _ => by kernel_rfl) ?_
               refine TA.done (by kernel_rfl) ?_
               exact fun a w' hf hh => Exists.intro V12 (And.intro hV12 (And.intro ((Fr.nil hf).pick hf 4 rfl) (hh.sub (.cons _ (List.Sublist.refl _)))))
            ·
             rintro a w' ⟨V13, hV13, hf, hh⟩
             refine (?_ : T 18 w V13 G1 [(4, .string s6)] _) a w' hf hh
             clear hf hh
             have hres := Option.some.inj hS1
             subst hres
             refine T.ret rfl ?_
             repeat first | refine T.unthen ?_ | refine T.unblock ?_
             exact T.ret1 rfl (ResIs.tmp rfl) fun w' hh => ⟨_, rfl, Exists.intro s6 (And.intro rfl (Exists.intro V13 (And.intro hV13 (And.intro rfl (hh.sub (List.Sublist.refl _))))))⟩
          refine TA.br rfl (W1.callI 28 [.int .i64 (IntKind.i64.wrap (x6 - 1)), .int .i64 4] (fun v w' => ∃ (q3x : ByteArray), q3 = q3x ∧ ∃ (V14 : View), View.le V2 V14 ∧ v = .string q3x ∧ Hp w V14 [box b3 60 [.int .i64 r2.1.kind, .string r2.1.body], row 37 eElem A1 c1 x1, box b2 42 [.int .i64 x2, .int .i64 x3, .int .i64 x4, .slice A1 x1.length c1, .int .i64 0], box b1 42 [.int .i64 0, .int .i64 0, .int .i64 0, .slice none 0 0, .int .i64 0]] w') (by kernel_rfl) (fun _ => by kernel_rfl) (fun w' hh => hq1 (IntKind.i64.wrap (x6 - 1)) 4 rfl V2 [box b3 60 [.int .i64 r2.1.kind, .string r2.1.body], row 37 eElem A1 c1 x1, box b2 42 [.int .i64 x2, .int .i64 x3, .int .i64 x4, .slice A1 x1.length c1, .int .i64 0], box b1 42 [.int .i64 0, .int .i64 0, .int .i64 0, .slice none 0 0, .int .i64 0]] w' (View.le_refl _) (hh.sub (.cons_cons _ (.cons_cons _ (.cons_cons _ (.cons_cons _ List.Sublist.slnil)))))) ?_)
          rintro v w' ⟨q3x, rfl, V14, hV14, rfl, hh⟩
          try dsimp only at hX2
          refine ⟨_, _, hh, ?_⟩
          clear hh
          refine TA.on (Hp.old hV14 (View.le_trans hV1 hV2) (.cons_cons _ (.cons_cons _ (.cons_cons _ (.cons_cons _ List.Sublist.slnil)))) (OldAll.box (OldAll.row (fun _ _ _ _ h => h) (OldAll.box (OldAll.box OldAll.nil))))) ?_
          refine TA.take 8 (.bool (seq r2.1.body q3)) rfl (by kernel_rfl) (by kernel_rfl) (by kernel_rfl) (fun _ _ _ h => h) (Hp.old hV14 (View.le_trans hV1 hV2) (.cons_cons _ (.cons_cons _ (.cons_cons _ (.cons_cons _ List.Sublist.slnil)))) (OldAll.box (OldAll.row (fun _ _ _ _ h => h) (OldAll.box (OldAll.box OldAll.nil))))) (by kernel_rfl) (fun _ _ => by kernel_rfl) ?_
          refine TA.take 9 (.bool (seq r2.1.body q3)) rfl (by kernel_rfl) (by kernel_rfl) (by kernel_rfl) (fun _ _ _ h => h) (Hp.old hV14 (View.le_trans hV1 hV2) (.cons_cons _ (.cons_cons _ (.cons_cons _ (.cons_cons _ List.Sublist.slnil)))) (OldAll.box (OldAll.row (fun _ _ _ _ h => h) (OldAll.box (OldAll.box OldAll.nil))))) (by kernel_rfl) (fun _ _ => by kernel_rfl) ?_
          refine TA.done (by kernel_rfl) ?_
          cases hX2
          exact fun a w' hf hh => Exists.intro V14 (And.intro hV14 (And.intro (((((((Fr.nil hf).pick hf 129 rfl).pick hf 8 rfl).pick hf 4 rfl).pick hf 3 rfl).pick hf 2 rfl).pick hf 0 rfl) (hh.sub (.cons _ (.cons_cons _ (.cons_cons _ (.cons_cons _ List.Sublist.slnil)))))))
        ·
         rintro a w' ⟨V9, hV9, hf, hh⟩
         refine (?_ : T 134 w V9 [row 37 eElem A1 c1 x1, box b2 42 [.int .i64 x2, .int .i64 x3, .int .i64 x4, .slice A1 x1.length c1, .int .i64 0], box b1 42 [.int .i64 0, .int .i64 0, .int .i64 0, .slice none 0 0, .int .i64 0]] [(0, .string s2), (2, .pointer (some ⟨b1, 0, none⟩)), (3, .pointer (some ⟨b2, 0, none⟩)), (4, .int .i64 x6), (8, .bool false), (129, .bool z6)] _) a w' hf hh
         clear hf hh
         refine T.cond z6 (by kernel_rfl) (by kernel_rfl) (fun hc7 => ?_) (fun hc7 => ?_)
         ·
          rw [hc7, cond_true] at hX1
          refine T.seq ?_
          refine T.region ?_
          refine T.look (.agg #[.int .i64 x2, .int .i64 x3, .int .i64 x4, .slice A1 x1.length c1, .int .i64 0]) (by kernel_rfl) (fun w' hh => exec_loadN (cs := [.int .i64 x2, .int .i64 x3, .int .i64 x4, .slice A1 x1.length c1, .int .i64 0]) rfl rfl (by kernel_rfl) (by kernel_rfl) (fun j u hj => (hh.box_at (i := 1) (cs := [.int .i64 x2, .int .i64 x3, .int .i64 x4, .slice A1 x1.length c1, .int .i64 0]) (by rfl) 0 j).trans (seg_at (n := 5) (by rfl) hj))) ?_
          refine T.step (W1.store 2 [.int .i64 x2, .int .i64 x3, .int .i64 x4, .slice A1 x1.length c1, .int .i64 0] [row 37 eElem A1 c1 x1, box b2 42 [.int .i64 x2, .int .i64 x3, .int .i64 x4, .slice A1 x1.length c1, .int .i64 0], box b1 42 [.int .i64 x2, .int .i64 x3, .int .i64 x4, .slice A1 x1.length c1, .int .i64 0]] (by rfl) rfl (by kernel_rfl) (fun w' hw => exec_store (vs := [.int .i64 x2, .int .i64 x3, .int .i64 x4, .slice A1 x1.length c1, .int .i64 0]) rfl rfl rfl rfl (by kernel_rfl) (one_of rfl) (by simp) rfl hw) ?_)
          refine T.nil ?_
          cases hX1
          try dsimp only at hY1
          cases hY1
          cases (hr1 _ rfl)
          try dsimp only at hF
          cases hF
          refine T.ret rfl ?_
          exact T.ret1 rfl (ResIs.cellN 2 rfl (by rfl) (fun _ => by kernel_rfl) (fun _ => by kernel_rfl)) fun w' hh => ⟨_, rfl, hh.below, (vAg.mk ⟨_, _, rfl, (hh.row_fresh (i := 0) (by rfl) (fun _ h => h))⟩)⟩
         ·
          rw [hc7, cond_false] at hX1
          refine T.skip_code ?_
          cases hX1
          exact fun a w' hf hh => Exists.intro x1 (Exists.intro x2 (Exists.intro x3 (Exists.intro x4 (Exists.intro false (And.intro rfl (Exists.intro A1 (Exists.intro c1 (Exists.intro V9 (And.intro hV9 (And.intro ((((((Fr.nil hf).pick hf 8 rfl).pick hf 4 rfl).pick hf 3 rfl).pick hf 2 rfl).pick hf 0 rfl) (hh.sub (.cons_cons _ (.cons_cons _ (.cons_cons _ List.Sublist.slnil))))))))))))))
       ·
        rw [hc5, cond_false] at hX1
        refine T.skip_code ?_
        cases hX1
        exact fun a w' hf hh => Exists.intro x1 (Exists.intro x2 (Exists.intro x3 (Exists.intro x4 (Exists.intro false (And.intro rfl (Exists.intro A1 (Exists.intro c1 (Exists.intro V2 (And.intro (View.le_refl _) (And.intro ((((((Fr.nil hf).pick hf 8 rfl).pick hf 4 rfl).pick hf 3 rfl).pick hf 2 rfl).pick hf 0 rfl) (hh.sub (.cons _ (.cons_cons _ (.cons_cons _ (.cons_cons _ List.Sublist.slnil)))))))))))))))
    ·
     rintro a w' ⟨z1, z2, z3, z4, z5, rfl, A2, c2, V3, hV3, hf, hh⟩
     try dsimp only at hY1
     refine (?_ : T 134 w V3 [row 37 eElem A2 c2 z1, box b2 42 [.int .i64 z2, .int .i64 z3, .int .i64 z4, .slice A2 z1.length c2, .int .i64 0], box b1 42 [.int .i64 0, .int .i64 0, .int .i64 0, .slice none 0 0, .int .i64 0]] [(0, .string s2), (2, .pointer (some ⟨b1, 0, none⟩)), (3, .pointer (some ⟨b2, 0, none⟩)), (4, .int .i64 x6), (8, .bool z5)] _) a w' hf hh
     clear hf hh
     refine T.seq ?_
     refine T.region ?_
     refine T.pure (.bool z5) (by kernel_rfl) (fun _ => by kernel_rfl) ?_
     refine T.pure (.bool (!z5)) (by kernel_rfl) (fun _ => by kernel_rfl) ?_
     refine T.nil ?_
     refine T.cond (!z5) (by kernel_rfl) (by kernel_rfl) (fun hc8 => ?_) (fun hc8 => ?_)
     ·
      rw [hc8, cond_true] at hY1
      refine T.seq ?_
      refine T.region ?_
      refine T.pure (.agg #[.int .i64 0, .int .i64 0, .int .i64 0, .slice none 0 0, .int .i64 3]) (by kernel_rfl) (fun _ => by kernel_rfl) ?_
      refine T.step (W1.store 2 [.int .i64 0, .int .i64 0, .int .i64 0, .slice none 0 0, .int .i64 3] [row 37 eElem A2 c2 z1, box b2 42 [.int .i64 z2, .int .i64 z3, .int .i64 z4, .slice A2 z1.length c2, .int .i64 0], box b1 42 [.int .i64 0, .int .i64 0, .int .i64 0, .slice none 0 0, .int .i64 3]] (by rfl) rfl (by kernel_rfl) (fun w' hw => exec_store (vs := [.int .i64 0, .int .i64 0, .int .i64 0, .slice none 0 0, .int .i64 3]) rfl rfl rfl rfl (by kernel_rfl) (one_of rfl) (by simp) rfl hw) ?_)
      refine T.nil ?_
      cases hY1
      cases (hr1 _ rfl)
      try dsimp only at hF
      cases hF
      refine T.ret rfl ?_
      exact T.ret1 rfl (ResIs.cellN 2 rfl (by rfl) (fun _ => by kernel_rfl) (fun _ => by kernel_rfl)) fun w' hh => ⟨_, rfl, hh.below, (vAg.mk ⟨_, _, rfl, (SlOk.nil _ _)⟩)⟩
     ·
      rw [hc8, cond_false] at hY1
      refine T.skip_code ?_
      refine T.region ?_
      refine T.pure (.int .i64 x6) (by kernel_rfl) (fun _ => by kernel_rfl) ?_
      refine T.pure (.int .i64 (IntKind.i64.wrap (x6 + 1))) (by kernel_rfl) (fun _ => by kernel_rfl) ?_
      refine T.pure (.int .i64 (IntKind.i64.wrap (x6 + 1))) (by kernel_rfl) (fun _ => by kernel_rfl) ?_
      refine T.nil ?_
      cases hY1
      exact fun a w' hf hh => Exists.intro (z1, z2, z3, z4, s2, IntKind.i64.wrap (x6 + 1)) (And.intro rfl (Exists.intro z1 (Exists.intro z2 (Exists.intro z3 (Exists.intro z4 (Exists.intro s2 (Exists.intro (IntKind.i64.wrap (x6 + 1)) (And.intro rfl (Exists.intro A2 (Exists.intro c2 (Exists.intro V3 (And.intro (View.le_trans (View.le_trans hV1 hV2) hV3) (And.intro (((((Fr.nil hf).pick hf 4 rfl).pick hf 3 rfl).pick hf 2 rfl).pick hf 0 rfl) (hh.sub (.cons_cons _ (.cons_cons _ (.cons_cons _ List.Sublist.slnil)))))))))))))))))
 ·
  exact fun a w' h => h.elim
end Go.Proofs.Ytdggcklddjndmaa
