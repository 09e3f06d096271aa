/- The Go functions of group Stream compute the pure functions of that group: written by walkgen.py. Condition of each: the pure function yields a result. -/
import Derived.Test.YtfbjmeehmanjnaaRunLJ
import Derived.Test.YtfbjmeehmanjnaaCodeLJ
import Derived.Test.YtfbjmeehmanjnaaSpoilJ
import Derived.Test.YtfbjmeehmanjnaaClearJ
import Derived.Test.YtfbjmeehmanjnaaStreamFJ
import Derived.Test.YtfbjmeehmanjnaaEqLJ
namespace Go.Proofs.Ytfbjmeehmanjnaa
set_option linter.unusedVariables false
set_option maxRecDepth 100000 in
set_option maxHeartbeats 4000000 in
theorem stream_look_l (p0 : Int) (p1 : Int) (p2 : Int) (r : Int) (hF : stream_look p0 p1 p2 = some r) (w : World)  :
 Calls Try.prog 48 #[.int .i64 p0, .int .i64 p1, .int .i64 p2] w (Post (vSc eInt) r w) := by
 unfold stream_look at hF
 refine T.start (l := [.int .i64 p0, .int .i64 p1, .int .i64 p2]) Try.func48 rfl rfl rfl ?_
 refine T.seq ?_
 refine T.region ?_
 refine T.pure (.int .i64 0) (by kernel_rfl) (fun _ => by kernel_rfl) ?_
 refine T.nil ?_
 refine T.seq ?_
 refine T.cut (fun a w' => Fr 24 [(1, .int .i64 p1), (2, .int .i64 p2), (12, .bool ((decide (p0 < 0)) || (decide ((15 : Int) < p0))))] a ∧ Hp w (vw w) [] w') ?_ ?_
 ·
  refine T.region ?_
  refine T.pure (.int .i64 p0) (by kernel_rfl) (fun _ => by kernel_rfl) ?_
  refine T.pure (.bool (decide (p0 < 0))) (by kernel_rfl) (fun _ => by kernel_rfl) ?_
  refine T.pure (.bool (decide (p0 < 0))) (by kernel_rfl) (fun _ => by kernel_rfl) ?_
  cases hg1 : decide (p0 < 0)
  ·
   skip
   refine T.pure (.int .i64 p0) (by kernel_rfl) (fun _ => by kernel_rfl) ?_
   refine T.pure (.bool (decide ((15 : Int) < p0))) (by kernel_rfl) (fun _ => by kernel_rfl) ?_
   refine T.pure (.bool (decide ((15 : Int) < p0))) (by kernel_rfl) (fun _ => by kernel_rfl) ?_
   refine T.nil ?_
   exact fun a w' hf hh => And.intro ((((Fr.nil hf).pick hf 12 rfl).pick hf 2 rfl).pick hf 1 rfl) (hh.sub List.Sublist.slnil)
  ·
   skip
   refine T.pass (by kernel_rfl) (by kernel_rfl) ?_
   refine T.pass (by kernel_rfl) (by kernel_rfl) ?_
   refine T.pure (.bool true) (by kernel_rfl) (fun _ => by kernel_rfl) ?_
   refine T.nil ?_
   exact fun a w' hf hh => And.intro ((((Fr.nil hf).pick hf 12 rfl).pick hf 2 rfl).pick hf 1 rfl) (hh.sub List.Sublist.slnil)
 ·
  rintro a w' ⟨hf, hh⟩
  refine (?_ : T 24 w (vw w) [] [(1, .int .i64 p1), (2, .int .i64 p2), (12, .bool ((decide (p0 < 0)) || (decide ((15 : Int) < p0))))] _) a w' hf hh
  clear hf hh
  refine T.cond ((decide (p0 < 0)) || (decide ((15 : Int) < p0))) (by kernel_rfl) (by kernel_rfl) (fun hc1 => ?_) (fun hc1 => ?_)
  ·
   rw [hc1, cond_true] at hF
   refine T.seq ?_
   refine T.region ?_
   refine T.pure (.int .i64 1) (by kernel_rfl) (fun _ => by kernel_rfl) ?_
   refine T.nil ?_
   cases hF
   refine T.ret rfl ?_
   exact T.ret1 rfl (ResIs.tmp rfl) fun w' hh => ⟨_, rfl, hh.below, (show _ from rfl)⟩
  ·
   rw [hc1, cond_false] at hF
   refine T.skip_code ?_
   refine T.seq ?_
   refine T.cut (fun a w' => Fr 24 [(23, .bool ((decide (p1 < 0)) || ((decide (p2 < p1)) || (decide ((2147483647 : Int) < p2)))))] a ∧ Hp w (vw w) [] w') ?_ ?_
   ·
    refine T.region ?_
    refine T.pure (.int .i64 p1) (by kernel_rfl) (fun _ => by kernel_rfl) ?_
    refine T.pure (.bool (decide (p1 < 0))) (by kernel_rfl) (fun _ => by kernel_rfl) ?_
    refine T.pure (.bool (decide (p1 < 0))) (by kernel_rfl) (fun _ => by kernel_rfl) ?_
    cases hg2 : decide (p1 < 0)
    ·
     skip
     refine T.pure (.int .i64 p1) (by kernel_rfl) (fun _ => by kernel_rfl) ?_
     refine T.pure (.int .i64 p2) (by kernel_rfl) (fun _ => by kernel_rfl) ?_
     refine T.pure (.bool (decide (p2 < p1))) (by kernel_rfl) (fun _ => by kernel_rfl) ?_
     refine T.pure (.bool (decide (p2 < p1))) (by kernel_rfl) (fun _ => by kernel_rfl) ?_
     refine T.pure (.bool (decide (p2 < p1))) (by kernel_rfl) (fun _ => by kernel_rfl) ?_
     cases hg3 : decide (p2 < p1)
     ·
      skip
      refine T.pure (.int .i64 p2) (by kernel_rfl) (fun _ => by kernel_rfl) ?_
      refine T.pure (.bool (decide ((2147483647 : Int) < p2))) (by kernel_rfl) (fun _ => by kernel_rfl) ?_
      refine T.pure (.bool (decide ((2147483647 : Int) < p2))) (by kernel_rfl) (fun _ => by kernel_rfl) ?_
      refine T.nil ?_
      exact fun a w' hf hh => And.intro ((Fr.nil hf).pick hf 23 rfl) (hh.sub List.Sublist.slnil)
     ·
      skip
      refine T.pass (by kernel_rfl) (by kernel_rfl) ?_
      refine T.pass (by kernel_rfl) (by kernel_rfl) ?_
      refine T.pure (.bool true) (by kernel_rfl) (fun _ => by kernel_rfl) ?_
      refine T.nil ?_
      exact fun a w' hf hh => And.intro ((Fr.nil hf).pick hf 23 rfl) (hh.sub List.Sublist.slnil)
    ·
     skip
     refine T.pass (by kernel_rfl) (by kernel_rfl) ?_
     refine T.pass (by kernel_rfl) (by kernel_rfl) ?_
     refine T.pass (by kernel_rfl) (by kernel_rfl) ?_
     refine T.pure (.bool true) (by kernel_rfl) (fun _ => by kernel_rfl) ?_
     refine T.pure (.bool true) (by kernel_rfl) (fun _ => by kernel_rfl) ?_
     refine T.pass (by kernel_rfl) (by kernel_rfl) ?_
     refine T.pass (by kernel_rfl) (by kernel_rfl) ?_
     refine T.pure (.bool true) (by kernel_rfl) (fun _ => by kernel_rfl) ?_
     refine T.nil ?_
     exact fun a w' hf hh => And.intro ((Fr.nil hf).pick hf 23 rfl) (hh.sub List.Sublist.slnil)
   ·
    rintro a w' ⟨hf, hh⟩
    refine (?_ : T 24 w (vw w) [] [(23, .bool ((decide (p1 < 0)) || ((decide (p2 < p1)) || (decide ((2147483647 : Int) < p2)))))] _) a w' hf hh
    clear hf hh
    refine T.cond ((decide (p1 < 0)) || ((decide (p2 < p1)) || (decide ((2147483647 : Int) < p2)))) (by kernel_rfl) (by kernel_rfl) (fun hc2 => ?_) (fun hc2 => ?_)
    ·
     rw [hc2, cond_true] at hF
     refine T.seq ?_
     refine T.region ?_
     refine T.pure (.int .i64 9) (by kernel_rfl) (fun _ => by kernel_rfl) ?_
     refine T.nil ?_
     cases hF
     refine T.ret rfl ?_
     exact T.ret1 rfl (ResIs.tmp rfl) fun w' hh => ⟨_, rfl, hh.below, (show _ from rfl)⟩
    ·
     rw [hc2, cond_false] at hF
     refine T.skip_code ?_
     refine T.seq ?_
     refine T.region ?_
     refine T.pure (.int .i64 0) (by kernel_rfl) (fun _ => by kernel_rfl) ?_
     refine T.nil ?_
     cases hF
     refine T.ret rfl ?_
     exact T.ret1 rfl (ResIs.tmp rfl) fun w' hh => ⟨_, rfl, hh.below, (show _ from rfl)⟩
set_option maxRecDepth 100000 in
set_option maxHeartbeats 4000000 in
theorem stream_fours_l (F : Nat) (p0 : (List Int)) (r : ByteArray) (hF : stream_fours F p0 = some r) (w : World) (A1 : Option Addr) (c1 : Nat) (hs1 : SlOk (vw w) eInt A1 c1 p0) :
 Calls Try.prog 37 #[.slice A1 p0.length c1] w (Post (vSc eStr) r w) := by
 unfold stream_fours at hF
 refine T.start (l := [.slice A1 p0.length c1]) Try.func37 rfl rfl rfl ?_
 refine T.seq ?_
 refine T.region ?_
 refine T.pure (.string (ByteArray.mk #[])) (by kernel_rfl) (fun _ => by kernel_rfl) ?_
 refine T.nil ?_
 refine T.seq ?_
 refine T.region ?_
 refine T.pure (.string (ByteArray.mk #[])) (by kernel_rfl) (fun _ => by kernel_rfl) ?_
 refine T.nil ?_
 refine T.seq ?_
 refine T.seq ?_
 refine T.region ?_
 refine T.pure (.slice A1 p0.length c1) (by kernel_rfl) (fun _ => by kernel_rfl) ?_
 refine T.pure (.int .i64 (p0.length : Int)) (by kernel_rfl) (fun _ => by kernel_rfl) ?_
 refine T.pure (.int .i64 0) (by kernel_rfl) (fun _ => by kernel_rfl) ?_
 refine T.nil ?_
 obtain ⟨z1, hz1, hF⟩ := Option.bind_eq_some_iff.1 hF
 refine T.mid (fun a w' => ∃ (V2 : View), View.le (vw w) V2 ∧ Fr 18 [(3, .string z1)] a ∧ Hp w V2 [] w') ?_ ?_
 ·
  refine T.block ?_
  refine T.iter (fun s1 a w' => ∃ (x1 : ByteArray) (x2 : Int), s1 = (x1, x2) ∧ ∃ (V1 : View), View.le (vw w) V1 ∧ Fr 18 [(3, .string x1), (6, .slice A1 p0.length c1), (7, .int .i64 (p0.length : Int)), (8, .int .i64 x2)] a ∧ Hp w V1 [] w') hz1 ?_ ?_
  ·
   exact fun a w' hf hh => Exists.intro (ByteArray.mk #[]) (Exists.intro 0 (And.intro rfl (Exists.intro (vw w) (And.intro (View.le_refl _) (And.intro (((((Fr.nil hf).pick hf 8 rfl).pick hf 7 rfl).pick hf 6 rfl).pick hf 3 rfl) (hh.sub List.Sublist.slnil))))))
  ·
   rintro s1 y1 hY1 hr1 a w' ⟨x1, x2, rfl, V1, hV1, hf, hh⟩
   refine (?_ : T 18 w V1 [] [(3, .string x1), (6, .slice A1 p0.length c1), (7, .int .i64 (p0.length : Int)), (8, .int .i64 x2)] _) a w' hf hh
   clear hf hh
   try dsimp only at hY1
   refine T.seq ?_
   refine T.region ?_
   refine T.pure (.bool (decide (x2 < (p0.length : Int)))) (by kernel_rfl) (fun _ => by kernel_rfl) ?_
   refine T.nil ?_
   refine T.seq ?_
   refine T.cond (decide (x2 < (p0.length : Int))) (by kernel_rfl) (by kernel_rfl) (fun hc1 => ?_) (fun hc1 => ?_)
   ·
    rw [hc1, cond_true] at hY1
    refine T.skip_code ?_
    refine T.seq ?_
    refine T.block ?_
    refine T.seq ?_
    refine T.region ?_
    obtain ⟨e1, hb1, hY1⟩ := Option.bind_eq_some_iff.1 hY1
    obtain ⟨hi1, hi2, hi3⟩ := idx_some hb1
    refine T.look (.pointer (some ((sadr A1).add (x2.toNat * 1)))) (by kernel_rfl) (fun w' hh => exec_indexAddr (e := 3) (s := 1) rfl rfl rfl (by kernel_rfl) (by kernel_rfl) hi1 hi2 ((SlOk.mono hs1 hV1).some_ hi3 (by decide))) ?_
    refine T.look (.int .i64 e1) (by kernel_rfl) (fun w' hh => exec_load1 rfl rfl (by kernel_rfl) (hh.cell_view (SlOk.cellF0 (E := eInt) (SlOk.mono hs1 hV1) hi3 (fun _ _ _ h => h) rfl))) ?_
    refine T.pure (.int .i64 e1) (by kernel_rfl) (fun _ => by kernel_rfl) ?_
    refine T.nil ?_
    refine T.region ?_
    refine T.pure (.string x1) (by kernel_rfl) (fun _ => by kernel_rfl) ?_
    refine T.pure (.int .i64 e1) (by kernel_rfl) (fun _ => by kernel_rfl) ?_
    obtain ⟨r1, hb2, hY1⟩ := Option.bind_eq_some_iff.1 hY1
    refine T.step (W1.call (vSc eStr) r1 49 #[.int .i64 e1, .int .i64 4] (by kernel_rfl) (fun _ => by kernel_rfl) (fun w' hh => big_Put_l F e1 4 r1 hb2 w' ) ?_)
    intro u V3 hV3 hu
    obtain rfl := sureStr _ _ _ hu
    obtain ⟨s2, hb3, hY1⟩ := Option.bind_eq_some_iff.1 hY1
    refine T.look (.string s2) (by kernel_rfl) (fun w' hh => exec_scat rfl rfl rfl hb3) ?_
    refine T.pure (.string s2) (by kernel_rfl) (fun _ => by kernel_rfl) ?_
    refine T.nil ?_
    refine T.region ?_
    refine T.pure (.int .i64 (IntKind.i64.wrap (x2 + 1))) (by kernel_rfl) (fun _ => by kernel_rfl) ?_
    refine T.pure (.int .i64 (IntKind.i64.wrap (x2 + 1))) (by kernel_rfl) (fun _ => by kernel_rfl) ?_
    refine T.nil ?_
    cases hY1
    exact fun a w' hf hh => Exists.intro (s2, IntKind.i64.wrap (x2 + 1)) (And.intro rfl (Exists.intro s2 (Exists.intro (IntKind.i64.wrap (x2 + 1)) (And.intro rfl (Exists.intro V3 (And.intro (View.le_trans hV1 hV3) (And.intro (((((Fr.nil hf).pick hf 8 rfl).pick hf 7 rfl).pick hf 6 rfl).pick hf 3 rfl) (hh.sub List.Sublist.slnil))))))))
   ·
    rw [hc1, cond_false] at hY1
    refine T.exit ?_
    cases hY1
    cases (hr1 _ rfl)
    exact fun a w' hf hh => Exists.intro V1 (And.intro hV1 (And.intro ((Fr.nil hf).pick hf 3 rfl) (hh.sub List.Sublist.slnil)))
 ·
  rintro a w' ⟨V2, hV2, hf, hh⟩
  refine (?_ : T 18 w V2 [] [(3, .string z1)] _) a w' hf hh
  clear hf hh
  refine T.seq ?_
  refine T.region ?_
  refine T.pure (.string z1) (by kernel_rfl) (fun _ => by kernel_rfl) ?_
  refine T.pure (.string z1) (by kernel_rfl) (fun _ => by kernel_rfl) ?_
  refine T.nil ?_
  cases hF
  refine T.ret rfl ?_
  exact T.ret1 rfl (ResIs.tmp rfl) fun w' hh => ⟨_, rfl, hh.below, (show _ from rfl)⟩
set_option maxRecDepth 100000 in
set_option maxHeartbeats 4000000 in
theorem stream_Parse_l (F : Nat) (p0 : ByteArray) (r : Dstream_Parsed × Int) (hF : stream_Parse F p0 = some r) (w : World)  :
 Calls Try.prog 25 #[.string p0] w (Post (vT2 (vAg estream_Parsed) (vSc eInt)) r w) := by
 unfold stream_Parse at hF
 refine T.start (l := [.string p0]) Try.func25 rfl rfl rfl ?_
 refine T.seq ?_
 refine T.region ?_
 refine T.step (W1.new 58 [.int .i64 0, .int .i64 0, .int .i64 0, .slice none 0 0] (fun b => .pointer (some ⟨b, 0, none⟩)) (by kernel_rfl) (fun _ => by kernel_rfl) (fun b1 => ?_))
 refine T.pure (.int .i64 0) (by kernel_rfl) (fun _ => by kernel_rfl) ?_
 refine T.nil ?_
 refine T.seq ?_
 refine T.region ?_
 refine T.pure (.string p0) (by kernel_rfl) (fun _ => by kernel_rfl) ?_
 obtain ⟨r1, hb1, hF⟩ := Option.bind_eq_some_iff.1 hF
 refine T.step (W1.call (vT3 (vAg eFrame) (vSc eInt) (vSc eInt)) r1 35 #[.string p0] (by kernel_rfl) (fun _ => by kernel_rfl) (fun w' hh => frame_Get_l F p0 r1 hb1 w' ) ?_)
 intro u V1 hV1 hu
 obtain rfl := (Sure.t3 sureFrame sureInt sureInt) _ _ _ hu
 refine T.pure (.tuple #[.agg #[.int .i64 r1.1.kind, .string r1.1.body], .int .i64 r1.2.1, .int .i64 r1.2.2]) (by kernel_rfl) (fun _ => by kernel_rfl) ?_
 refine T.pure (.agg #[.int .i64 r1.1.kind, .string r1.1.body]) (by kernel_rfl) (fun _ => by kernel_rfl) ?_
 refine T.pure (.int .i64 r1.2.1) (by kernel_rfl) (fun _ => by kernel_rfl) ?_
 refine T.pure (.int .i64 r1.2.2) (by kernel_rfl) (fun _ => by kernel_rfl) ?_
 refine T.step (W1.new 74 [.int .i64 0, .string (ByteArray.mk #[])] (fun b => .pointer (some ⟨b, 0, none⟩)) (by kernel_rfl) (fun _ => by kernel_rfl) (fun b2 => ?_))
 refine T.step (W1.store 0 [.int .i64 r1.1.kind, .string r1.1.body] [box b2 74 [.int .i64 r1.1.kind, .string r1.1.body], box b1 58 [.int .i64 0, .int .i64 0, .int .i64 0, .slice none 0 0]] (by rfl) rfl (by kernel_rfl) (fun w' hw => exec_store (vs := [.int .i64 r1.1.kind, .string r1.1.body]) rfl rfl rfl rfl (by kernel_rfl) (one_of rfl) (by simp) rfl hw) ?_)
 refine T.pure (.int .i64 r1.2.1) (by kernel_rfl) (fun _ => by kernel_rfl) ?_
 refine T.pure (.int .i64 r1.2.2) (by kernel_rfl) (fun _ => by kernel_rfl) ?_
 refine T.nil ?_
 refine T.seq ?_
 refine T.seq ?_
 refine T.region ?_
 refine T.pure (.int .i64 r1.2.2) (by kernel_rfl) (fun _ => by kernel_rfl) ?_
 refine T.pure (.bool (r1.2.2 != 0)) (by kernel_rfl) (fun _ => by kernel_rfl) ?_
 refine T.nil ?_
 refine T.cond (r1.2.2 != 0) (by kernel_rfl) (by kernel_rfl) (fun hc1 => ?_) (fun hc1 => ?_)
 ·
  rw [hc1, cond_true] at hF
  refine T.seq ?_
  refine T.region ?_
  refine T.pure (.agg #[.int .i64 0, .int .i64 0, .int .i64 0, .slice none 0 0]) (by kernel_rfl) (fun _ => by kernel_rfl) ?_
  refine T.pure (.int .i64 r1.2.2) (by kernel_rfl) (fun _ => by kernel_rfl) ?_
  refine T.step (W1.store 1 [.int .i64 0, .int .i64 0, .int .i64 0, .slice none 0 0] [box b2 74 [.int .i64 r1.1.kind, .string r1.1.body], box b1 58 [.int .i64 0, .int .i64 0, .int .i64 0, .slice none 0 0]] (by rfl) rfl (by kernel_rfl) (fun w' hw => exec_store (vs := [.int .i64 0, .int .i64 0, .int .i64 0, .slice none 0 0]) rfl rfl rfl rfl (by kernel_rfl) (one_of rfl) (by simp) rfl hw) ?_)
  refine T.pure (.int .i64 r1.2.2) (by kernel_rfl) (fun _ => by kernel_rfl) ?_
  refine T.nil ?_
  cases hF
  refine T.ret rfl ?_
  exact T.ret2 rfl (ResIs.cellN 1 rfl (by rfl) (fun _ => by kernel_rfl) (fun _ => by kernel_rfl)) (ResIs.tmp rfl) fun w' hh => ⟨_, rfl, hh.below, (vT2.mk (vAg.mk ⟨_, _, rfl, (SlOk.nil _ _)⟩) (show _ from rfl))⟩
 ·
  rw [hc1, cond_false] at hF
  refine T.skip_code ?_
  refine T.seq ?_
  refine T.region ?_
  refine T.look (.agg #[.int .i64 r1.1.kind, .string r1.1.body]) (by kernel_rfl) (fun w' hh => exec_loadN (cs := [.int .i64 r1.1.kind, .string r1.1.body]) rfl rfl (by kernel_rfl) (by kernel_rfl) (fun j u hj => (hh.box_at (i := 0) (cs := [.int .i64 r1.1.kind, .string r1.1.body]) (by rfl) 0 j).trans (seg_at (n := 2) (by rfl) hj))) ?_
  obtain ⟨q1, hX1, hF⟩ := Option.bind_eq_some_iff.1 hF
  refine T.step (W1.within 36 [.agg #[.int .i64 r1.1.kind, .string r1.1.body]] (fun v w' => ∃ (z1 : Int) (z2 : Int) (z3 : Int) (z4 : Bool), q1 = (z1, z2, z3, z4) ∧ ∃ (V2 : View), View.le V1 V2 ∧ v = .tuple #[.agg #[.int .i64 z1, .int .i64 z2, .int .i64 z3, .slice none 0 0], .bool z4] ∧ Hp w V2 [box b2 74 [.int .i64 r1.1.kind, .string r1.1.body], box b1 58 [.int .i64 0, .int .i64 0, .int .i64 0, .slice none 0 0]] w') Try.func36 rfl rfl (by kernel_rfl) (fun _ => by kernel_rfl) rfl ?_ ?_)
  ·
   refine T.seq ?_
   refine T.region ?_
   refine T.step (W1.new 74 [.int .i64 r1.1.kind, .string r1.1.body] (fun b => .pointer (some ⟨b, 0, none⟩)) (by kernel_rfl) (fun _ => by kernel_rfl) (fun b3 => ?_))
   refine T.step (W1.new 58 [.int .i64 0, .int .i64 0, .int .i64 0, .slice none 0 0] (fun b => .pointer (some ⟨b, 0, none⟩)) (by kernel_rfl) (fun _ => by kernel_rfl) (fun b4 => ?_))
   refine T.pure (.bool false) (by kernel_rfl) (fun _ => by kernel_rfl) ?_
   refine T.nil ?_
   refine T.seq ?_
   refine T.cut (fun a w' => Fr 33 [(1, .pointer (some ⟨b3, 0, none⟩)), (2, .pointer (some ⟨b4, 0, none⟩)), (14, .bool ((r1.1.kind != 1) || ((r1.1.body.size : Int) != 12)))] a ∧ Hp w V1 [box b4 58 [.int .i64 0, .int .i64 0, .int .i64 0, .slice none 0 0], box b3 74 [.int .i64 r1.1.kind, .string r1.1.body], box b2 74 [.int .i64 r1.1.kind, .string r1.1.body], box b1 58 [.int .i64 0, .int .i64 0, .int .i64 0, .slice none 0 0]] w') ?_ ?_
   ·
    refine T.region ?_
    refine T.pure (.pointer (some ⟨b3, 0, none⟩)) (by kernel_rfl) (fun _ => by kernel_rfl) ?_
    refine T.look (.int .i64 r1.1.kind) (by kernel_rfl) (fun w' hh => exec_load1 rfl rfl (by kernel_rfl) (hh.cellBox (i := 1) (by rfl) 0)) ?_
    refine T.pure (.bool (r1.1.kind != 1)) (by kernel_rfl) (fun _ => by kernel_rfl) ?_
    refine T.pure (.bool (r1.1.kind != 1)) (by kernel_rfl) (fun _ => by kernel_rfl) ?_
    cases hg1 : (r1.1.kind != 1)
    ·
     skip
     refine T.pure (.pointer (some ⟨b3, 1, none⟩)) (by kernel_rfl) (fun _ => by kernel_rfl) ?_
     refine T.look (.string r1.1.body) (by kernel_rfl) (fun w' hh => exec_load1 rfl rfl (by kernel_rfl) (hh.cellBox (i := 1) (by rfl) 1)) ?_
     refine T.pure (.int .i64 (r1.1.body.size : Int)) (by kernel_rfl) (fun _ => by kernel_rfl) ?_
     refine T.pure (.bool ((r1.1.body.size : Int) != 12)) (by kernel_rfl) (fun _ => by kernel_rfl) ?_
     refine T.pure (.bool ((r1.1.body.size : Int) != 12)) (by kernel_rfl) (fun _ => by kernel_rfl) ?_
     refine T.nil ?_
     exact fun a w' hf hh => And.intro ((((Fr.nil hf).pick hf 14 rfl).pick hf 2 rfl).pick hf 1 rfl) (hh.sub (.cons_cons _ (.cons_cons _ (.cons_cons _ (.cons_cons _ List.Sublist.slnil)))))
    ·
     skip
     refine T.pass (by kernel_rfl) (by kernel_rfl) ?_
     refine T.pass (by kernel_rfl) (by kernel_rfl) ?_
     refine T.pass (by kernel_rfl) (by kernel_rfl) ?_
     refine T.pass (by kernel_rfl) (by kernel_rfl) ?_
     refine T.pure (.bool true) (by kernel_rfl) (fun _ => by kernel_rfl) ?_
     refine T.nil ?_
     exact fun a w' hf hh => And.intro ((((Fr.nil hf).pick hf 14 rfl).pick hf 2 rfl).pick hf 1 rfl) (hh.sub (.cons_cons _ (.cons_cons _ (.cons_cons _ (.cons_cons _ List.Sublist.slnil)))))
   ·
    rintro a w' ⟨hf, hh⟩
    refine (?_ : T 33 w V1 [box b4 58 [.int .i64 0, .int .i64 0, .int .i64 0, .slice none 0 0], box b3 74 [.int .i64 r1.1.kind, .string r1.1.body], box b2 74 [.int .i64 r1.1.kind, .string r1.1.body], box b1 58 [.int .i64 0, .int .i64 0, .int .i64 0, .slice none 0 0]] [(1, .pointer (some ⟨b3, 0, none⟩)), (2, .pointer (some ⟨b4, 0, none⟩)), (14, .bool ((r1.1.kind != 1) || ((r1.1.body.size : Int) != 12)))] _) a w' hf hh
    clear hf hh
    refine T.cond ((r1.1.kind != 1) || ((r1.1.body.size : Int) != 12)) (by kernel_rfl) (by kernel_rfl) (fun hc2 => ?_) (fun hc2 => ?_)
    ·
     rw [hc2, cond_true] at hX1
     refine T.seq ?_
     refine T.region ?_
     refine T.pure (.agg #[.int .i64 0, .int .i64 0, .int .i64 0, .slice none 0 0]) (by kernel_rfl) (fun _ => by kernel_rfl) ?_
     refine T.step (W1.store 0 [.int .i64 0, .int .i64 0, .int .i64 0, .slice none 0 0] [box b4 58 [.int .i64 0, .int .i64 0, .int .i64 0, .slice none 0 0], box b3 74 [.int .i64 r1.1.kind, .string r1.1.body], box b2 74 [.int .i64 r1.1.kind, .string r1.1.body], box b1 58 [.int .i64 0, .int .i64 0, .int .i64 0, .slice none 0 0]] (by rfl) rfl (by kernel_rfl) (fun w' hw => exec_store (vs := [.int .i64 0, .int .i64 0, .int .i64 0, .slice none 0 0]) rfl rfl rfl rfl (by kernel_rfl) (one_of rfl) (by simp) rfl hw) ?_)
     refine T.pure (.bool false) (by kernel_rfl) (fun _ => by kernel_rfl) ?_
     refine T.nil ?_
     cases hX1
     refine T.ret rfl ?_
     repeat first | refine T.unthen ?_ | refine T.unblock ?_
     exact T.ret2 rfl (ResIs.cellN 0 rfl (by rfl) (fun _ => by kernel_rfl) (fun _ => by kernel_rfl)) (ResIs.tmp rfl) fun w' hh => ⟨_, rfl, Exists.intro 0 (Exists.intro 0 (Exists.intro 0 (Exists.intro false (And.intro rfl (Exists.intro V1 (And.intro (View.le_refl _) (And.intro rfl (hh.sub (.cons _ (.cons _ (.cons_cons _ (.cons_cons _ List.Sublist.slnil))))))))))))⟩
    ·
     rw [hc2, cond_false] at hX1
     refine T.skip_code ?_
     refine T.seq ?_
     refine T.region ?_
     refine T.pure (.func (.func 46) #[] #[.pointer (some ⟨b3, 0, none⟩)]) (by kernel_rfl) (fun _ => by kernel_rfl) ?_
     refine T.pure (.func (.func 46) #[] #[.pointer (some ⟨b3, 0, none⟩)]) (by kernel_rfl) (fun _ => by kernel_rfl) ?_
     refine T.nil ?_
     refine T.seq ?_
     refine T.region ?_
     refine T.pure (.func (.func 46) #[] #[.pointer (some ⟨b3, 0, none⟩)]) (by kernel_rfl) (fun _ => by kernel_rfl) ?_
     obtain ⟨z5, hX2, hX1⟩ := Option.bind_eq_some_iff.1 hX1
     refine T.step (W1.within 46 [.int .i64 0, .pointer (some ⟨b3, 0, none⟩)] (fun v w' => ∃ (V3 : View), View.le V1 V3 ∧ v = .int .i64 z5 ∧ Hp w V3 [box b4 58 [.int .i64 0, .int .i64 0, .int .i64 0, .slice none 0 0], box b3 74 [.int .i64 r1.1.kind, .string r1.1.body], box b2 74 [.int .i64 r1.1.kind, .string r1.1.body], box b1 58 [.int .i64 0, .int .i64 0, .int .i64 0, .slice none 0 0]] w') Try.func46 rfl rfl (by kernel_rfl) (fun _ => by kernel_rfl) rfl ?_ ?_)
     ·
      refine T.seq ?_
      refine T.region ?_
      refine T.pure (.int .i64 0) (by kernel_rfl) (fun _ => by kernel_rfl) ?_
      refine T.nil ?_
      refine T.seq ?_
      refine T.region ?_
      refine T.pure (.pointer (some ⟨b3, 1, none⟩)) (by kernel_rfl) (fun _ => by kernel_rfl) ?_
      refine T.look (.string r1.1.body) (by kernel_rfl) (fun w' hh => exec_load1 rfl rfl (by kernel_rfl) (hh.cellBox (i := 1) (by rfl) 1)) ?_
      refine T.pure (.int .i64 0) (by kernel_rfl) (fun _ => by kernel_rfl) ?_
      refine T.pure (.int .i64 0) (by kernel_rfl) (fun _ => by kernel_rfl) ?_
      refine T.pure (.int .i64 4) (by kernel_rfl) (fun _ => by kernel_rfl) ?_
      obtain ⟨s1, hb2, hX2⟩ := Option.bind_eq_some_iff.1 hX2
      refine T.look (.string s1) (by kernel_rfl) (fun w' hh => exec_slice_str rfl rfl rfl rfl (by kernel_rfl) hb2) ?_
      obtain ⟨r2, hb3, hX2⟩ := Option.bind_eq_some_iff.1 hX2
      refine T.step (W1.call (vSc eInt) r2 47 #[.string s1] (by kernel_rfl) (fun _ => by kernel_rfl) (fun w' hh => big_Get_l F s1 r2 hb3 w' ) ?_)
      intro u V4 hV4 hu
      obtain rfl := sureInt _ _ _ hu
      refine T.pure (.int .i64 r2) (by kernel_rfl) (fun _ => by kernel_rfl) ?_
      refine T.nil ?_
      cases hX2
      refine T.ret rfl ?_
      exact T.ret1 rfl (ResIs.tmp rfl) fun w' hh => ⟨_, rfl, Exists.intro V4 (And.intro hV4 (And.intro rfl (hh.sub (.cons_cons _ (.cons_cons _ (.cons_cons _ (.cons_cons _ List.Sublist.slnil)))))))⟩
     ·
      rintro v w' ⟨V3, hV3, rfl, hh⟩
      refine ⟨V3, [box b4 58 [.int .i64 0, .int .i64 0, .int .i64 0, .slice none 0 0], box b3 74 [.int .i64 r1.1.kind, .string r1.1.body], box b2 74 [.int .i64 r1.1.kind, .string r1.1.body], box b1 58 [.int .i64 0, .int .i64 0, .int .i64 0, .slice none 0 0]], hh, ?_⟩
      clear hh
      refine T.pure (.func (.func 46) #[] #[.pointer (some ⟨b3, 0, none⟩)]) (by kernel_rfl) (fun _ => by kernel_rfl) ?_
      obtain ⟨z6, hX3, hX1⟩ := Option.bind_eq_some_iff.1 hX1
      refine T.step (W1.within 46 [.int .i64 4, .pointer (some ⟨b3, 0, none⟩)] (fun v w' => ∃ (V5 : View), View.le V3 V5 ∧ v = .int .i64 z6 ∧ Hp w V5 [box b4 58 [.int .i64 0, .int .i64 0, .int .i64 0, .slice none 0 0], box b3 74 [.int .i64 r1.1.kind, .string r1.1.body], box b2 74 [.int .i64 r1.1.kind, .string r1.1.body], box b1 58 [.int .i64 0, .int .i64 0, .int .i64 0, .slice none 0 0]] w') Try.func46 rfl rfl (by kernel_rfl) (fun _ => by kernel_rfl) rfl ?_ ?_)
      ·
       refine T.seq ?_
       refine T.region ?_
       refine T.pure (.int .i64 0) (by kernel_rfl) (fun _ => by kernel_rfl) ?_
       refine T.nil ?_
       refine T.seq ?_
       refine T.region ?_
       refine T.pure (.pointer (some ⟨b3, 1, none⟩)) (by kernel_rfl) (fun _ => by kernel_rfl) ?_
       refine T.look (.string r1.1.body) (by kernel_rfl) (fun w' hh => exec_load1 rfl rfl (by kernel_rfl) (hh.cellBox (i := 1) (by rfl) 1)) ?_
       refine T.pure (.int .i64 4) (by kernel_rfl) (fun _ => by kernel_rfl) ?_
       refine T.pure (.int .i64 4) (by kernel_rfl) (fun _ => by kernel_rfl) ?_
       refine T.pure (.int .i64 8) (by kernel_rfl) (fun _ => by kernel_rfl) ?_
       obtain ⟨s2, hb4, hX3⟩ := Option.bind_eq_some_iff.1 hX3
       refine T.look (.string s2) (by kernel_rfl) (fun w' hh => exec_slice_str rfl rfl rfl rfl (by kernel_rfl) hb4) ?_
       obtain ⟨r3, hb5, hX3⟩ := Option.bind_eq_some_iff.1 hX3
       refine T.step (W1.call (vSc eInt) r3 47 #[.string s2] (by kernel_rfl) (fun _ => by kernel_rfl) (fun w' hh => big_Get_l F s2 r3 hb5 w' ) ?_)
       intro u V6 hV6 hu
       obtain rfl := sureInt _ _ _ hu
       refine T.pure (.int .i64 r3) (by kernel_rfl) (fun _ => by kernel_rfl) ?_
       refine T.nil ?_
       cases hX3
       refine T.ret rfl ?_
       exact T.ret1 rfl (ResIs.tmp rfl) fun w' hh => ⟨_, rfl, Exists.intro V6 (And.intro hV6 (And.intro rfl (hh.sub (.cons_cons _ (.cons_cons _ (.cons_cons _ (.cons_cons _ List.Sublist.slnil)))))))⟩
      ·
       rintro v w' ⟨V5, hV5, rfl, hh⟩
       refine ⟨V5, [box b4 58 [.int .i64 0, .int .i64 0, .int .i64 0, .slice none 0 0], box b3 74 [.int .i64 r1.1.kind, .string r1.1.body], box b2 74 [.int .i64 r1.1.kind, .string r1.1.body], box b1 58 [.int .i64 0, .int .i64 0, .int .i64 0, .slice none 0 0]], hh, ?_⟩
       clear hh
       refine T.pure (.func (.func 46) #[] #[.pointer (some ⟨b3, 0, none⟩)]) (by kernel_rfl) (fun _ => by kernel_rfl) ?_
       obtain ⟨z7, hX4, hX1⟩ := Option.bind_eq_some_iff.1 hX1
       refine T.step (W1.within 46 [.int .i64 8, .pointer (some ⟨b3, 0, none⟩)] (fun v w' => ∃ (V7 : View), View.le V5 V7 ∧ v = .int .i64 z7 ∧ Hp w V7 [box b4 58 [.int .i64 0, .int .i64 0, .int .i64 0, .slice none 0 0], box b3 74 [.int .i64 r1.1.kind, .string r1.1.body], box b2 74 [.int .i64 r1.1.kind, .string r1.1.body], box b1 58 [.int .i64 0, .int .i64 0, .int .i64 0, .slice none 0 0]] w') Try.func46 rfl rfl (by kernel_rfl) (fun _ => by kernel_rfl) rfl ?_ ?_)
       ·
        refine T.seq ?_
        refine T.region ?_
        refine T.pure (.int .i64 0) (by kernel_rfl) (fun _ => by kernel_rfl) ?_
        refine T.nil ?_
        refine T.seq ?_
        refine T.region ?_
        refine T.pure (.pointer (some ⟨b3, 1, none⟩)) (by kernel_rfl) (fun _ => by kernel_rfl) ?_
        refine T.look (.string r1.1.body) (by kernel_rfl) (fun w' hh => exec_load1 rfl rfl (by kernel_rfl) (hh.cellBox (i := 1) (by rfl) 1)) ?_
        refine T.pure (.int .i64 8) (by kernel_rfl) (fun _ => by kernel_rfl) ?_
        refine T.pure (.int .i64 8) (by kernel_rfl) (fun _ => by kernel_rfl) ?_
        refine T.pure (.int .i64 12) (by kernel_rfl) (fun _ => by kernel_rfl) ?_
        obtain ⟨s3, hb6, hX4⟩ := Option.bind_eq_some_iff.1 hX4
        refine T.look (.string s3) (by kernel_rfl) (fun w' hh => exec_slice_str rfl rfl rfl rfl (by kernel_rfl) hb6) ?_
        obtain ⟨r4, hb7, hX4⟩ := Option.bind_eq_some_iff.1 hX4
        refine T.step (W1.call (vSc eInt) r4 47 #[.string s3] (by kernel_rfl) (fun _ => by kernel_rfl) (fun w' hh => big_Get_l F s3 r4 hb7 w' ) ?_)
        intro u V8 hV8 hu
        obtain rfl := sureInt _ _ _ hu
        refine T.pure (.int .i64 r4) (by kernel_rfl) (fun _ => by kernel_rfl) ?_
        refine T.nil ?_
        cases hX4
        refine T.ret rfl ?_
        exact T.ret1 rfl (ResIs.tmp rfl) fun w' hh => ⟨_, rfl, Exists.intro V8 (And.intro hV8 (And.intro rfl (hh.sub (.cons_cons _ (.cons_cons _ (.cons_cons _ (.cons_cons _ List.Sublist.slnil)))))))⟩
       ·
        rintro v w' ⟨V7, hV7, rfl, hh⟩
        refine ⟨V7, [box b4 58 [.int .i64 0, .int .i64 0, .int .i64 0, .slice none 0 0], box b3 74 [.int .i64 r1.1.kind, .string r1.1.body], box b2 74 [.int .i64 r1.1.kind, .string r1.1.body], box b1 58 [.int .i64 0, .int .i64 0, .int .i64 0, .slice none 0 0]], hh, ?_⟩
        clear hh
        refine T.pure (.agg #[.int .i64 z5, .int .i64 z6, .int .i64 z7, .slice none 0 0]) (by kernel_rfl) (fun _ => by kernel_rfl) ?_
        refine T.step (W1.new 58 [.int .i64 0, .int .i64 0, .int .i64 0, .slice none 0 0] (fun b => .pointer (some ⟨b, 0, none⟩)) (by kernel_rfl) (fun _ => by kernel_rfl) (fun b5 => ?_))
        refine T.step (W1.store 0 [.int .i64 z5, .int .i64 z6, .int .i64 z7, .slice none 0 0] [box b5 58 [.int .i64 z5, .int .i64 z6, .int .i64 z7, .slice none 0 0], box b4 58 [.int .i64 0, .int .i64 0, .int .i64 0, .slice none 0 0], box b3 74 [.int .i64 r1.1.kind, .string r1.1.body], box b2 74 [.int .i64 r1.1.kind, .string r1.1.body], box b1 58 [.int .i64 0, .int .i64 0, .int .i64 0, .slice none 0 0]] (by rfl) rfl (by kernel_rfl) (fun w' hw => exec_store (vs := [.int .i64 z5, .int .i64 z6, .int .i64 z7, .slice none 0 0]) rfl rfl rfl rfl (by kernel_rfl) (one_of rfl) (by simp) rfl hw) ?_)
        refine T.nil ?_
        refine T.seq ?_
        refine T.held [box b5 58 [.int .i64 z5, .int .i64 z6, .int .i64 z7, .slice none 0 0], box b3 74 [.int .i64 r1.1.kind, .string r1.1.body], box b2 74 [.int .i64 r1.1.kind, .string r1.1.body], box b1 58 [.int .i64 0, .int .i64 0, .int .i64 0, .slice none 0 0]] (by kernel_rfl) ?_
        refine TA.take 0 (.agg #[.int .i64 z5, .int .i64 z6, .int .i64 z7, .slice none 0 0]) rfl (by kernel_rfl) (by kernel_rfl) (by kernel_rfl) (fun _ _ _ h => h) (Hp.old (View.le_refl _) (View.le_trans (View.le_trans (View.le_trans hV1 hV3) hV5) hV7) (.cons_cons _ (.cons _ (.cons_cons _ (.cons_cons _ (.cons_cons _ List.Sublist.slnil))))) (OldAll.box (OldAll.box (OldAll.box (OldAll.box OldAll.nil))))) (by kernel_rfl) (fun w' hh => exec_loadN (cs := [.int .i64 z5, .int .i64 z6, .int .i64 z7, .slice none 0 0]) rfl rfl (by kernel_rfl) (by kernel_rfl) (fun j u hj => (hh.box_at (i := 0) (cs := [.int .i64 z5, .int .i64 z6, .int .i64 z7, .slice none 0 0]) (by rfl) 0 j).trans (seg_at (n := 4) (by rfl) hj))) ?_
        refine TA.take 1 (.pointer (some ⟨b5, 0, none⟩)) rfl (by kernel_rfl) (by kernel_rfl) (by kernel_rfl) (fun _ _ _ h => h) (Hp.old (View.le_refl _) (View.le_trans (View.le_trans (View.le_trans hV1 hV3) hV5) hV7) (.cons_cons _ (.cons _ (.cons_cons _ (.cons_cons _ (.cons_cons _ List.Sublist.slnil))))) (OldAll.box (OldAll.box (OldAll.box (OldAll.box OldAll.nil))))) (by kernel_rfl) (fun _ _ => by kernel_rfl) ?_
        refine TA.take 2 (.int .i64 z5) rfl (by kernel_rfl) (by kernel_rfl) (by kernel_rfl) (fun _ _ _ h => h) (Hp.old (View.le_refl _) (View.le_trans (View.le_trans (View.le_trans hV1 hV3) hV5) hV7) (.cons_cons _ (.cons _ (.cons_cons _ (.cons_cons _ (.cons_cons _ List.Sublist.slnil))))) (OldAll.box (OldAll.box (OldAll.box (OldAll.box OldAll.nil))))) (by kernel_rfl) (fun w' hh => exec_load1 rfl rfl (by kernel_rfl) (hh.cellBox (i := 0) (by rfl) 0)) ?_
        refine TA.take 3 (.pointer (some ⟨b5, 1, none⟩)) rfl (by kernel_rfl) (by kernel_rfl) (by kernel_rfl) (fun _ _ _ h => h) (Hp.old (View.le_refl _) (View.le_trans (View.le_trans (View.le_trans hV1 hV3) hV5) hV7) (.cons_cons _ (.cons _ (.cons_cons _ (.cons_cons _ (.cons_cons _ List.Sublist.slnil))))) (OldAll.box (OldAll.box (OldAll.box (OldAll.box OldAll.nil))))) (by kernel_rfl) (fun _ _ => by kernel_rfl) ?_
        refine TA.take 4 (.int .i64 z6) rfl (by kernel_rfl) (by kernel_rfl) (by kernel_rfl) (fun _ _ _ h => h) (Hp.old (View.le_refl _) (View.le_trans (View.le_trans (View.le_trans hV1 hV3) hV5) hV7) (.cons_cons _ (.cons _ (.cons_cons _ (.cons_cons _ (.cons_cons _ List.Sublist.slnil))))) (OldAll.box (OldAll.box (OldAll.box (OldAll.box OldAll.nil))))) (by kernel_rfl) (fun w' hh => exec_load1 rfl rfl (by kernel_rfl) (hh.cellBox (i := 0) (by rfl) 1)) ?_
        refine TA.take 5 (.pointer (some ⟨b5, 2, none⟩)) rfl (by kernel_rfl) (by kernel_rfl) (by kernel_rfl) (fun _ _ _ h => h) (Hp.old (View.le_refl _) (View.le_trans (View.le_trans (View.le_trans hV1 hV3) hV5) hV7) (.cons_cons _ (.cons _ (.cons_cons _ (.cons_cons _ (.cons_cons _ List.Sublist.slnil))))) (OldAll.box (OldAll.box (OldAll.box (OldAll.box OldAll.nil))))) (by kernel_rfl) (fun _ _ => by kernel_rfl) ?_
        refine TA.take 6 (.int .i64 z7) rfl (by kernel_rfl) (by kernel_rfl) (by kernel_rfl) (fun _ _ _ h => h) (Hp.old (View.le_refl _) (View.le_trans (View.le_trans (View.le_trans hV1 hV3) hV5) hV7) (.cons_cons _ (.cons _ (.cons_cons _ (.cons_cons _ (.cons_cons _ List.Sublist.slnil))))) (OldAll.box (OldAll.box (OldAll.box (OldAll.box OldAll.nil))))) (by kernel_rfl) (fun w' hh => exec_load1 rfl rfl (by kernel_rfl) (hh.cellBox (i := 0) (by rfl) 2)) ?_
        refine TA.all [7] (by kernel_rfl) rfl ⟨?_, trivial⟩
        obtain ⟨r5, hb8, hX1⟩ := Option.bind_eq_some_iff.1 hX1
        refine TA.br rfl (W1.call (vSc eInt) r5 48 #[.int .i64 z5, .int .i64 z6, .int .i64 z7] (by kernel_rfl) (fun _ => by kernel_rfl) (fun w' hh => stream_look_l z5 z6 z7 r5 hb8 w' ) ?_)
        intro u V9 hV9 hu
        obtain rfl := sureInt _ _ _ hu
        refine TA.on (Hp.old hV9 (View.le_trans (View.le_trans (View.le_trans hV1 hV3) hV5) hV7) (.cons_cons _ (.cons _ (.cons_cons _ (.cons_cons _ (.cons_cons _ List.Sublist.slnil))))) (OldAll.box (OldAll.box (OldAll.box (OldAll.box OldAll.nil))))) ?_
        refine TA.take 8 (.bool (r5 == 0)) rfl (by kernel_rfl) (by kernel_rfl) (by kernel_rfl) (fun _ _ _ h => h) (Hp.old hV9 (View.le_trans (View.le_trans (View.le_trans hV1 hV3) hV5) hV7) (.cons_cons _ (.cons _ (.cons_cons _ (.cons_cons _ (.cons_cons _ List.Sublist.slnil))))) (OldAll.box (OldAll.box (OldAll.box (OldAll.box OldAll.nil))))) (by kernel_rfl) (fun _ _ => by kernel_rfl) ?_
        refine TA.all [9] (by kernel_rfl) rfl ⟨?_, trivial⟩
        refine TA.br rfl (W1.store 1 [.int .i64 z5, .int .i64 z6, .int .i64 z7, .slice none 0 0] [box b5 58 [.int .i64 z5, .int .i64 z6, .int .i64 z7, .slice none 0 0], box b4 58 [.int .i64 z5, .int .i64 z6, .int .i64 z7, .slice none 0 0], box b3 74 [.int .i64 r1.1.kind, .string r1.1.body], box b2 74 [.int .i64 r1.1.kind, .string r1.1.body], box b1 58 [.int .i64 0, .int .i64 0, .int .i64 0, .slice none 0 0]] (by rfl) rfl (by kernel_rfl) (fun w' hw => exec_store (vs := [.int .i64 z5, .int .i64 z6, .int .i64 z7, .slice none 0 0]) rfl rfl rfl rfl (by kernel_rfl) (one_of rfl) (by simp) rfl hw) ?_)
        refine TA.on (Hp.old hV9 (View.le_trans (View.le_trans (View.le_trans hV1 hV3) hV5) hV7) (.cons_cons _ (.cons _ (.cons_cons _ (.cons_cons _ (.cons_cons _ List.Sublist.slnil))))) (OldAll.box (OldAll.box (OldAll.box (OldAll.box OldAll.nil))))) ?_
        refine TA.take 10 (.bool (r5 == 0)) rfl (by kernel_rfl) (by kernel_rfl) (by kernel_rfl) (fun _ _ _ h => h) (Hp.old hV9 (View.le_trans (View.le_trans (View.le_trans hV1 hV3) hV5) hV7) (.cons_cons _ (.cons _ (.cons_cons _ (.cons_cons _ (.cons_cons _ List.Sublist.slnil))))) (OldAll.box (OldAll.box (OldAll.box (OldAll.box OldAll.nil))))) (by kernel_rfl) (fun _ _ => by kernel_rfl) ?_
        refine TA.done (by kernel_rfl) ?_
        cases hX1
        refine T.ret rfl ?_
        repeat first | refine T.unthen ?_ | refine T.unblock ?_
        exact T.ret2 rfl (ResIs.cellN 1 rfl (by rfl) (fun _ => by kernel_rfl) (fun _ => by kernel_rfl)) (ResIs.tmp rfl) fun w' hh => ⟨_, rfl, Exists.intro z5 (Exists.intro z6 (Exists.intro z7 (Exists.intro (r5 == 0) (And.intro rfl (Exists.intro V9 (And.intro (View.le_trans (View.le_trans (View.le_trans hV3 hV5) hV7) hV9) (And.intro rfl (hh.sub (.cons _ (.cons _ (.cons _ (.cons_cons _ (.cons_cons _ List.Sublist.slnil)))))))))))))⟩
  ·
   rintro v w' ⟨z1, z2, z3, z4, rfl, V2, hV2, rfl, hh⟩
   try dsimp only at hF
   refine ⟨V2, [box b2 74 [.int .i64 r1.1.kind, .string r1.1.body], box b1 58 [.int .i64 0, .int .i64 0, .int .i64 0, .slice none 0 0]], hh, ?_⟩
   clear hh
   refine T.pure (.tuple #[.agg #[.int .i64 z1, .int .i64 z2, .int .i64 z3, .slice none 0 0], .bool z4]) (by kernel_rfl) (fun _ => by kernel_rfl) ?_
   refine T.pure (.agg #[.int .i64 z1, .int .i64 z2, .int .i64 z3, .slice none 0 0]) (by kernel_rfl) (fun _ => by kernel_rfl) ?_
   refine T.pure (.bool z4) (by kernel_rfl) (fun _ => by kernel_rfl) ?_
   refine T.step (W1.new 58 [.int .i64 0, .int .i64 0, .int .i64 0, .slice none 0 0] (fun b => .pointer (some ⟨b, 0, none⟩)) (by kernel_rfl) (fun _ => by kernel_rfl) (fun b6 => ?_))
   refine T.step (W1.store 0 [.int .i64 z1, .int .i64 z2, .int .i64 z3, .slice none 0 0] [box b6 58 [.int .i64 z1, .int .i64 z2, .int .i64 z3, .slice none 0 0], box b2 74 [.int .i64 r1.1.kind, .string r1.1.body], box b1 58 [.int .i64 0, .int .i64 0, .int .i64 0, .slice none 0 0]] (by rfl) rfl (by kernel_rfl) (fun w' hw => exec_store (vs := [.int .i64 z1, .int .i64 z2, .int .i64 z3, .slice none 0 0]) rfl rfl rfl rfl (by kernel_rfl) (one_of rfl) (by simp) rfl hw) ?_)
   refine T.pure (.bool z4) (by kernel_rfl) (fun _ => by kernel_rfl) ?_
   refine T.nil ?_
   refine T.seq ?_
   refine T.seq ?_
   refine T.region ?_
   refine T.pure (.bool z4) (by kernel_rfl) (fun _ => by kernel_rfl) ?_
   refine T.pure (.bool (!z4)) (by kernel_rfl) (fun _ => by kernel_rfl) ?_
   refine T.nil ?_
   refine T.cond (!z4) (by kernel_rfl) (by kernel_rfl) (fun hc3 => ?_) (fun hc3 => ?_)
   ·
    rw [hc3, cond_true] at hF
    refine T.seq ?_
    refine T.region ?_
    refine T.pure (.agg #[.int .i64 0, .int .i64 0, .int .i64 0, .slice none 0 0]) (by kernel_rfl) (fun _ => by kernel_rfl) ?_
    refine T.step (W1.store 2 [.int .i64 0, .int .i64 0, .int .i64 0, .slice none 0 0] [box b6 58 [.int .i64 z1, .int .i64 z2, .int .i64 z3, .slice none 0 0], box b2 74 [.int .i64 r1.1.kind, .string r1.1.body], box b1 58 [.int .i64 0, .int .i64 0, .int .i64 0, .slice none 0 0]] (by rfl) rfl (by kernel_rfl) (fun w' hw => exec_store (vs := [.int .i64 0, .int .i64 0, .int .i64 0, .slice none 0 0]) rfl rfl rfl rfl (by kernel_rfl) (one_of rfl) (by simp) rfl hw) ?_)
    refine T.pure (.int .i64 3) (by kernel_rfl) (fun _ => by kernel_rfl) ?_
    refine T.nil ?_
    cases hF
    refine T.ret rfl ?_
    exact T.ret2 rfl (ResIs.cellN 2 rfl (by rfl) (fun _ => by kernel_rfl) (fun _ => by kernel_rfl)) (ResIs.tmp rfl) fun w' hh => ⟨_, rfl, hh.below, (vT2.mk (vAg.mk ⟨_, _, rfl, (SlOk.nil _ _)⟩) (show _ from rfl))⟩
   ·
    rw [hc3, cond_false] at hF
    refine T.skip_code ?_
    refine T.rownil 30 eElem ?_
    obtain ⟨q2, hz1, hF⟩ := Option.bind_eq_some_iff.1 hF
    refine T.mid (fun a w' => False) ?_ ?_
    ·
     refine T.block ?_
     refine T.iter (fun s4 a w' => ∃ (x1 : List DElem) (x2 : Int) (x3 : ByteArray) (x4 : ByteArray) (x5 : Int), s4 = (x1, x2, x3, x4, x5) ∧ ∃ (A1 : Option Addr) (c1 : Nat) (V10 : View), View.le V2 V10 ∧ Fr 71 [(0, .string x4), (2, .pointer (some ⟨b1, 0, none⟩)), (4, .pointer (some ⟨b2, 0, none⟩)), (5, .int .i64 x5), (7, .pointer (some ⟨b6, 0, none⟩))] a ∧ Hp w V10 [row 30 eElem A1 c1 x1, box b6 58 [.int .i64 z1, .int .i64 z2, .int .i64 z3, .slice A1 x1.length c1], box b2 74 [.int .i64 x2, .string x3], box b1 58 [.int .i64 0, .int .i64 0, .int .i64 0, .slice none 0 0]] w') hz1 ?_ ?_
     ·
      exact fun a w' hf hh => Exists.intro [] (Exists.intro r1.1.kind (Exists.intro r1.1.body (Exists.intro p0 (Exists.intro r1.2.1 (And.intro rfl (Exists.intro none (Exists.intro 0 (Exists.intro V2 (And.intro (View.le_refl _) (And.intro ((((((Fr.nil hf).pick hf 7 rfl).pick hf 5 rfl).pick hf 4 rfl).pick hf 2 rfl).pick hf 0 rfl) (hh.sub (.cons_cons _ (.cons_cons _ (.cons_cons _ (.cons_cons _ List.Sublist.slnil)))))))))))))))
     ·
      rintro s4 y1 hY1 hr1 a w' ⟨x1, x2, x3, x4, x5, rfl, A1, c1, V10, hV10, hf, hh⟩
      refine (?_ : T 71 w V10 [row 30 eElem A1 c1 x1, box b6 58 [.int .i64 z1, .int .i64 z2, .int .i64 z3, .slice A1 x1.length c1], box b2 74 [.int .i64 x2, .string x3], box b1 58 [.int .i64 0, .int .i64 0, .int .i64 0, .slice none 0 0]] [(0, .string x4), (2, .pointer (some ⟨b1, 0, none⟩)), (4, .pointer (some ⟨b2, 0, none⟩)), (5, .int .i64 x5), (7, .pointer (some ⟨b6, 0, none⟩))] _) a w' hf hh
      clear hf hh
      try dsimp only at hY1
      refine T.block ?_
      refine T.seq ?_
      refine T.region ?_
      refine T.pure (.string x4) (by kernel_rfl) (fun _ => by kernel_rfl) ?_
      refine T.pure (.int .i64 x5) (by kernel_rfl) (fun _ => by kernel_rfl) ?_
      obtain ⟨s5, hb9, hY1⟩ := Option.bind_eq_some_iff.1 hY1
      refine T.look (.string s5) (by kernel_rfl) (fun w' hh => exec_slice_str_lo rfl rfl rfl (by kernel_rfl) hb9) ?_
      refine T.pure (.string s5) (by kernel_rfl) (fun _ => by kernel_rfl) ?_
      refine T.nil ?_
      refine T.seq ?_
      refine T.region ?_
      refine T.pure (.string s5) (by kernel_rfl) (fun _ => by kernel_rfl) ?_
      obtain ⟨r7, hb10, hY1⟩ := Option.bind_eq_some_iff.1 hY1
      refine T.step (W1.call (vT3 (vAg eFrame) (vSc eInt) (vSc eInt)) r7 35 #[.string s5] (by kernel_rfl) (fun _ => by kernel_rfl) (fun w' hh => frame_Get_l F s5 r7 hb10 w' ) ?_)
      intro u V11 hV11 hu
      obtain rfl := (Sure.t3 sureFrame sureInt sureInt) _ _ _ hu
      refine T.pure (.tuple #[.agg #[.int .i64 r7.1.kind, .string r7.1.body], .int .i64 r7.2.1, .int .i64 r7.2.2]) (by kernel_rfl) (fun _ => by kernel_rfl) ?_
      refine T.pure (.agg #[.int .i64 r7.1.kind, .string r7.1.body]) (by kernel_rfl) (fun _ => by kernel_rfl) ?_
      refine T.pure (.int .i64 r7.2.1) (by kernel_rfl) (fun _ => by kernel_rfl) ?_
      refine T.pure (.int .i64 r7.2.2) (by kernel_rfl) (fun _ => by kernel_rfl) ?_
      refine T.step (W1.store 2 [.int .i64 r7.1.kind, .string r7.1.body] [row 30 eElem A1 c1 x1, box b6 58 [.int .i64 z1, .int .i64 z2, .int .i64 z3, .slice A1 x1.length c1], box b2 74 [.int .i64 r7.1.kind, .string r7.1.body], box b1 58 [.int .i64 0, .int .i64 0, .int .i64 0, .slice none 0 0]] (by rfl) rfl (by kernel_rfl) (fun w' hw => exec_store (vs := [.int .i64 r7.1.kind, .string r7.1.body]) rfl rfl rfl rfl (by kernel_rfl) (one_of rfl) (by simp) rfl hw) ?_)
      refine T.pure (.int .i64 r7.2.1) (by kernel_rfl) (fun _ => by kernel_rfl) ?_
      refine T.pure (.int .i64 r7.2.2) (by kernel_rfl) (fun _ => by kernel_rfl) ?_
      refine T.nil ?_
      refine T.seq ?_
      refine T.seq ?_
      refine T.region ?_
      refine T.pure (.int .i64 r7.2.2) (by kernel_rfl) (fun _ => by kernel_rfl) ?_
      refine T.pure (.bool (r7.2.2 != 0)) (by kernel_rfl) (fun _ => by kernel_rfl) ?_
      refine T.nil ?_
      refine T.cond (r7.2.2 != 0) (by kernel_rfl) (by kernel_rfl) (fun hc4 => ?_) (fun hc4 => ?_)
      ·
       rw [hc4, cond_true] at hY1
       refine T.seq ?_
       refine T.region ?_
       refine T.pure (.agg #[.int .i64 0, .int .i64 0, .int .i64 0, .slice none 0 0]) (by kernel_rfl) (fun _ => by kernel_rfl) ?_
       refine T.pure (.int .i64 r7.2.2) (by kernel_rfl) (fun _ => by kernel_rfl) ?_
       refine T.step (W1.store 3 [.int .i64 0, .int .i64 0, .int .i64 0, .slice none 0 0] [row 30 eElem A1 c1 x1, box b6 58 [.int .i64 z1, .int .i64 z2, .int .i64 z3, .slice A1 x1.length c1], box b2 74 [.int .i64 r7.1.kind, .string r7.1.body], box b1 58 [.int .i64 0, .int .i64 0, .int .i64 0, .slice none 0 0]] (by rfl) rfl (by kernel_rfl) (fun w' hw => exec_store (vs := [.int .i64 0, .int .i64 0, .int .i64 0, .slice none 0 0]) rfl rfl rfl rfl (by kernel_rfl) (one_of rfl) (by simp) rfl hw) ?_)
       refine T.pure (.int .i64 r7.2.2) (by kernel_rfl) (fun _ => by kernel_rfl) ?_
       refine T.nil ?_
       cases hY1
       cases (hr1 _ rfl)
       try dsimp only at hF
       cases hF
       refine T.ret rfl ?_
       exact T.ret2 rfl (ResIs.cellN 3 rfl (by rfl) (fun _ => by kernel_rfl) (fun _ => by kernel_rfl)) (ResIs.tmp rfl) fun w' hh => ⟨_, rfl, hh.below, (vT2.mk (vAg.mk ⟨_, _, rfl, (SlOk.nil _ _)⟩) (show _ from rfl))⟩
      ·
       rw [hc4, cond_false] at hY1
       refine T.skip_code ?_
       refine T.block ?_
       obtain ⟨z8, hX5, hY1⟩ := Option.bind_eq_some_iff.1 hY1
       refine T.cut (fun a w' => ∃ (V12 : View), View.le V11 V12 ∧ Fr 71 [(0, .string s5), (2, .pointer (some ⟨b1, 0, none⟩)), (4, .pointer (some ⟨b2, 0, none⟩)), (5, .int .i64 r7.2.1), (7, .pointer (some ⟨b6, 0, none⟩)), (40, .bool z8)] a ∧ Hp w V12 [row 30 eElem A1 c1 x1, box b6 58 [.int .i64 z1, .int .i64 z2, .int .i64 z3, .slice A1 x1.length c1], box b2 74 [.int .i64 r7.1.kind, .string r7.1.body], box b1 58 [.int .i64 0, .int .i64 0, .int .i64 0, .slice none 0 0]] w') ?_ ?_
       ·
        refine T.held [row 30 eElem A1 c1 x1, box b6 58 [.int .i64 z1, .int .i64 z2, .int .i64 z3, .slice A1 x1.length c1], box b2 74 [.int .i64 r7.1.kind, .string r7.1.body], box b1 58 [.int .i64 0, .int .i64 0, .int .i64 0, .slice none 0 0]] (by kernel_rfl) ?_
        refine TA.take 0 (.pointer (some ⟨b2, 0, none⟩)) rfl (by kernel_rfl) (by kernel_rfl) (by kernel_rfl) (fun _ _ _ h => h) (Hp.old (View.le_refl _) (View.le_trans (View.le_trans (View.le_trans hV1 hV2) hV10) hV11) (.cons_cons _ (.cons_cons _ (.cons_cons _ (.cons_cons _ List.Sublist.slnil)))) (OldAll.row (fun _ _ _ _ h => h) (OldAll.box (OldAll.box (OldAll.box OldAll.nil))))) (by kernel_rfl) (fun _ _ => by kernel_rfl) ?_
        refine TA.take 1 (.int .i64 r7.1.kind) rfl (by kernel_rfl) (by kernel_rfl) (by kernel_rfl) (fun _ _ _ h => h) (Hp.old (View.le_refl _) (View.le_trans (View.le_trans (View.le_trans hV1 hV2) hV10) hV11) (.cons_cons _ (.cons_cons _ (.cons_cons _ (.cons_cons _ List.Sublist.slnil)))) (OldAll.row (fun _ _ _ _ h => h) (OldAll.box (OldAll.box (OldAll.box OldAll.nil))))) (by kernel_rfl) (fun w' hh => exec_load1 rfl rfl (by kernel_rfl) (hh.cellBox (i := 2) (by rfl) 0)) ?_
        refine TA.take 2 (.bool (r7.1.kind == 3)) rfl (by kernel_rfl) (by kernel_rfl) (by kernel_rfl) (fun _ _ _ h => h) (Hp.old (View.le_refl _) (View.le_trans (View.le_trans (View.le_trans hV1 hV2) hV10) hV11) (.cons_cons _ (.cons_cons _ (.cons_cons _ (.cons_cons _ List.Sublist.slnil)))) (OldAll.row (fun _ _ _ _ h => h) (OldAll.box (OldAll.box (OldAll.box OldAll.nil))))) (by kernel_rfl) (fun _ _ => by kernel_rfl) ?_
        refine TA.take 3 (.bool (r7.1.kind == 3)) rfl (by kernel_rfl) (by kernel_rfl) (by kernel_rfl) (fun _ _ _ h => h) (Hp.old (View.le_refl _) (View.le_trans (View.le_trans (View.le_trans hV1 hV2) hV10) hV11) (.cons_cons _ (.cons_cons _ (.cons_cons _ (.cons_cons _ List.Sublist.slnil)))) (OldAll.row (fun _ _ _ _ h => h) (OldAll.box (OldAll.box (OldAll.box OldAll.nil))))) (by kernel_rfl) (fun _ _ => by kernel_rfl) ?_
        cases hg2 : (r7.1.kind == 3)
        ·
         rw [hg2, cond_false] at hX5
         refine TA.takeNo 4 rfl (by kernel_rfl) (by kernel_rfl) (by kernel_rfl) (fun _ _ _ h => h) (Hp.old (View.le_refl _) (View.le_trans (View.le_trans (View.le_trans hV1 hV2) hV10) hV11) (.cons_cons _ (.cons_cons _ (.cons_cons _ (.cons_cons _ List.Sublist.slnil)))) (OldAll.row (fun _ _ _ _ h => h) (OldAll.box (OldAll.box (OldAll.box OldAll.nil))))) (by kernel_rfl) (by kernel_rfl) ?_
         refine TA.takeNo 5 rfl (by kernel_rfl) (by kernel_rfl) (by kernel_rfl) (fun _ _ _ h => h) (Hp.old (View.le_refl _) (View.le_trans (View.le_trans (View.le_trans hV1 hV2) hV10) hV11) (.cons_cons _ (.cons_cons _ (.cons_cons _ (.cons_cons _ List.Sublist.slnil)))) (OldAll.row (fun _ _ _ _ h => h) (OldAll.box (OldAll.box (OldAll.box OldAll.nil))))) (by kernel_rfl) (by kernel_rfl) ?_
         refine TA.takeNo 6 rfl (by kernel_rfl) (by kernel_rfl) (by kernel_rfl) (fun _ _ _ h => h) (Hp.old (View.le_refl _) (View.le_trans (View.le_trans (View.le_trans hV1 hV2) hV10) hV11) (.cons_cons _ (.cons_cons _ (.cons_cons _ (.cons_cons _ List.Sublist.slnil)))) (OldAll.row (fun _ _ _ _ h => h) (OldAll.box (OldAll.box (OldAll.box OldAll.nil))))) (by kernel_rfl) (by kernel_rfl) ?_
         refine TA.takeNo 7 rfl (by kernel_rfl) (by kernel_rfl) (by kernel_rfl) (fun _ _ _ h => h) (Hp.old (View.le_refl _) (View.le_trans (View.le_trans (View.le_trans hV1 hV2) hV10) hV11) (.cons_cons _ (.cons_cons _ (.cons_cons _ (.cons_cons _ List.Sublist.slnil)))) (OldAll.row (fun _ _ _ _ h => h) (OldAll.box (OldAll.box (OldAll.box OldAll.nil))))) (by kernel_rfl) (by kernel_rfl) ?_
         refine TA.takeNo 8 rfl (by kernel_rfl) (by kernel_rfl) (by kernel_rfl) (fun _ _ _ h => h) (Hp.old (View.le_refl _) (View.le_trans (View.le_trans (View.le_trans hV1 hV2) hV10) hV11) (.cons_cons _ (.cons_cons _ (.cons_cons _ (.cons_cons _ List.Sublist.slnil)))) (OldAll.row (fun _ _ _ _ h => h) (OldAll.box (OldAll.box (OldAll.box OldAll.nil))))) (by kernel_rfl) (by kernel_rfl) ?_
         refine TA.takeNo 9 rfl (by kernel_rfl) (by kernel_rfl) (by kernel_rfl) (fun _ _ _ h => h) (Hp.old (View.le_refl _) (View.le_trans (View.le_trans (View.le_trans hV1 hV2) hV10) hV11) (.cons_cons _ (.cons_cons _ (.cons_cons _ (.cons_cons _ List.Sublist.slnil)))) (OldAll.row (fun _ _ _ _ h => h) (OldAll.box (OldAll.box (OldAll.box OldAll.nil))))) (by kernel_rfl) (by kernel_rfl) ?_
         refine TA.takeNo 10 rfl (by kernel_rfl) (by kernel_rfl) (by kernel_rfl) (fun _ _ _ h => h) (Hp.old (View.le_refl _) (View.le_trans (View.le_trans (View.le_trans hV1 hV2) hV10) hV11) (.cons_cons _ (.cons_cons _ (.cons_cons _ (.cons_cons _ List.Sublist.slnil)))) (OldAll.row (fun _ _ _ _ h => h) (OldAll.box (OldAll.box (OldAll.box OldAll.nil))))) (by kernel_rfl) (by kernel_rfl) ?_
         refine TA.takeNo 11 rfl (by kernel_rfl) (by kernel_rfl) (by kernel_rfl) (fun _ _ _ h => h) (Hp.old (View.le_refl _) (View.le_trans (View.le_trans (View.le_trans hV1 hV2) hV10) hV11) (.cons_cons _ (.cons_cons _ (.cons_cons _ (.cons_cons _ List.Sublist.slnil)))) (OldAll.row (fun _ _ _ _ h => h) (OldAll.box (OldAll.box (OldAll.box OldAll.nil))))) (by kernel_rfl) (by kernel_rfl) ?_
         refine TA.take 12 (.bool false) rfl (by kernel_rfl) (by kernel_rfl) (by kernel_rfl) (fun _ _ _ h => h) (Hp.old (View.le_refl _) (View.le_trans (View.le_trans (View.le_trans hV1 hV2) hV10) hV11) (.cons_cons _ (.cons_cons _ (.cons_cons _ (.cons_cons _ List.Sublist.slnil)))) (OldAll.row (fun _ _ _ _ h => h) (OldAll.box (OldAll.box (OldAll.box OldAll.nil))))) (by kernel_rfl) (fun _ _ => by kernel_rfl) ?_
         refine TA.take 13 (.bool false) rfl (by kernel_rfl) (by kernel_rfl) (by kernel_rfl) (fun _ _ _ h => h) (Hp.old (View.le_refl _) (View.le_trans (View.le_trans (View.le_trans hV1 hV2) hV10) hV11) (.cons_cons _ (.cons_cons _ (.cons_cons _ (.cons_cons _ List.Sublist.slnil)))) (OldAll.row (fun _ _ _ _ h => h) (OldAll.box (OldAll.box (OldAll.box OldAll.nil))))) (by kernel_rfl) (fun _ _ => by kernel_rfl) ?_
         refine TA.takeNo 14 rfl (by kernel_rfl) (by kernel_rfl) (by kernel_rfl) (fun _ _ _ h => h) (Hp.old (View.le_refl _) (View.le_trans (View.le_trans (View.le_trans hV1 hV2) hV10) hV11) (.cons_cons _ (.cons_cons _ (.cons_cons _ (.cons_cons _ List.Sublist.slnil)))) (OldAll.row (fun _ _ _ _ h => h) (OldAll.box (OldAll.box (OldAll.box OldAll.nil))))) (by kernel_rfl) (by kernel_rfl) ?_
         refine TA.takeNo 15 rfl (by kernel_rfl) (by kernel_rfl) (by kernel_rfl) (fun _ _ _ h => h) (Hp.old (View.le_refl _) (View.le_trans (View.le_trans (View.le_trans hV1 hV2) hV10) hV11) (.cons_cons _ (.cons_cons _ (.cons_cons _ (.cons_cons _ List.Sublist.slnil)))) (OldAll.row (fun _ _ _ _ h => h) (OldAll.box (OldAll.box (OldAll.box OldAll.nil))))) (by kernel_rfl) (by kernel_rfl) ?_
         refine TA.takeNo 16 rfl (by kernel_rfl) (by kernel_rfl) (by kernel_rfl) (fun _ _ _ h => h) (Hp.old (View.le_refl _) (View.le_trans (View.le_trans (View.le_trans hV1 hV2) hV10) hV11) (.cons_cons _ (.cons_cons _ (.cons_cons _ (.cons_cons _ List.Sublist.slnil)))) (OldAll.row (fun _ _ _ _ h => h) (OldAll.box (OldAll.box (OldAll.box OldAll.nil))))) (by kernel_rfl) (by kernel_rfl) ?_
         refine TA.takeNo 17 rfl (by kernel_rfl) (by kernel_rfl) (by kernel_rfl) (fun _ _ _ h => h) (Hp.old (View.le_refl _) (View.le_trans (View.le_trans (View.le_trans hV1 hV2) hV10) hV11) (.cons_cons _ (.cons_cons _ (.cons_cons _ (.cons_cons _ List.Sublist.slnil)))) (OldAll.row (fun _ _ _ _ h => h) (OldAll.box (OldAll.box (OldAll.box OldAll.nil))))) (by kernel_rfl) (by kernel_rfl) ?_
         refine TA.take 18 (.bool false) rfl (by kernel_rfl) (by kernel_rfl) (by kernel_rfl) (fun _ _ _ h => h) (Hp.old (View.le_refl _) (View.le_trans (View.le_trans (View.le_trans hV1 hV2) hV10) hV11) (.cons_cons _ (.cons_cons _ (.cons_cons _ (.cons_cons _ List.Sublist.slnil)))) (OldAll.row (fun _ _ _ _ h => h) (OldAll.box (OldAll.box (OldAll.box OldAll.nil))))) (by kernel_rfl) (fun _ _ => by kernel_rfl) ?_
         refine TA.take 19 (.bool false) rfl (by kernel_rfl) (by kernel_rfl) (by kernel_rfl) (fun _ _ _ h => h) (Hp.old (View.le_refl _) (View.le_trans (View.le_trans (View.le_trans hV1 hV2) hV10) hV11) (.cons_cons _ (.cons_cons _ (.cons_cons _ (.cons_cons _ List.Sublist.slnil)))) (OldAll.row (fun _ _ _ _ h => h) (OldAll.box (OldAll.box (OldAll.box OldAll.nil))))) (by kernel_rfl) (fun _ _ => by kernel_rfl) ?_
         refine TA.done (by kernel_rfl) ?_
         cases hX5
         exact fun a w' hf hh => Exists.intro V11 (And.intro (View.le_refl _) (And.intro (((((((Fr.nil hf).pick hf 40 rfl).pick hf 7 rfl).pick hf 5 rfl).pick hf 4 rfl).pick hf 2 rfl).pick hf 0 rfl) (hh.sub (.cons_cons _ (.cons_cons _ (.cons_cons _ (.cons_cons _ List.Sublist.slnil)))))))
        ·
         rw [hg2, cond_true] at hX5
         refine TA.take 4 (.pointer (some ⟨b2, 1, none⟩)) rfl (by kernel_rfl) (by kernel_rfl) (by kernel_rfl) (fun _ _ _ h => h) (Hp.old (View.le_refl _) (View.le_trans (View.le_trans (View.le_trans hV1 hV2) hV10) hV11) (.cons_cons _ (.cons_cons _ (.cons_cons _ (.cons_cons _ List.Sublist.slnil)))) (OldAll.row (fun _ _ _ _ h => h) (OldAll.box (OldAll.box (OldAll.box OldAll.nil))))) (by kernel_rfl) (fun _ _ => by kernel_rfl) ?_
         refine TA.take 5 (.string r7.1.body) rfl (by kernel_rfl) (by kernel_rfl) (by kernel_rfl) (fun _ _ _ h => h) (Hp.old (View.le_refl _) (View.le_trans (View.le_trans (View.le_trans hV1 hV2) hV10) hV11) (.cons_cons _ (.cons_cons _ (.cons_cons _ (.cons_cons _ List.Sublist.slnil)))) (OldAll.row (fun _ _ _ _ h => h) (OldAll.box (OldAll.box (OldAll.box OldAll.nil))))) (by kernel_rfl) (fun w' hh => exec_load1 rfl rfl (by kernel_rfl) (hh.cellBox (i := 2) (by rfl) 1)) ?_
         refine TA.take 6 (.pointer (some ⟨b6, 3, none⟩)) rfl (by kernel_rfl) (by kernel_rfl) (by kernel_rfl) (fun _ _ _ h => h) (Hp.old (View.le_refl _) (View.le_trans (View.le_trans (View.le_trans hV1 hV2) hV10) hV11) (.cons_cons _ (.cons_cons _ (.cons_cons _ (.cons_cons _ List.Sublist.slnil)))) (OldAll.row (fun _ _ _ _ h => h) (OldAll.box (OldAll.box (OldAll.box OldAll.nil))))) (by kernel_rfl) (fun _ _ => by kernel_rfl) ?_
         refine TA.take 7 (.slice A1 x1.length c1) rfl (by kernel_rfl) (by kernel_rfl) (by kernel_rfl) (fun _ _ _ h => h) (Hp.old (View.le_refl _) (View.le_trans (View.le_trans (View.le_trans hV1 hV2) hV10) hV11) (.cons_cons _ (.cons_cons _ (.cons_cons _ (.cons_cons _ List.Sublist.slnil)))) (OldAll.row (fun _ _ _ _ h => h) (OldAll.box (OldAll.box (OldAll.box OldAll.nil))))) (by kernel_rfl) (fun w' hh => exec_load1 rfl rfl (by kernel_rfl) (hh.cellBox (i := 1) (by rfl) 3)) ?_
         refine TA.take 8 (.int .i64 (x1.length : Int)) rfl (by kernel_rfl) (by kernel_rfl) (by kernel_rfl) (fun _ _ _ h => h) (Hp.old (View.le_refl _) (View.le_trans (View.le_trans (View.le_trans hV1 hV2) hV10) hV11) (.cons_cons _ (.cons_cons _ (.cons_cons _ (.cons_cons _ List.Sublist.slnil)))) (OldAll.row (fun _ _ _ _ h => h) (OldAll.box (OldAll.box (OldAll.box OldAll.nil))))) (by kernel_rfl) (fun _ _ => by kernel_rfl) ?_
         refine TA.all [9] (by kernel_rfl) rfl ⟨?_, trivial⟩
         refine TA.br rfl (W1.new 3 [.int .i64 (x1.length : Int)] (fun b => .slice (some ⟨b, 0, none⟩) 1 1) (by kernel_rfl) (fun _ => by kernel_rfl) (fun b7 => ?_))
         refine TA.on (Hp.old (View.le_refl _) (View.le_trans (View.le_trans (View.le_trans hV1 hV2) hV10) hV11) (.cons _ (.cons_cons _ (.cons_cons _ (.cons_cons _ (.cons_cons _ List.Sublist.slnil))))) (OldAll.row (fun _ _ _ _ h => h) (OldAll.box (OldAll.box (OldAll.box OldAll.nil))))) ?_
         refine TA.all [10] (by kernel_rfl) rfl ⟨?_, trivial⟩
         obtain ⟨r8, hb11, hX5⟩ := Option.bind_eq_some_iff.1 hX5
         refine TA.br rfl (W1.call (vSc eStr) r8 37 #[.slice (some ⟨b7, 0, none⟩) 1 1] (by kernel_rfl) (fun _ => by kernel_rfl) (fun w' hh => stream_fours_l F [(x1.length : Int)] r8 hb11 w' (some ⟨b7, 0, none⟩) 1 (slok_lit (E := eInt) (f := (fun x => [.int .i64 x])) [(x1.length : Int)] (fun _ _ => rfl) (Nat.le_of_ble_eq_true (by rfl)) (fun j => hh.cellBox (i := 0) (by rfl) j))) ?_)
         intro u V13 hV13 hu
         obtain rfl := sureStr _ _ _ hu
         refine TA.on (Hp.old hV13 (View.le_trans (View.le_trans (View.le_trans hV1 hV2) hV10) hV11) (.cons _ (.cons_cons _ (.cons_cons _ (.cons_cons _ (.cons_cons _ List.Sublist.slnil))))) (OldAll.row (fun _ _ _ _ h => h) (OldAll.box (OldAll.box (OldAll.box OldAll.nil))))) ?_
         refine TA.take 11 (.bool (seq r7.1.body r8)) rfl (by kernel_rfl) (by kernel_rfl) (by kernel_rfl) (fun _ _ _ h => h) (Hp.old hV13 (View.le_trans (View.le_trans (View.le_trans hV1 hV2) hV10) hV11) (.cons _ (.cons_cons _ (.cons_cons _ (.cons_cons _ (.cons_cons _ List.Sublist.slnil))))) (OldAll.row (fun _ _ _ _ h => h) (OldAll.box (OldAll.box (OldAll.box OldAll.nil))))) (by kernel_rfl) (fun _ _ => by kernel_rfl) ?_
         refine TA.take 12 (.bool (seq r7.1.body r8)) rfl (by kernel_rfl) (by kernel_rfl) (by kernel_rfl) (fun _ _ _ h => h) (Hp.old hV13 (View.le_trans (View.le_trans (View.le_trans hV1 hV2) hV10) hV11) (.cons _ (.cons_cons _ (.cons_cons _ (.cons_cons _ (.cons_cons _ List.Sublist.slnil))))) (OldAll.row (fun _ _ _ _ h => h) (OldAll.box (OldAll.box (OldAll.box OldAll.nil))))) (by kernel_rfl) (fun _ _ => by kernel_rfl) ?_
         refine TA.take 13 (.bool (seq r7.1.body r8)) rfl (by kernel_rfl) (by kernel_rfl) (by kernel_rfl) (fun _ _ _ h => h) (Hp.old hV13 (View.le_trans (View.le_trans (View.le_trans hV1 hV2) hV10) hV11) (.cons _ (.cons_cons _ (.cons_cons _ (.cons_cons _ (.cons_cons _ List.Sublist.slnil))))) (OldAll.row (fun _ _ _ _ h => h) (OldAll.box (OldAll.box (OldAll.box OldAll.nil))))) (by kernel_rfl) (fun _ _ => by kernel_rfl) ?_
         cases hg3 : (seq r7.1.body r8)
         ·
          rw [hg3, cond_false] at hX5
          refine TA.takeNo 14 rfl (by kernel_rfl) (by kernel_rfl) (by kernel_rfl) (fun _ _ _ h => h) (Hp.old hV13 (View.le_trans (View.le_trans (View.le_trans hV1 hV2) hV10) hV11) (.cons _ (.cons_cons _ (.cons_cons _ (.cons_cons _ (.cons_cons _ List.Sublist.slnil))))) (OldAll.row (fun _ _ _ _ h => h) (OldAll.box (OldAll.box (OldAll.box OldAll.nil))))) (by kernel_rfl) (by kernel_rfl) ?_
          refine TA.takeNo 15 rfl (by kernel_rfl) (by kernel_rfl) (by kernel_rfl) (fun _ _ _ h => h) (Hp.old hV13 (View.le_trans (View.le_trans (View.le_trans hV1 hV2) hV10) hV11) (.cons _ (.cons_cons _ (.cons_cons _ (.cons_cons _ (.cons_cons _ List.Sublist.slnil))))) (OldAll.row (fun _ _ _ _ h => h) (OldAll.box (OldAll.box (OldAll.box OldAll.nil))))) (by kernel_rfl) (by kernel_rfl) ?_
          refine TA.takeNo 16 rfl (by kernel_rfl) (by kernel_rfl) (by kernel_rfl) (fun _ _ _ h => h) (Hp.old hV13 (View.le_trans (View.le_trans (View.le_trans hV1 hV2) hV10) hV11) (.cons _ (.cons_cons _ (.cons_cons _ (.cons_cons _ (.cons_cons _ List.Sublist.slnil))))) (OldAll.row (fun _ _ _ _ h => h) (OldAll.box (OldAll.box (OldAll.box OldAll.nil))))) (by kernel_rfl) (by kernel_rfl) ?_
          refine TA.takeNo 17 rfl (by kernel_rfl) (by kernel_rfl) (by kernel_rfl) (fun _ _ _ h => h) (Hp.old hV13 (View.le_trans (View.le_trans (View.le_trans hV1 hV2) hV10) hV11) (.cons _ (.cons_cons _ (.cons_cons _ (.cons_cons _ (.cons_cons _ List.Sublist.slnil))))) (OldAll.row (fun _ _ _ _ h => h) (OldAll.box (OldAll.box (OldAll.box OldAll.nil))))) (by kernel_rfl) (by kernel_rfl) ?_
          refine TA.take 18 (.bool false) rfl (by kernel_rfl) (by kernel_rfl) (by kernel_rfl) (fun _ _ _ h => h) (Hp.old hV13 (View.le_trans (View.le_trans (View.le_trans hV1 hV2) hV10) hV11) (.cons _ (.cons_cons _ (.cons_cons _ (.cons_cons _ (.cons_cons _ List.Sublist.slnil))))) (OldAll.row (fun _ _ _ _ h => h) (OldAll.box (OldAll.box (OldAll.box OldAll.nil))))) (by kernel_rfl) (fun _ _ => by kernel_rfl) ?_
          refine TA.take 19 (.bool false) rfl (by kernel_rfl) (by kernel_rfl) (by kernel_rfl) (fun _ _ _ h => h) (Hp.old hV13 (View.le_trans (View.le_trans (View.le_trans hV1 hV2) hV10) hV11) (.cons _ (.cons_cons _ (.cons_cons _ (.cons_cons _ (.cons_cons _ List.Sublist.slnil))))) (OldAll.row (fun _ _ _ _ h => h) (OldAll.box (OldAll.box (OldAll.box OldAll.nil))))) (by kernel_rfl) (fun _ _ => by kernel_rfl) ?_
          refine TA.done (by kernel_rfl) ?_
          cases hX5
          exact fun a w' hf hh => Exists.intro V13 (And.intro hV13 (And.intro (((((((Fr.nil hf).pick hf 40 rfl).pick hf 7 rfl).pick hf 5 rfl).pick hf 4 rfl).pick hf 2 rfl).pick hf 0 rfl) (hh.sub (.cons _ (.cons_cons _ (.cons_cons _ (.cons_cons _ (.cons_cons _ List.Sublist.slnil))))))))
         ·
          rw [hg3, cond_true] at hX5
          refine TA.take 14 (.int .i64 r7.2.1) rfl (by kernel_rfl) (by kernel_rfl) (by kernel_rfl) (fun _ _ _ h => h) (Hp.old hV13 (View.le_trans (View.le_trans (View.le_trans hV1 hV2) hV10) hV11) (.cons _ (.cons_cons _ (.cons_cons _ (.cons_cons _ (.cons_cons _ List.Sublist.slnil))))) (OldAll.row (fun _ _ _ _ h => h) (OldAll.box (OldAll.box (OldAll.box OldAll.nil))))) (by kernel_rfl) (fun _ _ => by kernel_rfl) ?_
          refine TA.take 15 (.string s5) rfl (by kernel_rfl) (by kernel_rfl) (by kernel_rfl) (fun _ _ _ h => h) (Hp.old hV13 (View.le_trans (View.le_trans (View.le_trans hV1 hV2) hV10) hV11) (.cons _ (.cons_cons _ (.cons_cons _ (.cons_cons _ (.cons_cons _ List.Sublist.slnil))))) (OldAll.row (fun _ _ _ _ h => h) (OldAll.box (OldAll.box (OldAll.box OldAll.nil))))) (by kernel_rfl) (fun _ _ => by kernel_rfl) ?_
          refine TA.take 16 (.int .i64 (s5.size : Int)) rfl (by kernel_rfl) (by kernel_rfl) (by kernel_rfl) (fun _ _ _ h => h) (Hp.old hV13 (View.le_trans (View.le_trans (View.le_trans hV1 hV2) hV10) hV11) (.cons _ (.cons_cons _ (.cons_cons _ (.cons_cons _ (.cons_cons _ List.Sublist.slnil))))) (OldAll.row (fun _ _ _ _ h => h) (OldAll.box (OldAll.box (OldAll.box OldAll.nil))))) (by kernel_rfl) (fun _ _ => by kernel_rfl) ?_
          refine TA.take 17 (.bool (r7.2.1 == (s5.size : Int))) rfl (by kernel_rfl) (by kernel_rfl) (by kernel_rfl) (fun _ _ _ h => h) (Hp.old hV13 (View.le_trans (View.le_trans (View.le_trans hV1 hV2) hV10) hV11) (.cons _ (.cons_cons _ (.cons_cons _ (.cons_cons _ (.cons_cons _ List.Sublist.slnil))))) (OldAll.row (fun _ _ _ _ h => h) (OldAll.box (OldAll.box (OldAll.box OldAll.nil))))) (by kernel_rfl) (fun _ _ => by kernel_rfl) ?_
          refine TA.take 18 (.bool (r7.2.1 == (s5.size : Int))) rfl (by kernel_rfl) (by kernel_rfl) (by kernel_rfl) (fun _ _ _ h => h) (Hp.old hV13 (View.le_trans (View.le_trans (View.le_trans hV1 hV2) hV10) hV11) (.cons _ (.cons_cons _ (.cons_cons _ (.cons_cons _ (.cons_cons _ List.Sublist.slnil))))) (OldAll.row (fun _ _ _ _ h => h) (OldAll.box (OldAll.box (OldAll.box OldAll.nil))))) (by kernel_rfl) (fun _ _ => by kernel_rfl) ?_
          refine TA.take 19 (.bool (r7.2.1 == (s5.size : Int))) rfl (by kernel_rfl) (by kernel_rfl) (by kernel_rfl) (fun _ _ _ h => h) (Hp.old hV13 (View.le_trans (View.le_trans (View.le_trans hV1 hV2) hV10) hV11) (.cons _ (.cons_cons _ (.cons_cons _ (.cons_cons _ (.cons_cons _ List.Sublist.slnil))))) (OldAll.row (fun _ _ _ _ h => h) (OldAll.box (OldAll.box (OldAll.box OldAll.nil))))) (by kernel_rfl) (fun _ _ => by kernel_rfl) ?_
          refine TA.done (by kernel_rfl) ?_
          cases hX5
          exact fun a w' hf hh => Exists.intro V13 (And.intro hV13 (And.intro (((((((Fr.nil hf).pick hf 40 rfl).pick hf 7 rfl).pick hf 5 rfl).pick hf 4 rfl).pick hf 2 rfl).pick hf 0 rfl) (hh.sub (.cons _ (.cons_cons _ (.cons_cons _ (.cons_cons _ (.cons_cons _ List.Sublist.slnil))))))))
       ·
        rintro a w' ⟨V12, hV12, hf, hh⟩
        refine (?_ : T 71 w V12 [row 30 eElem A1 c1 x1, box b6 58 [.int .i64 z1, .int .i64 z2, .int .i64 z3, .slice A1 x1.length c1], box b2 74 [.int .i64 r7.1.kind, .string r7.1.body], box b1 58 [.int .i64 0, .int .i64 0, .int .i64 0, .slice none 0 0]] [(0, .string s5), (2, .pointer (some ⟨b1, 0, none⟩)), (4, .pointer (some ⟨b2, 0, none⟩)), (5, .int .i64 r7.2.1), (7, .pointer (some ⟨b6, 0, none⟩)), (40, .bool z8)] _) a w' hf hh
        clear hf hh
        refine T.cond z8 (by kernel_rfl) (by kernel_rfl) (fun hc5 => ?_) (fun hc5 => ?_)
        ·
         rw [hc5, cond_true] at hY1
         refine T.seq ?_
         refine T.region ?_
         refine T.look (.agg #[.int .i64 z1, .int .i64 z2, .int .i64 z3, .slice A1 x1.length c1]) (by kernel_rfl) (fun w' hh => exec_loadN (cs := [.int .i64 z1, .int .i64 z2, .int .i64 z3, .slice A1 x1.length c1]) rfl rfl (by kernel_rfl) (by kernel_rfl) (fun j u hj => (hh.box_at (i := 1) (cs := [.int .i64 z1, .int .i64 z2, .int .i64 z3, .slice A1 x1.length c1]) (by rfl) 0 j).trans (seg_at (n := 4) (by rfl) hj))) ?_
         refine T.step (W1.store 3 [.int .i64 z1, .int .i64 z2, .int .i64 z3, .slice A1 x1.length c1] [row 30 eElem A1 c1 x1, box b6 58 [.int .i64 z1, .int .i64 z2, .int .i64 z3, .slice A1 x1.length c1], box b2 74 [.int .i64 r7.1.kind, .string r7.1.body], box b1 58 [.int .i64 z1, .int .i64 z2, .int .i64 z3, .slice A1 x1.length c1]] (by rfl) rfl (by kernel_rfl) (fun w' hw => exec_store (vs := [.int .i64 z1, .int .i64 z2, .int .i64 z3, .slice A1 x1.length c1]) rfl rfl rfl rfl (by kernel_rfl) (one_of rfl) (by simp) rfl hw) ?_)
         refine T.pure (.int .i64 0) (by kernel_rfl) (fun _ => by kernel_rfl) ?_
         refine T.nil ?_
         cases hY1
         cases (hr1 _ rfl)
         try dsimp only at hF
         cases hF
         refine T.ret rfl ?_
         exact T.ret2 rfl (ResIs.cellN 3 rfl (by rfl) (fun _ => by kernel_rfl) (fun _ => by kernel_rfl)) (ResIs.tmp rfl) fun w' hh => ⟨_, rfl, hh.below, (vT2.mk (vAg.mk ⟨_, _, rfl, (hh.row_fresh (i := 0) (by rfl) (fun _ h => h))⟩) (show _ from rfl))⟩
        ·
         rw [hc5, cond_false] at hY1
         obtain ⟨q3, hX6, hY1⟩ := Option.bind_eq_some_iff.1 hY1
         refine T.cut (fun a w' => ∃ (z9 : List DElem) (z10 : Bool), q3 = (z9, z10) ∧ ∃ (A2 : Option Addr) (c2 : Nat) (V14 : View), View.le V12 V14 ∧ Fr 71 [(0, .string s5), (2, .pointer (some ⟨b1, 0, none⟩)), (4, .pointer (some ⟨b2, 0, none⟩)), (5, .int .i64 r7.2.1), (7, .pointer (some ⟨b6, 0, none⟩)), (61, .bool z10)] a ∧ Hp w V14 [row 30 eElem A2 c2 z9, box b6 58 [.int .i64 z1, .int .i64 z2, .int .i64 z3, .slice A2 z9.length c2], box b2 74 [.int .i64 r7.1.kind, .string r7.1.body], box b1 58 [.int .i64 0, .int .i64 0, .int .i64 0, .slice none 0 0]] w') ?_ ?_
         ·
          refine T.region ?_
          refine T.pure (.pointer (some ⟨b2, 0, none⟩)) (by kernel_rfl) (fun _ => by kernel_rfl) ?_
          refine T.look (.int .i64 r7.1.kind) (by kernel_rfl) (fun w' hh => exec_load1 rfl rfl (by kernel_rfl) (hh.cellBox (i := 2) (by rfl) 0)) ?_
          refine T.pure (.bool (r7.1.kind != 2)) (by kernel_rfl) (fun _ => by kernel_rfl) ?_
          refine T.pure (.bool (r7.1.kind != 2)) (by kernel_rfl) (fun _ => by kernel_rfl) ?_
          cases hg4 : (r7.1.kind != 2)
          ·
           skip
           rw [hg4, cond_false] at hX6
           refine T.look (.agg #[.int .i64 r7.1.kind, .string r7.1.body]) (by kernel_rfl) (fun w' hh => exec_loadN (cs := [.int .i64 r7.1.kind, .string r7.1.body]) rfl rfl (by kernel_rfl) (by kernel_rfl) (fun j u hj => (hh.box_at (i := 2) (cs := [.int .i64 r7.1.kind, .string r7.1.body]) (by rfl) 0 j).trans (seg_at (n := 2) (by rfl) hj))) ?_
           obtain ⟨q4, hX7, hX6⟩ := Option.bind_eq_some_iff.1 hX6
           refine T.step (W1.within 38 [.pointer (some ⟨b6, 0, none⟩), .agg #[.int .i64 r7.1.kind, .string r7.1.body]] (fun v w' => ∃ (z11 : List DElem) (z12 : Bool), q4 = (z11, z12) ∧ ∃ (A3 : Option Addr) (c3 : Nat) (V15 : View), View.le V12 V15 ∧ v = .bool z12 ∧ Hp w V15 [row 30 eElem A3 c3 z11, box b6 58 [.int .i64 z1, .int .i64 z2, .int .i64 z3, .slice A3 z11.length c3], box b2 74 [.int .i64 r7.1.kind, .string r7.1.body], box b1 58 [.int .i64 0, .int .i64 0, .int .i64 0, .slice none 0 0]] w') Try.func38 rfl rfl (by kernel_rfl) (fun _ => by kernel_rfl) rfl ?_ ?_)
           ·
            refine T.seq ?_
            refine T.region ?_
            refine T.step (W1.new 74 [.int .i64 r7.1.kind, .string r7.1.body] (fun b => .pointer (some ⟨b, 0, none⟩)) (by kernel_rfl) (fun _ => by kernel_rfl) (fun b8 => ?_))
            refine T.pure (.bool false) (by kernel_rfl) (fun _ => by kernel_rfl) ?_
            refine T.nil ?_
            refine T.seq ?_
            refine T.region ?_
            refine T.pure (.pointer (some ⟨b8, 1, none⟩)) (by kernel_rfl) (fun _ => by kernel_rfl) ?_
            refine T.look (.string r7.1.body) (by kernel_rfl) (fun w' hh => exec_load1 rfl rfl (by kernel_rfl) (hh.cellBox (i := 0) (by rfl) 1)) ?_
            obtain ⟨r9, hb12, hX7⟩ := Option.bind_eq_some_iff.1 hX7
            refine T.step (W1.call (vT3 (vAg eElem) (vSc eInt) (vSc eInt)) r9 50 #[.string r7.1.body] (by kernel_rfl) (fun _ => by kernel_rfl) (fun w' hh => code_Get_l F r7.1.body r9 hb12 w' ) ?_)
            intro u V16 hV16 hu
            obtain rfl := (Sure.t3 sureElem sureInt sureInt) _ _ _ hu
            refine T.pure (.tuple #[.agg #[.int .i64 r9.1.key.pfs, .int .i64 r9.1.key.obj, .int .i64 r9.1.key.off, .int .i64 r9.1.made, .int .i64 r9.1.gone, .string r9.1.val], .int .i64 r9.2.1, .int .i64 r9.2.2]) (by kernel_rfl) (fun _ => by kernel_rfl) ?_
            refine T.pure (.agg #[.int .i64 r9.1.key.pfs, .int .i64 r9.1.key.obj, .int .i64 r9.1.key.off, .int .i64 r9.1.made, .int .i64 r9.1.gone, .string r9.1.val]) (by kernel_rfl) (fun _ => by kernel_rfl) ?_
            refine T.pure (.int .i64 r9.2.1) (by kernel_rfl) (fun _ => by kernel_rfl) ?_
            refine T.pure (.int .i64 r9.2.2) (by kernel_rfl) (fun _ => by kernel_rfl) ?_
            refine T.step (W1.new 30 [.int .i64 0, .int .i64 0, .int .i64 0, .int .i64 0, .int .i64 0, .string (ByteArray.mk #[])] (fun b => .pointer (some ⟨b, 0, none⟩)) (by kernel_rfl) (fun _ => by kernel_rfl) (fun b9 => ?_))
            refine T.step (W1.store 0 [.int .i64 r9.1.key.pfs, .int .i64 r9.1.key.obj, .int .i64 r9.1.key.off, .int .i64 r9.1.made, .int .i64 r9.1.gone, .string r9.1.val] [box b9 30 [.int .i64 r9.1.key.pfs, .int .i64 r9.1.key.obj, .int .i64 r9.1.key.off, .int .i64 r9.1.made, .int .i64 r9.1.gone, .string r9.1.val], box b8 74 [.int .i64 r7.1.kind, .string r7.1.body], row 30 eElem A1 c1 x1, box b6 58 [.int .i64 z1, .int .i64 z2, .int .i64 z3, .slice A1 x1.length c1], box b2 74 [.int .i64 r7.1.kind, .string r7.1.body], box b1 58 [.int .i64 0, .int .i64 0, .int .i64 0, .slice none 0 0]] (by rfl) rfl (by kernel_rfl) (fun w' hw => exec_store (vs := [.int .i64 r9.1.key.pfs, .int .i64 r9.1.key.obj, .int .i64 r9.1.key.off, .int .i64 r9.1.made, .int .i64 r9.1.gone, .string r9.1.val]) rfl rfl rfl rfl (by kernel_rfl) (one_of rfl) (by simp) rfl hw) ?_)
            refine T.pure (.int .i64 r9.2.1) (by kernel_rfl) (fun _ => by kernel_rfl) ?_
            refine T.pure (.int .i64 r9.2.2) (by kernel_rfl) (fun _ => by kernel_rfl) ?_
            refine T.nil ?_
            refine T.seq ?_
            obtain ⟨z13, hX8, hX7⟩ := Option.bind_eq_some_iff.1 hX7
            refine T.cut (fun a w' => Fr 85 [(0, .pointer (some ⟨b6, 0, none⟩)), (5, .pointer (some ⟨b9, 0, none⟩)), (52, .bool z13)] a ∧ Hp w V16 [box b9 30 [.int .i64 r9.1.key.pfs, .int .i64 r9.1.key.obj, .int .i64 r9.1.key.off, .int .i64 r9.1.made, .int .i64 r9.1.gone, .string r9.1.val], row 30 eElem A1 c1 x1, box b6 58 [.int .i64 z1, .int .i64 z2, .int .i64 z3, .slice A1 x1.length c1], box b2 74 [.int .i64 r7.1.kind, .string r7.1.body], box b1 58 [.int .i64 0, .int .i64 0, .int .i64 0, .slice none 0 0]] w') ?_ ?_
            ·
             refine T.quiet (by kernel_rfl) (by kernel_rfl) ?_
             refine TQ.pure (.int .i64 r9.2.2) (by kernel_rfl) (fun _ => by kernel_rfl) ?_
             refine TQ.pure (.bool (r9.2.2 != 0)) (by kernel_rfl) (fun _ => by kernel_rfl) ?_
             refine TQ.pure (.bool (r9.2.2 != 0)) (by kernel_rfl) (fun _ => by kernel_rfl) ?_
             cases hg5 : (r9.2.2 != 0)
             ·
              skip
              rw [hg5, cond_false] at hX8
              refine TQ.pure (.int .i64 r9.2.1) (by kernel_rfl) (fun _ => by kernel_rfl) ?_
              refine TQ.pure (.pointer (some ⟨b8, 1, none⟩)) (by kernel_rfl) (fun _ => by kernel_rfl) ?_
              refine TQ.look (.string r7.1.body) (by kernel_rfl) (fun w' hh => exec_load1 rfl rfl (by kernel_rfl) (hh.cellBox (i := 1) (by rfl) 1)) ?_
              refine TQ.pure (.int .i64 (r7.1.body.size : Int)) (by kernel_rfl) (fun _ => by kernel_rfl) ?_
              refine TQ.pure (.bool (r9.2.1 != (r7.1.body.size : Int))) (by kernel_rfl) (fun _ => by kernel_rfl) ?_
              refine TQ.pure (.bool (r9.2.1 != (r7.1.body.size : Int))) (by kernel_rfl) (fun _ => by kernel_rfl) ?_
              refine TQ.pure (.bool (r9.2.1 != (r7.1.body.size : Int))) (by kernel_rfl) (fun _ => by kernel_rfl) ?_
              cases hg6 : (r9.2.1 != (r7.1.body.size : Int))
              ·
               skip
               rw [hg6, cond_false] at hX8
               refine TQ.pure (.pointer (some ⟨b9, 0, none⟩)) (by kernel_rfl) (fun _ => by kernel_rfl) ?_
               refine TQ.pure (.pointer (some ⟨b9, 0, none⟩)) (by kernel_rfl) (fun _ => by kernel_rfl) ?_
               refine TQ.look (.int .i64 r9.1.key.pfs) (by kernel_rfl) (fun w' hh => exec_load1 rfl rfl (by kernel_rfl) (hh.cellBox (i := 0) (by rfl) 0)) ?_
               refine TQ.pure (.pointer (some ⟨b6, 0, none⟩)) (by kernel_rfl) (fun _ => by kernel_rfl) ?_
               refine TQ.pure (.pointer (some ⟨b6, 0, none⟩)) (by kernel_rfl) (fun _ => by kernel_rfl) ?_
               refine TQ.pure (.pointer (some ⟨b6, 0, none⟩)) (by kernel_rfl) (fun _ => by kernel_rfl) ?_
               refine TQ.look (.int .i64 z1) (by kernel_rfl) (fun w' hh => exec_load1 rfl rfl (by kernel_rfl) (hh.cellBox (i := 3) (by rfl) 0)) ?_
               refine TQ.pure (.bool (r9.1.key.pfs != z1)) (by kernel_rfl) (fun _ => by kernel_rfl) ?_
               refine TQ.pure (.bool (r9.1.key.pfs != z1)) (by kernel_rfl) (fun _ => by kernel_rfl) ?_
               refine TQ.pure (.bool (r9.1.key.pfs != z1)) (by kernel_rfl) (fun _ => by kernel_rfl) ?_
               cases hg7 : (r9.1.key.pfs != z1)
               ·
                skip
                rw [hg7, cond_false] at hX8
                refine TQ.look (.agg #[.int .i64 r9.1.key.pfs, .int .i64 r9.1.key.obj, .int .i64 r9.1.key.off, .int .i64 r9.1.made, .int .i64 r9.1.gone, .string r9.1.val]) (by kernel_rfl) (fun w' hh => exec_loadN (cs := [.int .i64 r9.1.key.pfs, .int .i64 r9.1.key.obj, .int .i64 r9.1.key.off, .int .i64 r9.1.made, .int .i64 r9.1.gone, .string r9.1.val]) rfl rfl (by kernel_rfl) (by kernel_rfl) (fun j u hj => (hh.box_at (i := 0) (cs := [.int .i64 r9.1.key.pfs, .int .i64 r9.1.key.obj, .int .i64 r9.1.key.off, .int .i64 r9.1.made, .int .i64 r9.1.gone, .string r9.1.val]) (by rfl) 0 j).trans (seg_at (n := 6) (by rfl) hj))) ?_
                obtain ⟨r10, hb13, hX8⟩ := Option.bind_eq_some_iff.1 hX8
                refine TQ.call (vSc eInt) r10 34 #[.agg #[.int .i64 r9.1.key.pfs, .int .i64 r9.1.key.obj, .int .i64 r9.1.key.off, .int .i64 r9.1.made, .int .i64 r9.1.gone, .string r9.1.val]] (.int .i64 r10) (fun V u hu => sureInt V u _ hu) (by kernel_rfl) (fun _ => by kernel_rfl) (fun w' hh => elem_Last_l r9.1 r10 hb13 w' ) ?_
                refine TQ.pure (.pointer (some ⟨b6, 0, none⟩)) (by kernel_rfl) (fun _ => by kernel_rfl) ?_
                refine TQ.pure (.pointer (some ⟨b6, 0, none⟩)) (by kernel_rfl) (fun _ => by kernel_rfl) ?_
                refine TQ.pure (.pointer (some ⟨b6, 1, none⟩)) (by kernel_rfl) (fun _ => by kernel_rfl) ?_
                refine TQ.look (.int .i64 z2) (by kernel_rfl) (fun w' hh => exec_load1 rfl rfl (by kernel_rfl) (hh.cellBox (i := 3) (by rfl) 1)) ?_
                refine TQ.pure (.bool (decide (r10 ≤ z2))) (by kernel_rfl) (fun _ => by kernel_rfl) ?_
                refine TQ.pure (.bool (decide (r10 ≤ z2))) (by kernel_rfl) (fun _ => by kernel_rfl) ?_
                refine TQ.pure (.bool (decide (r10 ≤ z2))) (by kernel_rfl) (fun _ => by kernel_rfl) ?_
                cases hg8 : decide (r10 ≤ z2)
                ·
                 skip
                 rw [hg8, cond_false] at hX8
                 refine TQ.look (.agg #[.int .i64 r9.1.key.pfs, .int .i64 r9.1.key.obj, .int .i64 r9.1.key.off, .int .i64 r9.1.made, .int .i64 r9.1.gone, .string r9.1.val]) (by kernel_rfl) (fun w' hh => exec_loadN (cs := [.int .i64 r9.1.key.pfs, .int .i64 r9.1.key.obj, .int .i64 r9.1.key.off, .int .i64 r9.1.made, .int .i64 r9.1.gone, .string r9.1.val]) rfl rfl (by kernel_rfl) (by kernel_rfl) (fun j u hj => (hh.box_at (i := 0) (cs := [.int .i64 r9.1.key.pfs, .int .i64 r9.1.key.obj, .int .i64 r9.1.key.off, .int .i64 r9.1.made, .int .i64 r9.1.gone, .string r9.1.val]) (by rfl) 0 j).trans (seg_at (n := 6) (by rfl) hj))) ?_
                 obtain ⟨r11, hb14, hX8⟩ := Option.bind_eq_some_iff.1 hX8
                 refine TQ.call (vSc eInt) r11 34 #[.agg #[.int .i64 r9.1.key.pfs, .int .i64 r9.1.key.obj, .int .i64 r9.1.key.off, .int .i64 r9.1.made, .int .i64 r9.1.gone, .string r9.1.val]] (.int .i64 r11) (fun V u hu => sureInt V u _ hu) (by kernel_rfl) (fun _ => by kernel_rfl) (fun w' hh => elem_Last_l r9.1 r11 hb14 w' ) ?_
                 refine TQ.pure (.pointer (some ⟨b6, 0, none⟩)) (by kernel_rfl) (fun _ => by kernel_rfl) ?_
                 refine TQ.pure (.pointer (some ⟨b6, 0, none⟩)) (by kernel_rfl) (fun _ => by kernel_rfl) ?_
                 refine TQ.pure (.pointer (some ⟨b6, 2, none⟩)) (by kernel_rfl) (fun _ => by kernel_rfl) ?_
                 refine TQ.look (.int .i64 z3) (by kernel_rfl) (fun w' hh => exec_load1 rfl rfl (by kernel_rfl) (hh.cellBox (i := 3) (by rfl) 2)) ?_
                 refine TQ.pure (.bool (decide (z3 < r11))) (by kernel_rfl) (fun _ => by kernel_rfl) ?_
                 refine TQ.pure (.bool (decide (z3 < r11))) (by kernel_rfl) (fun _ => by kernel_rfl) ?_
                 refine TQ.nil ?_
                 cases hX8
                 exact fun a w' hf hh => And.intro ((((Fr.nil hf).pick hf 52 rfl).pick hf 5 rfl).pick hf 0 rfl) (hh.sub (.cons_cons _ (.cons _ (.cons_cons _ (.cons_cons _ (.cons_cons _ (.cons_cons _ List.Sublist.slnil)))))))
                ·
                 skip
                 rw [hg8, cond_true] at hX8
                 refine TQ.pass (by kernel_rfl) (by kernel_rfl) ?_
                 refine TQ.pass (by kernel_rfl) (by kernel_rfl) ?_
                 refine TQ.pass (by kernel_rfl) (by kernel_rfl) ?_
                 refine TQ.pass (by kernel_rfl) (by kernel_rfl) ?_
                 refine TQ.pass (by kernel_rfl) (by kernel_rfl) ?_
                 refine TQ.pass (by kernel_rfl) (by kernel_rfl) ?_
                 refine TQ.pass (by kernel_rfl) (by kernel_rfl) ?_
                 refine TQ.pure (.bool true) (by kernel_rfl) (fun _ => by kernel_rfl) ?_
                 refine TQ.nil ?_
                 cases hX8
                 exact fun a w' hf hh => And.intro ((((Fr.nil hf).pick hf 52 rfl).pick hf 5 rfl).pick hf 0 rfl) (hh.sub (.cons_cons _ (.cons _ (.cons_cons _ (.cons_cons _ (.cons_cons _ (.cons_cons _ List.Sublist.slnil)))))))
               ·
                skip
                rw [hg7, cond_true] at hX8
                refine TQ.pass (by kernel_rfl) (by kernel_rfl) ?_
                refine TQ.pass (by kernel_rfl) (by kernel_rfl) ?_
                refine TQ.pass (by kernel_rfl) (by kernel_rfl) ?_
                refine TQ.pass (by kernel_rfl) (by kernel_rfl) ?_
                refine TQ.pass (by kernel_rfl) (by kernel_rfl) ?_
                refine TQ.pass (by kernel_rfl) (by kernel_rfl) ?_
                refine TQ.pass (by kernel_rfl) (by kernel_rfl) ?_
                refine TQ.pure (.bool true) (by kernel_rfl) (fun _ => by kernel_rfl) ?_
                refine TQ.pure (.bool true) (by kernel_rfl) (fun _ => by kernel_rfl) ?_
                refine TQ.pass (by kernel_rfl) (by kernel_rfl) ?_
                refine TQ.pass (by kernel_rfl) (by kernel_rfl) ?_
                refine TQ.pass (by kernel_rfl) (by kernel_rfl) ?_
                refine TQ.pass (by kernel_rfl) (by kernel_rfl) ?_
                refine TQ.pass (by kernel_rfl) (by kernel_rfl) ?_
                refine TQ.pass (by kernel_rfl) (by kernel_rfl) ?_
                refine TQ.pass (by kernel_rfl) (by kernel_rfl) ?_
                refine TQ.pure (.bool true) (by kernel_rfl) (fun _ => by kernel_rfl) ?_
                refine TQ.nil ?_
                cases hX8
                exact fun a w' hf hh => And.intro ((((Fr.nil hf).pick hf 52 rfl).pick hf 5 rfl).pick hf 0 rfl) (hh.sub (.cons_cons _ (.cons _ (.cons_cons _ (.cons_cons _ (.cons_cons _ (.cons_cons _ List.Sublist.slnil)))))))
              ·
               skip
               rw [hg6, cond_true] at hX8
               refine TQ.pass (by kernel_rfl) (by kernel_rfl) ?_
               refine TQ.pass (by kernel_rfl) (by kernel_rfl) ?_
               refine TQ.pass (by kernel_rfl) (by kernel_rfl) ?_
               refine TQ.pass (by kernel_rfl) (by kernel_rfl) ?_
               refine TQ.pass (by kernel_rfl) (by kernel_rfl) ?_
               refine TQ.pass (by kernel_rfl) (by kernel_rfl) ?_
               refine TQ.pass (by kernel_rfl) (by kernel_rfl) ?_
               refine TQ.pass (by kernel_rfl) (by kernel_rfl) ?_
               refine TQ.pure (.bool true) (by kernel_rfl) (fun _ => by kernel_rfl) ?_
               refine TQ.pure (.bool true) (by kernel_rfl) (fun _ => by kernel_rfl) ?_
               refine TQ.pass (by kernel_rfl) (by kernel_rfl) ?_
               refine TQ.pass (by kernel_rfl) (by kernel_rfl) ?_
               refine TQ.pass (by kernel_rfl) (by kernel_rfl) ?_
               refine TQ.pass (by kernel_rfl) (by kernel_rfl) ?_
               refine TQ.pass (by kernel_rfl) (by kernel_rfl) ?_
               refine TQ.pass (by kernel_rfl) (by kernel_rfl) ?_
               refine TQ.pass (by kernel_rfl) (by kernel_rfl) ?_
               refine TQ.pure (.bool true) (by kernel_rfl) (fun _ => by kernel_rfl) ?_
               refine TQ.pure (.bool true) (by kernel_rfl) (fun _ => by kernel_rfl) ?_
               refine TQ.pass (by kernel_rfl) (by kernel_rfl) ?_
               refine TQ.pass (by kernel_rfl) (by kernel_rfl) ?_
               refine TQ.pass (by kernel_rfl) (by kernel_rfl) ?_
               refine TQ.pass (by kernel_rfl) (by kernel_rfl) ?_
               refine TQ.pass (by kernel_rfl) (by kernel_rfl) ?_
               refine TQ.pass (by kernel_rfl) (by kernel_rfl) ?_
               refine TQ.pass (by kernel_rfl) (by kernel_rfl) ?_
               refine TQ.pure (.bool true) (by kernel_rfl) (fun _ => by kernel_rfl) ?_
               refine TQ.nil ?_
               cases hX8
               exact fun a w' hf hh => And.intro ((((Fr.nil hf).pick hf 52 rfl).pick hf 5 rfl).pick hf 0 rfl) (hh.sub (.cons_cons _ (.cons _ (.cons_cons _ (.cons_cons _ (.cons_cons _ (.cons_cons _ List.Sublist.slnil)))))))
             ·
              skip
              rw [hg5, cond_true] at hX8
              refine TQ.pass (by kernel_rfl) (by kernel_rfl) ?_
              refine TQ.pass (by kernel_rfl) (by kernel_rfl) ?_
              refine TQ.pass (by kernel_rfl) (by kernel_rfl) ?_
              refine TQ.pass (by kernel_rfl) (by kernel_rfl) ?_
              refine TQ.pass (by kernel_rfl) (by kernel_rfl) ?_
              refine TQ.pure (.bool true) (by kernel_rfl) (fun _ => by kernel_rfl) ?_
              refine TQ.pure (.bool true) (by kernel_rfl) (fun _ => by kernel_rfl) ?_
              refine TQ.pass (by kernel_rfl) (by kernel_rfl) ?_
              refine TQ.pass (by kernel_rfl) (by kernel_rfl) ?_
              refine TQ.pass (by kernel_rfl) (by kernel_rfl) ?_
              refine TQ.pass (by kernel_rfl) (by kernel_rfl) ?_
              refine TQ.pass (by kernel_rfl) (by kernel_rfl) ?_
              refine TQ.pass (by kernel_rfl) (by kernel_rfl) ?_
              refine TQ.pass (by kernel_rfl) (by kernel_rfl) ?_
              refine TQ.pass (by kernel_rfl) (by kernel_rfl) ?_
              refine TQ.pure (.bool true) (by kernel_rfl) (fun _ => by kernel_rfl) ?_
              refine TQ.pure (.bool true) (by kernel_rfl) (fun _ => by kernel_rfl) ?_
              refine TQ.pass (by kernel_rfl) (by kernel_rfl) ?_
              refine TQ.pass (by kernel_rfl) (by kernel_rfl) ?_
              refine TQ.pass (by kernel_rfl) (by kernel_rfl) ?_
              refine TQ.pass (by kernel_rfl) (by kernel_rfl) ?_
              refine TQ.pass (by kernel_rfl) (by kernel_rfl) ?_
              refine TQ.pass (by kernel_rfl) (by kernel_rfl) ?_
              refine TQ.pass (by kernel_rfl) (by kernel_rfl) ?_
              refine TQ.pure (.bool true) (by kernel_rfl) (fun _ => by kernel_rfl) ?_
              refine TQ.pure (.bool true) (by kernel_rfl) (fun _ => by kernel_rfl) ?_
              refine TQ.pass (by kernel_rfl) (by kernel_rfl) ?_
              refine TQ.pass (by kernel_rfl) (by kernel_rfl) ?_
              refine TQ.pass (by kernel_rfl) (by kernel_rfl) ?_
              refine TQ.pass (by kernel_rfl) (by kernel_rfl) ?_
              refine TQ.pass (by kernel_rfl) (by kernel_rfl) ?_
              refine TQ.pass (by kernel_rfl) (by kernel_rfl) ?_
              refine TQ.pass (by kernel_rfl) (by kernel_rfl) ?_
              refine TQ.pure (.bool true) (by kernel_rfl) (fun _ => by kernel_rfl) ?_
              refine TQ.nil ?_
              cases hX8
              exact fun a w' hf hh => And.intro ((((Fr.nil hf).pick hf 52 rfl).pick hf 5 rfl).pick hf 0 rfl) (hh.sub (.cons_cons _ (.cons _ (.cons_cons _ (.cons_cons _ (.cons_cons _ (.cons_cons _ List.Sublist.slnil)))))))
            ·
             rintro a w' ⟨hf, hh⟩
             refine (?_ : T 85 w V16 [box b9 30 [.int .i64 r9.1.key.pfs, .int .i64 r9.1.key.obj, .int .i64 r9.1.key.off, .int .i64 r9.1.made, .int .i64 r9.1.gone, .string r9.1.val], row 30 eElem A1 c1 x1, box b6 58 [.int .i64 z1, .int .i64 z2, .int .i64 z3, .slice A1 x1.length c1], box b2 74 [.int .i64 r7.1.kind, .string r7.1.body], box b1 58 [.int .i64 0, .int .i64 0, .int .i64 0, .slice none 0 0]] [(0, .pointer (some ⟨b6, 0, none⟩)), (5, .pointer (some ⟨b9, 0, none⟩)), (52, .bool z13)] _) a w' hf hh
             clear hf hh
             refine T.cond z13 (by kernel_rfl) (by kernel_rfl) (fun hc6 => ?_) (fun hc6 => ?_)
             ·
              rw [hc6, cond_true] at hX7
              refine T.seq ?_
              refine T.region ?_
              refine T.pure (.bool false) (by kernel_rfl) (fun _ => by kernel_rfl) ?_
              refine T.nil ?_
              cases hX7
              refine T.ret rfl ?_
              repeat first | refine T.unthen ?_ | refine T.unblock ?_
              exact T.ret1 rfl (ResIs.tmp rfl) fun w' hh => ⟨_, rfl, Exists.intro x1 (Exists.intro false (And.intro rfl (Exists.intro A1 (Exists.intro c1 (Exists.intro V16 (And.intro hV16 (And.intro rfl (hh.sub (.cons _ (.cons_cons _ (.cons_cons _ (.cons_cons _ (.cons_cons _ List.Sublist.slnil)))))))))))))⟩
             ·
              rw [hc6, cond_false] at hX7
              refine T.skip_code ?_
              refine T.seq ?_
              refine T.seq ?_
              refine T.region ?_
              refine T.pure (.pointer (some ⟨b6, 0, none⟩)) (by kernel_rfl) (fun _ => by kernel_rfl) ?_
              refine T.pure (.pointer (some ⟨b6, 0, none⟩)) (by kernel_rfl) (fun _ => by kernel_rfl) ?_
              refine T.pure (.pointer (some ⟨b6, 3, none⟩)) (by kernel_rfl) (fun _ => by kernel_rfl) ?_
              refine T.look (.slice A1 x1.length c1) (by kernel_rfl) (fun w' hh => exec_load1 rfl rfl (by kernel_rfl) (hh.cellBox (i := 2) (by rfl) 3)) ?_
              refine T.pure (.int .i64 (x1.length : Int)) (by kernel_rfl) (fun _ => by kernel_rfl) ?_
              refine T.pure (.int .i64 (x1.length : Int)) (by kernel_rfl) (fun _ => by kernel_rfl) ?_
              refine T.nil ?_
              obtain ⟨z14, hX9, hX7⟩ := Option.bind_eq_some_iff.1 hX7
              refine T.cut (fun a w' => Fr 85 [(0, .pointer (some ⟨b6, 0, none⟩)), (5, .pointer (some ⟨b9, 0, none⟩)), (74, .bool z14)] a ∧ Hp w V16 [box b9 30 [.int .i64 r9.1.key.pfs, .int .i64 r9.1.key.obj, .int .i64 r9.1.key.off, .int .i64 r9.1.made, .int .i64 r9.1.gone, .string r9.1.val], row 30 eElem A1 c1 x1, box b6 58 [.int .i64 z1, .int .i64 z2, .int .i64 z3, .slice A1 x1.length c1], box b2 74 [.int .i64 r7.1.kind, .string r7.1.body], box b1 58 [.int .i64 0, .int .i64 0, .int .i64 0, .slice none 0 0]] w') ?_ ?_
              ·
               refine T.quiet (by kernel_rfl) (by kernel_rfl) ?_
               refine TQ.pure (.int .i64 (x1.length : Int)) (by kernel_rfl) (fun _ => by kernel_rfl) ?_
               refine TQ.pure (.bool (decide ((0 : Int) < (x1.length : Int)))) (by kernel_rfl) (fun _ => by kernel_rfl) ?_
               refine TQ.pure (.bool (decide ((0 : Int) < (x1.length : Int)))) (by kernel_rfl) (fun _ => by kernel_rfl) ?_
               cases hg9 : decide ((0 : Int) < (x1.length : Int))
               ·
                skip
                rw [hg9, cond_false] at hX9
                refine TQ.pass (by kernel_rfl) (by kernel_rfl) ?_
                refine TQ.pass (by kernel_rfl) (by kernel_rfl) ?_
                refine TQ.pass (by kernel_rfl) (by kernel_rfl) ?_
                refine TQ.pass (by kernel_rfl) (by kernel_rfl) ?_
                refine TQ.pass (by kernel_rfl) (by kernel_rfl) ?_
                refine TQ.pass (by kernel_rfl) (by kernel_rfl) ?_
                refine TQ.pass (by kernel_rfl) (by kernel_rfl) ?_
                refine TQ.pass (by kernel_rfl) (by kernel_rfl) ?_
                refine TQ.pass (by kernel_rfl) (by kernel_rfl) ?_
                refine TQ.pass (by kernel_rfl) (by kernel_rfl) ?_
                refine TQ.pass (by kernel_rfl) (by kernel_rfl) ?_
                refine TQ.pass (by kernel_rfl) (by kernel_rfl) ?_
                refine TQ.pass (by kernel_rfl) (by kernel_rfl) ?_
                refine TQ.pure (.bool false) (by kernel_rfl) (fun _ => by kernel_rfl) ?_
                refine TQ.nil ?_
                cases hX9
                exact fun a w' hf hh => And.intro ((((Fr.nil hf).pick hf 74 rfl).pick hf 5 rfl).pick hf 0 rfl) (hh.sub (.cons_cons _ (.cons_cons _ (.cons_cons _ (.cons_cons _ (.cons_cons _ List.Sublist.slnil))))))
               ·
                skip
                rw [hg9, cond_true] at hX9
                refine TQ.pure (.pointer (some ⟨b6, 0, none⟩)) (by kernel_rfl) (fun _ => by kernel_rfl) ?_
                refine TQ.pure (.pointer (some ⟨b6, 0, none⟩)) (by kernel_rfl) (fun _ => by kernel_rfl) ?_
                refine TQ.pure (.pointer (some ⟨b6, 3, none⟩)) (by kernel_rfl) (fun _ => by kernel_rfl) ?_
                refine TQ.look (.slice A1 x1.length c1) (by kernel_rfl) (fun w' hh => exec_load1 rfl rfl (by kernel_rfl) (hh.cellBox (i := 2) (by rfl) 3)) ?_
                refine TQ.pure (.int .i64 (x1.length : Int)) (by kernel_rfl) (fun _ => by kernel_rfl) ?_
                refine TQ.pure (.int .i64 (IntKind.i64.wrap ((x1.length : Int) - 1))) (by kernel_rfl) (fun _ => by kernel_rfl) ?_
                obtain ⟨e1, hb15, hX9⟩ := Option.bind_eq_some_iff.1 hX9
                obtain ⟨hi1, hi2, hi3⟩ := idx_some hb15
                refine TQ.look (.pointer (some ((sadr A1).add (((IntKind.i64.wrap ((x1.length : Int) - 1)).toNat) * 6)))) (by kernel_rfl) (fun w' hh => exec_indexAddr (e := 30) (s := 6) rfl rfl rfl (by kernel_rfl) (by kernel_rfl) hi1 hi2 ((hh.row_slOk (i := 1) (by rfl)).some_ hi3 (by decide))) ?_
                refine TQ.look (.agg #[.int .i64 e1.key.pfs, .int .i64 e1.key.obj, .int .i64 e1.key.off, .int .i64 e1.made, .int .i64 e1.gone, .string e1.val]) (by kernel_rfl) (fun w' hh => exec_loadN (cs := [.int .i64 e1.key.pfs, .int .i64 e1.key.obj, .int .i64 e1.key.off, .int .i64 e1.made, .int .i64 e1.gone, .string e1.val]) rfl rfl (by kernel_rfl) (by kernel_rfl) (fun j u hj => (SlOk.wcellF (E := eElem) (hh.row_slOk (i := 1) (by rfl)) hi3 j (fun _ _ _ h => h) hj))) ?_
                obtain ⟨r12, hb16, hX9⟩ := Option.bind_eq_some_iff.1 hX9
                refine TQ.call (vAg eSpot) r12 41 #[.agg #[.int .i64 e1.key.pfs, .int .i64 e1.key.obj, .int .i64 e1.key.off, .int .i64 e1.made, .int .i64 e1.gone, .string e1.val]] (.agg #[.int .i64 r12.key.pfs, .int .i64 r12.key.obj, .int .i64 r12.key.off, .int .i64 r12.made]) (fun V u hu => sureSpot V u _ hu) (by kernel_rfl) (fun _ => by kernel_rfl) (fun w' hh => elem_Spot_l e1 r12 hb16 w' ) ?_
                refine TQ.look (.agg #[.int .i64 r9.1.key.pfs, .int .i64 r9.1.key.obj, .int .i64 r9.1.key.off, .int .i64 r9.1.made, .int .i64 r9.1.gone, .string r9.1.val]) (by kernel_rfl) (fun w' hh => exec_loadN (cs := [.int .i64 r9.1.key.pfs, .int .i64 r9.1.key.obj, .int .i64 r9.1.key.off, .int .i64 r9.1.made, .int .i64 r9.1.gone, .string r9.1.val]) rfl rfl (by kernel_rfl) (by kernel_rfl) (fun j u hj => (hh.box_at (i := 0) (cs := [.int .i64 r9.1.key.pfs, .int .i64 r9.1.key.obj, .int .i64 r9.1.key.off, .int .i64 r9.1.made, .int .i64 r9.1.gone, .string r9.1.val]) (by rfl) 0 j).trans (seg_at (n := 6) (by rfl) hj))) ?_
                obtain ⟨r13, hb17, hX9⟩ := Option.bind_eq_some_iff.1 hX9
                refine TQ.call (vAg eSpot) r13 41 #[.agg #[.int .i64 r9.1.key.pfs, .int .i64 r9.1.key.obj, .int .i64 r9.1.key.off, .int .i64 r9.1.made, .int .i64 r9.1.gone, .string r9.1.val]] (.agg #[.int .i64 r13.key.pfs, .int .i64 r13.key.obj, .int .i64 r13.key.off, .int .i64 r13.made]) (fun V u hu => sureSpot V u _ hu) (by kernel_rfl) (fun _ => by kernel_rfl) (fun w' hh => elem_Spot_l r9.1 r13 hb17 w' ) ?_
                obtain ⟨r14, hb18, hX9⟩ := Option.bind_eq_some_iff.1 hX9
                refine TQ.call (vSc eInt) r14 40 #[.agg #[.int .i64 r12.key.pfs, .int .i64 r12.key.obj, .int .i64 r12.key.off, .int .i64 r12.made], .agg #[.int .i64 r13.key.pfs, .int .i64 r13.key.obj, .int .i64 r13.key.off, .int .i64 r13.made]] (.int .i64 r14) (fun V u hu => sureInt V u _ hu) (by kernel_rfl) (fun _ => by kernel_rfl) (fun w' hh => key_CmpSpot_l r12 r13 r14 hb18 w' ) ?_
                refine TQ.pure (.bool (decide ((0 : Int) ≤ r14))) (by kernel_rfl) (fun _ => by kernel_rfl) ?_
                refine TQ.pure (.bool (decide ((0 : Int) ≤ r14))) (by kernel_rfl) (fun _ => by kernel_rfl) ?_
                refine TQ.nil ?_
                cases hX9
                exact fun a w' hf hh => And.intro ((((Fr.nil hf).pick hf 74 rfl).pick hf 5 rfl).pick hf 0 rfl) (hh.sub (.cons_cons _ (.cons_cons _ (.cons_cons _ (.cons_cons _ (.cons_cons _ List.Sublist.slnil))))))
              ·
               rintro a w' ⟨hf, hh⟩
               refine (?_ : T 85 w V16 [box b9 30 [.int .i64 r9.1.key.pfs, .int .i64 r9.1.key.obj, .int .i64 r9.1.key.off, .int .i64 r9.1.made, .int .i64 r9.1.gone, .string r9.1.val], row 30 eElem A1 c1 x1, box b6 58 [.int .i64 z1, .int .i64 z2, .int .i64 z3, .slice A1 x1.length c1], box b2 74 [.int .i64 r7.1.kind, .string r7.1.body], box b1 58 [.int .i64 0, .int .i64 0, .int .i64 0, .slice none 0 0]] [(0, .pointer (some ⟨b6, 0, none⟩)), (5, .pointer (some ⟨b9, 0, none⟩)), (74, .bool z14)] _) a w' hf hh
               clear hf hh
               refine T.cond z14 (by kernel_rfl) (by kernel_rfl) (fun hc7 => ?_) (fun hc7 => ?_)
               ·
                rw [hc7, cond_true] at hX7
                refine T.seq ?_
                refine T.region ?_
                refine T.pure (.bool false) (by kernel_rfl) (fun _ => by kernel_rfl) ?_
                refine T.nil ?_
                cases hX7
                refine T.ret rfl ?_
                repeat first | refine T.unthen ?_ | refine T.unblock ?_
                exact T.ret1 rfl (ResIs.tmp rfl) fun w' hh => ⟨_, rfl, Exists.intro x1 (Exists.intro false (And.intro rfl (Exists.intro A1 (Exists.intro c1 (Exists.intro V16 (And.intro hV16 (And.intro rfl (hh.sub (.cons _ (.cons_cons _ (.cons_cons _ (.cons_cons _ (.cons_cons _ List.Sublist.slnil)))))))))))))⟩
               ·
                rw [hc7, cond_false] at hX7
                refine T.skip_code ?_
                refine T.seq ?_
                obtain ⟨y2, hb19, hX7⟩ := Option.bind_eq_some_iff.1 hX7
                refine T.mid (fun a w' => ∃ (A5 : Option Addr) (c5 : Nat), Fr 85 [] a ∧ Hp w V16 [row 30 eElem A5 c5 (x1 ++ [r9.1]), box b6 58 [.int .i64 z1, .int .i64 z2, .int .i64 z3, .slice A5 ((x1 ++ [r9.1]).length) c5], box b2 74 [.int .i64 r7.1.kind, .string r7.1.body], box b1 58 [.int .i64 0, .int .i64 0, .int .i64 0, .slice none 0 0]] w') ?_ ?_
                ·
                 refine T.held [box b9 30 [.int .i64 r9.1.key.pfs, .int .i64 r9.1.key.obj, .int .i64 r9.1.key.off, .int .i64 r9.1.made, .int .i64 r9.1.gone, .string r9.1.val], box b2 74 [.int .i64 r7.1.kind, .string r7.1.body], box b1 58 [.int .i64 0, .int .i64 0, .int .i64 0, .slice none 0 0]] (by kernel_rfl) ?_
                 refine TA.take 0 (.pointer (some ⟨b6, 0, none⟩)) rfl (by kernel_rfl) (by kernel_rfl) (by kernel_rfl) (fun _ _ _ h => h) (Hp.old (View.le_refl _) (View.le_trans (View.le_trans (View.le_trans (View.le_trans (View.le_trans hV1 hV2) hV10) hV11) hV12) hV16) (.cons_cons _ (.cons _ (.cons _ (.cons_cons _ (.cons_cons _ List.Sublist.slnil))))) (OldAll.box (OldAll.box (OldAll.box OldAll.nil)))) (by kernel_rfl) (fun _ _ => by kernel_rfl) ?_
                 refine TA.take 1 (.pointer (some ⟨b6, 0, none⟩)) rfl (by kernel_rfl) (by kernel_rfl) (by kernel_rfl) (fun _ _ _ h => h) (Hp.old (View.le_refl _) (View.le_trans (View.le_trans (View.le_trans (View.le_trans (View.le_trans hV1 hV2) hV10) hV11) hV12) hV16) (.cons_cons _ (.cons _ (.cons _ (.cons_cons _ (.cons_cons _ List.Sublist.slnil))))) (OldAll.box (OldAll.box (OldAll.box OldAll.nil)))) (by kernel_rfl) (fun _ _ => by kernel_rfl) ?_
                 refine TA.take 2 (.pointer (some ⟨b6, 0, none⟩)) rfl (by kernel_rfl) (by kernel_rfl) (by kernel_rfl) (fun _ _ _ h => h) (Hp.old (View.le_refl _) (View.le_trans (View.le_trans (View.le_trans (View.le_trans (View.le_trans hV1 hV2) hV10) hV11) hV12) hV16) (.cons_cons _ (.cons _ (.cons _ (.cons_cons _ (.cons_cons _ List.Sublist.slnil))))) (OldAll.box (OldAll.box (OldAll.box OldAll.nil)))) (by kernel_rfl) (fun _ _ => by kernel_rfl) ?_
                 refine TA.take 3 (.pointer (some ⟨b6, 3, none⟩)) rfl (by kernel_rfl) (by kernel_rfl) (by kernel_rfl) (fun _ _ _ h => h) (Hp.old (View.le_refl _) (View.le_trans (View.le_trans (View.le_trans (View.le_trans (View.le_trans hV1 hV2) hV10) hV11) hV12) hV16) (.cons_cons _ (.cons _ (.cons _ (.cons_cons _ (.cons_cons _ List.Sublist.slnil))))) (OldAll.box (OldAll.box (OldAll.box OldAll.nil)))) (by kernel_rfl) (fun _ _ => by kernel_rfl) ?_
                 refine TA.take 5 (.agg #[.int .i64 r9.1.key.pfs, .int .i64 r9.1.key.obj, .int .i64 r9.1.key.off, .int .i64 r9.1.made, .int .i64 r9.1.gone, .string r9.1.val]) rfl (by kernel_rfl) (by kernel_rfl) (by kernel_rfl) (fun _ _ _ h => h) (Hp.old (View.le_refl _) (View.le_trans (View.le_trans (View.le_trans (View.le_trans (View.le_trans hV1 hV2) hV10) hV11) hV12) hV16) (.cons_cons _ (.cons _ (.cons _ (.cons_cons _ (.cons_cons _ List.Sublist.slnil))))) (OldAll.box (OldAll.box (OldAll.box OldAll.nil)))) (by kernel_rfl) (fun w' hh => exec_loadN (cs := [.int .i64 r9.1.key.pfs, .int .i64 r9.1.key.obj, .int .i64 r9.1.key.off, .int .i64 r9.1.made, .int .i64 r9.1.gone, .string r9.1.val]) rfl rfl (by kernel_rfl) (by kernel_rfl) (fun j u hj => (hh.box_at (i := 0) (cs := [.int .i64 r9.1.key.pfs, .int .i64 r9.1.key.obj, .int .i64 r9.1.key.off, .int .i64 r9.1.made, .int .i64 r9.1.gone, .string r9.1.val]) (by rfl) 0 j).trans (seg_at (n := 6) (by rfl) hj))) ?_
                 refine TA.all [4, 6] (by kernel_rfl) rfl ⟨?_, ?_, trivial⟩
                 ·
                  refine TA.br rfl (W1.look (.slice A1 x1.length c1) (by kernel_rfl) (fun w' hh => exec_load1 rfl rfl (by kernel_rfl) (hh.cellBox (i := 2) (by rfl) 3)) ?_)
                  refine TA.on (Hp.old (View.le_refl _) (View.le_trans (View.le_trans (View.le_trans (View.le_trans (View.le_trans hV1 hV2) hV10) hV11) hV12) hV16) (.cons_cons _ (.cons _ (.cons _ (.cons_cons _ (.cons_cons _ List.Sublist.slnil))))) (OldAll.box (OldAll.box (OldAll.box OldAll.nil)))) ?_
                  refine TA.all [6] (by kernel_rfl) rfl ⟨?_, trivial⟩
                  refine TA.br rfl (W1.new 30 [.int .i64 r9.1.key.pfs, .int .i64 r9.1.key.obj, .int .i64 r9.1.key.off, .int .i64 r9.1.made, .int .i64 r9.1.gone, .string r9.1.val] (fun b => .slice (some ⟨b, 0, none⟩) 1 1) (by kernel_rfl) (fun _ => by kernel_rfl) (fun b10 => ?_))
                  refine TA.on (Hp.old (View.le_refl _) (View.le_trans (View.le_trans (View.le_trans (View.le_trans (View.le_trans hV1 hV2) hV10) hV11) hV12) hV16) (.cons _ (.cons_cons _ (.cons _ (.cons _ (.cons_cons _ (.cons_cons _ List.Sublist.slnil)))))) (OldAll.box (OldAll.box (OldAll.box OldAll.nil)))) ?_
                  refine TA.all [7] (by kernel_rfl) rfl ⟨?_, trivial⟩
                  obtain ⟨hb19_r, hb19_m, rfl⟩ := grow_some hb19
                  obtain ⟨ti, hti, hz1, hz2, hz3⟩ := info_parts (P := Try.prog) (e := 30) (z := .agg #[.int .i64 0, .int .i64 0, .int .i64 0, .int .i64 0, .int .i64 0, .string (ByteArray.mk #[])]) (size := 6) (bytes := 56) (by kernel_rfl)
                  refine TA.br rfl (W1.append (E := eElem) (l := x1) (m := [r9.1]) 2 _ _ 56 ti _ (by rfl) (by kernel_rfl) rfl (by kernel_rfl) hti hz1 hz2 hz3 rfl (by decide) rfl rfl (fun w' hh => (SlOk.srcF (slok_lit (E := eElem) (f := DElem.cells) [r9.1] (fun _ _ => rfl) (Nat.le_of_ble_eq_true (by rfl)) (fun j => hh.cellBox (i := 0) (by rfl) j)) (fun _ _ _ _ h => h))) hb19_r hb19_m (fun A4 c4 => ?_))
                  refine TA.on (Hp.old (View.le_refl _) (View.le_trans (View.le_trans (View.le_trans (View.le_trans (View.le_trans hV1 hV2) hV10) hV11) hV12) hV16) (.cons _ (.cons_cons _ (.cons _ (.cons _ (.cons_cons _ (.cons_cons _ List.Sublist.slnil)))))) (OldAll.box (OldAll.box (OldAll.box OldAll.nil)))) ?_
                  refine TA.take 8 (.pointer (some ⟨b6, 0, none⟩)) rfl (by kernel_rfl) (by kernel_rfl) (by kernel_rfl) (fun _ _ _ h => h) (Hp.old (View.le_refl _) (View.le_trans (View.le_trans (View.le_trans (View.le_trans (View.le_trans hV1 hV2) hV10) hV11) hV12) hV16) (.cons _ (.cons_cons _ (.cons _ (.cons _ (.cons_cons _ (.cons_cons _ List.Sublist.slnil)))))) (OldAll.box (OldAll.box (OldAll.box OldAll.nil)))) (by kernel_rfl) (fun _ _ => by kernel_rfl) ?_
                  refine TA.take 9 (.pointer (some ⟨b6, 3, none⟩)) rfl (by kernel_rfl) (by kernel_rfl) (by kernel_rfl) (fun _ _ _ h => h) (Hp.old (View.le_refl _) (View.le_trans (View.le_trans (View.le_trans (View.le_trans (View.le_trans hV1 hV2) hV10) hV11) hV12) hV16) (.cons _ (.cons_cons _ (.cons _ (.cons _ (.cons_cons _ (.cons_cons _ List.Sublist.slnil)))))) (OldAll.box (OldAll.box (OldAll.box OldAll.nil)))) (by kernel_rfl) (fun _ _ => by kernel_rfl) ?_
                  refine TA.all [10] (by kernel_rfl) rfl ⟨?_, trivial⟩
                  refine TA.br rfl (W1.store 3 [.int .i64 z1, .int .i64 z2, .int .i64 z3, .slice A4 ((x1 ++ [r9.1]).length) c4] [box b10 30 [.int .i64 r9.1.key.pfs, .int .i64 r9.1.key.obj, .int .i64 r9.1.key.off, .int .i64 r9.1.made, .int .i64 r9.1.gone, .string r9.1.val], box b9 30 [.int .i64 r9.1.key.pfs, .int .i64 r9.1.key.obj, .int .i64 r9.1.key.off, .int .i64 r9.1.made, .int .i64 r9.1.gone, .string r9.1.val], row 30 eElem A4 c4 (x1 ++ [r9.1]), box b6 58 [.int .i64 z1, .int .i64 z2, .int .i64 z3, .slice A4 ((x1 ++ [r9.1]).length) c4], box b2 74 [.int .i64 r7.1.kind, .string r7.1.body], box b1 58 [.int .i64 0, .int .i64 0, .int .i64 0, .slice none 0 0]] (by rfl) rfl (by kernel_rfl) (fun w' hw => exec_store (vs := [.slice A4 ((x1 ++ [r9.1]).length) c4]) rfl rfl rfl rfl (by kernel_rfl) (one_of rfl) (by simp) rfl hw) ?_)
                  refine TA.on (Hp.old (View.le_refl _) (View.le_trans (View.le_trans (View.le_trans (View.le_trans (View.le_trans hV1 hV2) hV10) hV11) hV12) hV16) (.cons _ (.cons_cons _ (.cons _ (.cons _ (.cons_cons _ (.cons_cons _ List.Sublist.slnil)))))) (OldAll.box (OldAll.box (OldAll.box OldAll.nil)))) ?_
                  refine TA.done (by kernel_rfl) ?_
                  exact fun a w' hf hh => Exists.intro A4 (Exists.intro c4 (And.intro (Fr.nil hf) (hh.sub (.cons _ (.cons _ (.cons_cons _ (.cons_cons _ (.cons_cons _ (.cons_cons _ List.Sublist.slnil)))))))))
                 ·
                  refine TA.br rfl (W1.new 30 [.int .i64 r9.1.key.pfs, .int .i64 r9.1.key.obj, .int .i64 r9.1.key.off, .int .i64 r9.1.made, .int .i64 r9.1.gone, .string r9.1.val] (fun b => .slice (some ⟨b, 0, none⟩) 1 1) (by kernel_rfl) (fun _ => by kernel_rfl) (fun b10 => ?_))
                  refine TA.on (Hp.old (View.le_refl _) (View.le_trans (View.le_trans (View.le_trans (View.le_trans (View.le_trans hV1 hV2) hV10) hV11) hV12) hV16) (.cons _ (.cons_cons _ (.cons _ (.cons _ (.cons_cons _ (.cons_cons _ List.Sublist.slnil)))))) (OldAll.box (OldAll.box (OldAll.box OldAll.nil)))) ?_
                  refine TA.all [4] (by kernel_rfl) rfl ⟨?_, trivial⟩
                  refine TA.br rfl (W1.look (.slice A1 x1.length c1) (by kernel_rfl) (fun w' hh => exec_load1 rfl rfl (by kernel_rfl) (hh.cellBox (i := 3) (by rfl) 3)) ?_)
                  refine TA.on (Hp.old (View.le_refl _) (View.le_trans (View.le_trans (View.le_trans (View.le_trans (View.le_trans hV1 hV2) hV10) hV11) hV12) hV16) (.cons _ (.cons_cons _ (.cons _ (.cons _ (.cons_cons _ (.cons_cons _ List.Sublist.slnil)))))) (OldAll.box (OldAll.box (OldAll.box OldAll.nil)))) ?_
                  refine TA.all [7] (by kernel_rfl) rfl ⟨?_, trivial⟩
                  obtain ⟨hb19_r, hb19_m, rfl⟩ := grow_some hb19
                  obtain ⟨ti, hti, hz1, hz2, hz3⟩ := info_parts (P := Try.prog) (e := 30) (z := .agg #[.int .i64 0, .int .i64 0, .int .i64 0, .int .i64 0, .int .i64 0, .string (ByteArray.mk #[])]) (size := 6) (bytes := 56) (by kernel_rfl)
                  refine TA.br rfl (W1.append (E := eElem) (l := x1) (m := [r9.1]) 2 _ _ 56 ti _ (by rfl) (by kernel_rfl) rfl (by kernel_rfl) hti hz1 hz2 hz3 rfl (by decide) rfl rfl (fun w' hh => (SlOk.srcF (slok_lit (E := eElem) (f := DElem.cells) [r9.1] (fun _ _ => rfl) (Nat.le_of_ble_eq_true (by rfl)) (fun j => hh.cellBox (i := 0) (by rfl) j)) (fun _ _ _ _ h => h))) hb19_r hb19_m (fun A4 c4 => ?_))
                  refine TA.on (Hp.old (View.le_refl _) (View.le_trans (View.le_trans (View.le_trans (View.le_trans (View.le_trans hV1 hV2) hV10) hV11) hV12) hV16) (.cons _ (.cons_cons _ (.cons _ (.cons _ (.cons_cons _ (.cons_cons _ List.Sublist.slnil)))))) (OldAll.box (OldAll.box (OldAll.box OldAll.nil)))) ?_
                  refine TA.take 8 (.pointer (some ⟨b6, 0, none⟩)) rfl (by kernel_rfl) (by kernel_rfl) (by kernel_rfl) (fun _ _ _ h => h) (Hp.old (View.le_refl _) (View.le_trans (View.le_trans (View.le_trans (View.le_trans (View.le_trans hV1 hV2) hV10) hV11) hV12) hV16) (.cons _ (.cons_cons _ (.cons _ (.cons _ (.cons_cons _ (.cons_cons _ List.Sublist.slnil)))))) (OldAll.box (OldAll.box (OldAll.box OldAll.nil)))) (by kernel_rfl) (fun _ _ => by kernel_rfl) ?_
                  refine TA.take 9 (.pointer (some ⟨b6, 3, none⟩)) rfl (by kernel_rfl) (by kernel_rfl) (by kernel_rfl) (fun _ _ _ h => h) (Hp.old (View.le_refl _) (View.le_trans (View.le_trans (View.le_trans (View.le_trans (View.le_trans hV1 hV2) hV10) hV11) hV12) hV16) (.cons _ (.cons_cons _ (.cons _ (.cons _ (.cons_cons _ (.cons_cons _ List.Sublist.slnil)))))) (OldAll.box (OldAll.box (OldAll.box OldAll.nil)))) (by kernel_rfl) (fun _ _ => by kernel_rfl) ?_
                  refine TA.all [10] (by kernel_rfl) rfl ⟨?_, trivial⟩
                  refine TA.br rfl (W1.store 3 [.int .i64 z1, .int .i64 z2, .int .i64 z3, .slice A4 ((x1 ++ [r9.1]).length) c4] [box b10 30 [.int .i64 r9.1.key.pfs, .int .i64 r9.1.key.obj, .int .i64 r9.1.key.off, .int .i64 r9.1.made, .int .i64 r9.1.gone, .string r9.1.val], box b9 30 [.int .i64 r9.1.key.pfs, .int .i64 r9.1.key.obj, .int .i64 r9.1.key.off, .int .i64 r9.1.made, .int .i64 r9.1.gone, .string r9.1.val], row 30 eElem A4 c4 (x1 ++ [r9.1]), box b6 58 [.int .i64 z1, .int .i64 z2, .int .i64 z3, .slice A4 ((x1 ++ [r9.1]).length) c4], box b2 74 [.int .i64 r7.1.kind, .string r7.1.body], box b1 58 [.int .i64 0, .int .i64 0, .int .i64 0, .slice none 0 0]] (by rfl) rfl (by kernel_rfl) (fun w' hw => exec_store (vs := [.slice A4 ((x1 ++ [r9.1]).length) c4]) rfl rfl rfl rfl (by kernel_rfl) (one_of rfl) (by simp) rfl hw) ?_)
                  refine TA.on (Hp.old (View.le_refl _) (View.le_trans (View.le_trans (View.le_trans (View.le_trans (View.le_trans hV1 hV2) hV10) hV11) hV12) hV16) (.cons _ (.cons_cons _ (.cons _ (.cons _ (.cons_cons _ (.cons_cons _ List.Sublist.slnil)))))) (OldAll.box (OldAll.box (OldAll.box OldAll.nil)))) ?_
                  refine TA.done (by kernel_rfl) ?_
                  exact fun a w' hf hh => Exists.intro A4 (Exists.intro c4 (And.intro (Fr.nil hf) (hh.sub (.cons _ (.cons _ (.cons_cons _ (.cons_cons _ (.cons_cons _ (.cons_cons _ List.Sublist.slnil)))))))))
                ·
                 rintro a w' ⟨A5, c5, hf, hh⟩
                 refine (?_ : T 85 w V16 [row 30 eElem A5 c5 (x1 ++ [r9.1]), box b6 58 [.int .i64 z1, .int .i64 z2, .int .i64 z3, .slice A5 ((x1 ++ [r9.1]).length) c5], box b2 74 [.int .i64 r7.1.kind, .string r7.1.body], box b1 58 [.int .i64 0, .int .i64 0, .int .i64 0, .slice none 0 0]] [] _) a w' hf hh
                 clear hf hh
                 refine T.seq ?_
                 refine T.region ?_
                 refine T.pure (.bool true) (by kernel_rfl) (fun _ => by kernel_rfl) ?_
                 refine T.nil ?_
                 cases hX7
                 refine T.ret rfl ?_
                 repeat first | refine T.unthen ?_ | refine T.unblock ?_
                 exact T.ret1 rfl (ResIs.tmp rfl) fun w' hh => ⟨_, rfl, Exists.intro (x1 ++ [r9.1]) (Exists.intro true (And.intro rfl (Exists.intro A5 (Exists.intro c5 (Exists.intro V16 (And.intro hV16 (And.intro rfl (hh.sub (.cons_cons _ (.cons_cons _ (.cons_cons _ (.cons_cons _ List.Sublist.slnil))))))))))))⟩
           ·
            rintro v w' ⟨z11, z12, rfl, A3, c3, V15, hV15, rfl, hh⟩
            try dsimp only at hX6
            refine ⟨V15, [row 30 eElem A3 c3 z11, box b6 58 [.int .i64 z1, .int .i64 z2, .int .i64 z3, .slice A3 z11.length c3], box b2 74 [.int .i64 r7.1.kind, .string r7.1.body], box b1 58 [.int .i64 0, .int .i64 0, .int .i64 0, .slice none 0 0]], hh, ?_⟩
            clear hh
            refine T.pure (.bool (!z12)) (by kernel_rfl) (fun _ => by kernel_rfl) ?_
            refine T.pure (.bool (!z12)) (by kernel_rfl) (fun _ => by kernel_rfl) ?_
            refine T.pure (.bool (!z12)) (by kernel_rfl) (fun _ => by kernel_rfl) ?_
            refine T.nil ?_
            cases hX6
            exact fun a w' hf hh => Exists.intro z11 (Exists.intro (!z12) (And.intro rfl (Exists.intro A3 (Exists.intro c3 (Exists.intro V15 (And.intro hV15 (And.intro (((((((Fr.nil hf).pick hf 61 rfl).pick hf 7 rfl).pick hf 5 rfl).pick hf 4 rfl).pick hf 2 rfl).pick hf 0 rfl) (hh.sub (.cons_cons _ (.cons_cons _ (.cons_cons _ (.cons_cons _ List.Sublist.slnil))))))))))))
          ·
           skip
           rw [hg4, cond_true] at hX6
           refine T.pass (by kernel_rfl) (by kernel_rfl) ?_
           refine T.pass (by kernel_rfl) (by kernel_rfl) ?_
           refine T.pass (by kernel_rfl) (by kernel_rfl) ?_
           refine T.pure (.bool true) (by kernel_rfl) (fun _ => by kernel_rfl) ?_
           refine T.pure (.bool true) (by kernel_rfl) (fun _ => by kernel_rfl) ?_
           refine T.nil ?_
           cases hX6
           exact fun a w' hf hh => Exists.intro x1 (Exists.intro true (And.intro rfl (Exists.intro A1 (Exists.intro c1 (Exists.intro V12 (And.intro (View.le_refl _) (And.intro (((((((Fr.nil hf).pick hf 61 rfl).pick hf 7 rfl).pick hf 5 rfl).pick hf 4 rfl).pick hf 2 rfl).pick hf 0 rfl) (hh.sub (.cons_cons _ (.cons_cons _ (.cons_cons _ (.cons_cons _ List.Sublist.slnil))))))))))))
         ·
          rintro a w' ⟨z9, z10, rfl, A2, c2, V14, hV14, hf, hh⟩
          try dsimp only at hY1
          refine (?_ : T 71 w V14 [row 30 eElem A2 c2 z9, box b6 58 [.int .i64 z1, .int .i64 z2, .int .i64 z3, .slice A2 z9.length c2], box b2 74 [.int .i64 r7.1.kind, .string r7.1.body], box b1 58 [.int .i64 0, .int .i64 0, .int .i64 0, .slice none 0 0]] [(0, .string s5), (2, .pointer (some ⟨b1, 0, none⟩)), (4, .pointer (some ⟨b2, 0, none⟩)), (5, .int .i64 r7.2.1), (7, .pointer (some ⟨b6, 0, none⟩)), (61, .bool z10)] _) a w' hf hh
          clear hf hh
          refine T.cond z10 (by kernel_rfl) (by kernel_rfl) (fun hc8 => ?_) (fun hc8 => ?_)
          ·
           rw [hc8, cond_true] at hY1
           refine T.seq ?_
           refine T.region ?_
           refine T.pure (.agg #[.int .i64 0, .int .i64 0, .int .i64 0, .slice none 0 0]) (by kernel_rfl) (fun _ => by kernel_rfl) ?_
           refine T.step (W1.store 3 [.int .i64 0, .int .i64 0, .int .i64 0, .slice none 0 0] [row 30 eElem A2 c2 z9, box b6 58 [.int .i64 z1, .int .i64 z2, .int .i64 z3, .slice A2 z9.length c2], box b2 74 [.int .i64 r7.1.kind, .string r7.1.body], box b1 58 [.int .i64 0, .int .i64 0, .int .i64 0, .slice none 0 0]] (by rfl) rfl (by kernel_rfl) (fun w' hw => exec_store (vs := [.int .i64 0, .int .i64 0, .int .i64 0, .slice none 0 0]) rfl rfl rfl rfl (by kernel_rfl) (one_of rfl) (by simp) rfl hw) ?_)
           refine T.pure (.int .i64 3) (by kernel_rfl) (fun _ => by kernel_rfl) ?_
           refine T.nil ?_
           cases hY1
           cases (hr1 _ rfl)
           try dsimp only at hF
           cases hF
           refine T.ret rfl ?_
           exact T.ret2 rfl (ResIs.cellN 3 rfl (by rfl) (fun _ => by kernel_rfl) (fun _ => by kernel_rfl)) (ResIs.tmp rfl) fun w' hh => ⟨_, rfl, hh.below, (vT2.mk (vAg.mk ⟨_, _, rfl, (SlOk.nil _ _)⟩) (show _ from rfl))⟩
          ·
           rw [hc8, cond_false] at hY1
           refine T.skip_code ?_
           cases hY1
           exact fun a w' hf hh => Exists.intro (z9, r7.1.kind, r7.1.body, s5, r7.2.1) (And.intro rfl (Exists.intro z9 (Exists.intro r7.1.kind (Exists.intro r7.1.body (Exists.intro s5 (Exists.intro r7.2.1 (And.intro rfl (Exists.intro A2 (Exists.intro c2 (Exists.intro V14 (And.intro (View.le_trans (View.le_trans (View.le_trans hV10 hV11) hV12) hV14) (And.intro ((((((Fr.nil hf).pick hf 7 rfl).pick hf 5 rfl).pick hf 4 rfl).pick hf 2 rfl).pick hf 0 rfl) (hh.sub (.cons_cons _ (.cons_cons _ (.cons_cons _ (.cons_cons _ List.Sublist.slnil)))))))))))))))))
    ·
     exact fun a w' h => h.elim
set_option maxRecDepth 100000 in
set_option maxHeartbeats 4000000 in
theorem stream_Merge_l (F : Nat) (p0 : (List DElem)) (p1 : (List DElem)) (r : ((List DElem))) (hF : stream_Merge F p0 p1 = some r) (w : World) (A1 : Option Addr) (c1 : Nat) (hs1 : SlOk (vw w) eElem A1 c1 p0) (A2 : Option Addr) (c2 : Nat) (hs2 : SlOk (vw w) eElem A2 c2 p1) :
 Calls Try.prog 39 #[.slice A1 p0.length c1, .slice A2 p1.length c2] w (fun e w' => ∃ p : Option Addr × Nat, e = .returned (.slice p.1 r.length p.2) ∧ True ∧ Gives w w' [row 30 eElem p.1 p.2 r]) := by
 unfold stream_Merge at hF
 refine T.start (l := [.slice A1 p0.length c1, .slice A2 p1.length c2]) Try.func39 rfl rfl rfl ?_
 refine T.seq ?_
 refine T.region ?_
 refine T.pure (.slice none 0 0) (by kernel_rfl) (fun _ => by kernel_rfl) ?_
 refine T.nil ?_
 refine T.seq ?_
 refine T.region ?_
 refine T.pure (.slice A1 p0.length c1) (by kernel_rfl) (fun _ => by kernel_rfl) ?_
 refine T.rownil 30 eElem ?_
 obtain ⟨y1, hb1, hF⟩ := Option.bind_eq_some_iff.1 hF
 obtain ⟨hb1_r, hb1_m, rfl⟩ := grow_some hb1
 obtain ⟨ti, hti, hz1, hz2, hz3⟩ := info_parts (P := Try.prog) (e := 30) (z := .agg #[.int .i64 0, .int .i64 0, .int .i64 0, .int .i64 0, .int .i64 0, .string (ByteArray.mk #[])]) (size := 6) (bytes := 56) (by kernel_rfl)
 refine T.step (W1.append (E := eElem) (l := ([] : List DElem)) (m := p0) 0 _ _ 56 ti _ (by rfl) (by kernel_rfl) rfl (by kernel_rfl) hti hz1 hz2 hz3 rfl (by decide) rfl rfl (fun w' hh => (SlOk.srcF (SlOk.mono hs1 hh.view) (fun _ _ _ _ h => h))) hb1_r hb1_m (fun A3 c3 => ?_))
 refine T.step (W1.new 22 [.slice none 0 0] (fun b => .pointer (some ⟨b, 0, none⟩)) (by kernel_rfl) (fun _ => by kernel_rfl) (fun b1 => ?_))
 refine T.step (W1.store 0 [.slice A3 ((([] : List DElem) ++ p0).length) c3] [box b1 22 [.slice A3 ((([] : List DElem) ++ p0).length) c3], row 30 eElem A3 c3 (([] : List DElem) ++ p0)] (by rfl) rfl (by kernel_rfl) (fun w' hw => exec_store (vs := [.slice A3 ((([] : List DElem) ++ p0).length) c3]) rfl rfl rfl rfl (by kernel_rfl) (one_of rfl) (by simp) rfl hw) ?_)
 refine T.nil ?_
 refine T.seq ?_
 refine T.seq ?_
 refine T.region ?_
 refine T.pure (.slice A2 p1.length c2) (by kernel_rfl) (fun _ => by kernel_rfl) ?_
 refine T.pure (.int .i64 (p1.length : Int)) (by kernel_rfl) (fun _ => by kernel_rfl) ?_
 refine T.pure (.int .i64 0) (by kernel_rfl) (fun _ => by kernel_rfl) ?_
 refine T.nil ?_
 obtain ⟨z1, hz1, hF⟩ := Option.bind_eq_some_iff.1 hF
 refine T.mid (fun a w' => ∃ (A5 : Option Addr) (c5 : Nat), Fr 57 [(5, .pointer (some ⟨b1, 0, none⟩))] a ∧ Hp w (vw w) [box b1 22 [.slice A5 z1.length c5], row 30 eElem A5 c5 z1] w') ?_ ?_
 ·
  refine T.block ?_
  refine T.iter (fun s1 a w' => ∃ (x1 : List DElem) (x2 : Int), s1 = (x1, x2) ∧ ∃ (A4 : Option Addr) (c4 : Nat), Fr 57 [(5, .pointer (some ⟨b1, 0, none⟩)), (11, .slice A2 p1.length c2), (12, .int .i64 (p1.length : Int)), (13, .int .i64 x2)] a ∧ Hp w (vw w) [box b1 22 [.slice A4 x1.length c4], row 30 eElem A4 c4 x1] w') hz1 ?_ ?_
  ·
   exact fun a w' hf hh => Exists.intro (([] : List DElem) ++ p0) (Exists.intro 0 (And.intro rfl (Exists.intro A3 (Exists.intro c3 (And.intro (((((Fr.nil hf).pick hf 13 rfl).pick hf 12 rfl).pick hf 11 rfl).pick hf 5 rfl) (hh.sub (.cons_cons _ (.cons_cons _ List.Sublist.slnil))))))))
  ·
   rintro s1 y2 hY1 hr1 a w' ⟨x1, x2, rfl, A4, c4, hf, hh⟩
   refine (?_ : T 57 w (vw w) [box b1 22 [.slice A4 x1.length c4], row 30 eElem A4 c4 x1] [(5, .pointer (some ⟨b1, 0, none⟩)), (11, .slice A2 p1.length c2), (12, .int .i64 (p1.length : Int)), (13, .int .i64 x2)] _) a w' hf hh
   clear hf hh
   try dsimp only at hY1
   refine T.seq ?_
   refine T.region ?_
   refine T.pure (.bool (decide (x2 < (p1.length : Int)))) (by kernel_rfl) (fun _ => by kernel_rfl) ?_
   refine T.nil ?_
   refine T.seq ?_
   refine T.cond (decide (x2 < (p1.length : Int))) (by kernel_rfl) (by kernel_rfl) (fun hc1 => ?_) (fun hc1 => ?_)
   ·
    rw [hc1, cond_true] at hY1
    refine T.skip_code ?_
    obtain ⟨z2, hX1, hY1⟩ := Option.bind_eq_some_iff.1 hY1
    refine T.cut (fun a w' => ∃ (A6 : Option Addr) (c6 : Nat), Fr 57 [(5, .pointer (some ⟨b1, 0, none⟩)), (11, .slice A2 p1.length c2), (12, .int .i64 (p1.length : Int)), (13, .int .i64 x2)] a ∧ Hp w (vw w) [box b1 22 [.slice A6 z2.length c6], row 30 eElem A6 c6 z2] w') ?_ ?_
    ·
     refine T.block ?_
     refine T.seq ?_
     refine T.region ?_
     obtain ⟨e1, hb2, hX1⟩ := Option.bind_eq_some_iff.1 hX1
     obtain ⟨hi1, hi2, hi3⟩ := idx_some hb2
     refine T.look (.pointer (some ((sadr A2).add (x2.toNat * 6)))) (by kernel_rfl) (fun w' hh => exec_indexAddr (e := 30) (s := 6) rfl rfl rfl (by kernel_rfl) (by kernel_rfl) hi1 hi2 (hs2.some_ hi3 (by decide))) ?_
     refine T.look (.agg #[.int .i64 e1.key.pfs, .int .i64 e1.key.obj, .int .i64 e1.key.off, .int .i64 e1.made, .int .i64 e1.gone, .string e1.val]) (by kernel_rfl) (fun w' hh => exec_loadN (cs := [.int .i64 e1.key.pfs, .int .i64 e1.key.obj, .int .i64 e1.key.off, .int .i64 e1.made, .int .i64 e1.gone, .string e1.val]) rfl rfl (by kernel_rfl) (by kernel_rfl) (fun j u hj => (hh.cell_view (SlOk.cellF (E := eElem) hs2 hi3 j (fun _ _ _ h => h) hj)))) ?_
     refine T.step (W1.new 30 [.int .i64 0, .int .i64 0, .int .i64 0, .int .i64 0, .int .i64 0, .string (ByteArray.mk #[])] (fun b => .pointer (some ⟨b, 0, none⟩)) (by kernel_rfl) (fun _ => by kernel_rfl) (fun b2 => ?_))
     refine T.step (W1.store 0 [.int .i64 e1.key.pfs, .int .i64 e1.key.obj, .int .i64 e1.key.off, .int .i64 e1.made, .int .i64 e1.gone, .string e1.val] [box b2 30 [.int .i64 e1.key.pfs, .int .i64 e1.key.obj, .int .i64 e1.key.off, .int .i64 e1.made, .int .i64 e1.gone, .string e1.val], box b1 22 [.slice A4 x1.length c4], row 30 eElem A4 c4 x1] (by rfl) rfl (by kernel_rfl) (fun w' hw => exec_store (vs := [.int .i64 e1.key.pfs, .int .i64 e1.key.obj, .int .i64 e1.key.off, .int .i64 e1.made, .int .i64 e1.gone, .string e1.val]) rfl rfl rfl rfl (by kernel_rfl) (one_of rfl) (by simp) rfl hw) ?_)
     refine T.nil ?_
     refine T.seq ?_
     refine T.region ?_
     refine T.look (.slice A4 x1.length c4) (by kernel_rfl) (fun w' hh => exec_load1 rfl rfl (by kernel_rfl) (hh.cellBox (i := 1) (by rfl) 0)) ?_
     refine T.pure (.int .i64 (x1.length : Int)) (by kernel_rfl) (fun _ => by kernel_rfl) ?_
     refine T.pure (.func (.func 51) #[] #[.pointer (some ⟨b1, 0, none⟩), .pointer (some ⟨b2, 0, none⟩)]) (by kernel_rfl) (fun _ => by kernel_rfl) ?_
     obtain ⟨z3, hX2, hX1⟩ := Option.bind_eq_some_iff.1 hX1
     refine T.step (W1.within 42 [.int .i64 (x1.length : Int), .func (.func 51) #[] #[.pointer (some ⟨b1, 0, none⟩), .pointer (some ⟨b2, 0, none⟩)]] (fun v w' => v = .int .i64 z3 ∧ Hp w (vw w) [box b2 30 [.int .i64 e1.key.pfs, .int .i64 e1.key.obj, .int .i64 e1.key.off, .int .i64 e1.made, .int .i64 e1.gone, .string e1.val], box b1 22 [.slice A4 x1.length c4], row 30 eElem A4 c4 x1] w') Try.func42 rfl rfl (by kernel_rfl) (fun _ => by kernel_rfl) rfl ?_ ?_)
     ·
      refine T.seq ?_
      refine T.region ?_
      refine T.pure (.int .i64 0) (by kernel_rfl) (fun _ => by kernel_rfl) ?_
      refine T.nil ?_
      refine T.seq ?_
      refine T.region ?_
      refine T.pure (.int .i64 (x1.length : Int)) (by kernel_rfl) (fun _ => by kernel_rfl) ?_
      refine T.pure (.int .i64 0) (by kernel_rfl) (fun _ => by kernel_rfl) ?_
      refine T.pure (.int .i64 (x1.length : Int)) (by kernel_rfl) (fun _ => by kernel_rfl) ?_
      refine T.nil ?_
      obtain ⟨z4, hz2, hX2⟩ := Option.bind_eq_some_iff.1 hX2
      refine T.cut (fun a w' => Fr 26 [(5, .int .i64 z4)] a ∧ Hp w (vw w) [box b2 30 [.int .i64 e1.key.pfs, .int .i64 e1.key.obj, .int .i64 e1.key.off, .int .i64 e1.made, .int .i64 e1.gone, .string e1.val], box b1 22 [.slice A4 x1.length c4], row 30 eElem A4 c4 x1] w') ?_ ?_
      ·
       refine T.block ?_
       refine T.iter (fun s2 a w' => ∃ (x3 : Int) (x4 : Int), s2 = (x3, x4) ∧ Fr 26 [(1, .func (.func 51) #[] #[.pointer (some ⟨b1, 0, none⟩), .pointer (some ⟨b2, 0, none⟩)]), (5, .int .i64 x3), (6, .int .i64 x4)] a ∧ Hp w (vw w) [box b2 30 [.int .i64 e1.key.pfs, .int .i64 e1.key.obj, .int .i64 e1.key.off, .int .i64 e1.made, .int .i64 e1.gone, .string e1.val], box b1 22 [.slice A4 x1.length c4], row 30 eElem A4 c4 x1] w') hz2 ?_ ?_
       ·
        exact fun a w' hf hh => Exists.intro 0 (Exists.intro (x1.length : Int) (And.intro rfl (And.intro ((((Fr.nil hf).pick hf 6 rfl).pick hf 5 rfl).pick hf 1 rfl) (hh.sub (.cons_cons _ (.cons_cons _ (.cons_cons _ List.Sublist.slnil)))))))
       ·
        rintro s2 y3 hY2 hr2 a w' ⟨x3, x4, rfl, hf, hh⟩
        refine (?_ : T 26 w (vw w) [box b2 30 [.int .i64 e1.key.pfs, .int .i64 e1.key.obj, .int .i64 e1.key.off, .int .i64 e1.made, .int .i64 e1.gone, .string e1.val], box b1 22 [.slice A4 x1.length c4], row 30 eElem A4 c4 x1] [(1, .func (.func 51) #[] #[.pointer (some ⟨b1, 0, none⟩), .pointer (some ⟨b2, 0, none⟩)]), (5, .int .i64 x3), (6, .int .i64 x4)] _) a w' hf hh
        clear hf hh
        try dsimp only at hY2
        refine T.seq ?_
        refine T.seq ?_
        refine T.region ?_
        refine T.pure (.int .i64 x3) (by kernel_rfl) (fun _ => by kernel_rfl) ?_
        refine T.pure (.int .i64 x4) (by kernel_rfl) (fun _ => by kernel_rfl) ?_
        refine T.pure (.bool (decide (x3 < x4))) (by kernel_rfl) (fun _ => by kernel_rfl) ?_
        refine T.nil ?_
        refine T.cond (decide (x3 < x4)) (by kernel_rfl) (by kernel_rfl) (fun hc2 => ?_) (fun hc2 => ?_)
        ·
         rw [hc2, cond_true] at hY2
         refine T.skip_code ?_
         refine T.block ?_
         refine T.seq ?_
         refine T.region ?_
         refine T.pure (.int .i64 x3) (by kernel_rfl) (fun _ => by kernel_rfl) ?_
         refine T.pure (.int .i64 x4) (by kernel_rfl) (fun _ => by kernel_rfl) ?_
         refine T.pure (.int .i64 (IntKind.i64.wrap (x3 + x4))) (by kernel_rfl) (fun _ => by kernel_rfl) ?_
         refine T.pure (.int .u64 (IntKind.u64.wrap (IntKind.i64.wrap (x3 + x4)))) (by kernel_rfl) (fun _ => by kernel_rfl) ?_
         refine T.pure (.int .u64 (shr .u64 (IntKind.u64.wrap (IntKind.i64.wrap (x3 + x4))) 1)) (by kernel_rfl) (fun _ => by kernel_rfl) ?_
         refine T.pure (.int .i64 (IntKind.i64.wrap (shr .u64 (IntKind.u64.wrap (IntKind.i64.wrap (x3 + x4))) 1))) (by kernel_rfl) (fun _ => by kernel_rfl) ?_
         refine T.pure (.int .i64 (IntKind.i64.wrap (shr .u64 (IntKind.u64.wrap (IntKind.i64.wrap (x3 + x4))) 1))) (by kernel_rfl) (fun _ => by kernel_rfl) ?_
         refine T.nil ?_
         refine T.seq ?_
         refine T.region ?_
         refine T.pure (.func (.func 51) #[] #[.pointer (some ⟨b1, 0, none⟩), .pointer (some ⟨b2, 0, none⟩)]) (by kernel_rfl) (fun _ => by kernel_rfl) ?_
         refine T.pure (.int .i64 (IntKind.i64.wrap (shr .u64 (IntKind.u64.wrap (IntKind.i64.wrap (x3 + x4))) 1))) (by kernel_rfl) (fun _ => by kernel_rfl) ?_
         obtain ⟨z5, hX3, hY2⟩ := Option.bind_eq_some_iff.1 hY2
         refine T.step (W1.within 51 [.int .i64 (IntKind.i64.wrap (shr .u64 (IntKind.u64.wrap (IntKind.i64.wrap (x3 + x4))) 1)), .pointer (some ⟨b1, 0, none⟩), .pointer (some ⟨b2, 0, none⟩)] (fun v w' => v = .bool z5 ∧ Hp w (vw w) [box b2 30 [.int .i64 e1.key.pfs, .int .i64 e1.key.obj, .int .i64 e1.key.off, .int .i64 e1.made, .int .i64 e1.gone, .string e1.val], box b1 22 [.slice A4 x1.length c4], row 30 eElem A4 c4 x1] w') Try.func51 rfl rfl (by kernel_rfl) (fun _ => by kernel_rfl) rfl ?_ ?_)
         ·
          refine T.seq ?_
          refine T.region ?_
          refine T.pure (.bool false) (by kernel_rfl) (fun _ => by kernel_rfl) ?_
          refine T.nil ?_
          refine T.seq ?_
          refine T.quiet (by kernel_rfl) (by kernel_rfl) ?_
          refine TQ.look (.slice A4 x1.length c4) (by kernel_rfl) (fun w' hh => exec_load1 rfl rfl (by kernel_rfl) (hh.cellBox (i := 1) (by rfl) 0)) ?_
          refine TQ.pure (.int .i64 (IntKind.i64.wrap (shr .u64 (IntKind.u64.wrap (IntKind.i64.wrap (x3 + x4))) 1))) (by kernel_rfl) (fun _ => by kernel_rfl) ?_
          obtain ⟨e2, hb3, hX3⟩ := Option.bind_eq_some_iff.1 hX3
          obtain ⟨hi4, hi5, hi6⟩ := idx_some hb3
          refine TQ.look (.pointer (some ((sadr A4).add (((IntKind.i64.wrap (shr .u64 (IntKind.u64.wrap (IntKind.i64.wrap (x3 + x4))) 1)).toNat) * 6)))) (by kernel_rfl) (fun w' hh => exec_indexAddr (e := 30) (s := 6) rfl rfl rfl (by kernel_rfl) (by kernel_rfl) hi4 hi5 ((hh.row_slOk (i := 2) (by rfl)).some_ hi6 (by decide))) ?_
          refine TQ.look (.agg #[.int .i64 e2.key.pfs, .int .i64 e2.key.obj, .int .i64 e2.key.off, .int .i64 e2.made, .int .i64 e2.gone, .string e2.val]) (by kernel_rfl) (fun w' hh => exec_loadN (cs := [.int .i64 e2.key.pfs, .int .i64 e2.key.obj, .int .i64 e2.key.off, .int .i64 e2.made, .int .i64 e2.gone, .string e2.val]) rfl rfl (by kernel_rfl) (by kernel_rfl) (fun j u hj => (SlOk.wcellF (E := eElem) (hh.row_slOk (i := 2) (by rfl)) hi6 j (fun _ _ _ h => h) hj))) ?_
          obtain ⟨r2, hb4, hX3⟩ := Option.bind_eq_some_iff.1 hX3
          refine TQ.call (vAg eSpot) r2 41 #[.agg #[.int .i64 e2.key.pfs, .int .i64 e2.key.obj, .int .i64 e2.key.off, .int .i64 e2.made, .int .i64 e2.gone, .string e2.val]] (.agg #[.int .i64 r2.key.pfs, .int .i64 r2.key.obj, .int .i64 r2.key.off, .int .i64 r2.made]) (fun V u hu => sureSpot V u _ hu) (by kernel_rfl) (fun _ => by kernel_rfl) (fun w' hh => elem_Spot_l e2 r2 hb4 w' ) ?_
          refine TQ.look (.agg #[.int .i64 e1.key.pfs, .int .i64 e1.key.obj, .int .i64 e1.key.off, .int .i64 e1.made, .int .i64 e1.gone, .string e1.val]) (by kernel_rfl) (fun w' hh => exec_loadN (cs := [.int .i64 e1.key.pfs, .int .i64 e1.key.obj, .int .i64 e1.key.off, .int .i64 e1.made, .int .i64 e1.gone, .string e1.val]) rfl rfl (by kernel_rfl) (by kernel_rfl) (fun j u hj => (hh.box_at (i := 0) (cs := [.int .i64 e1.key.pfs, .int .i64 e1.key.obj, .int .i64 e1.key.off, .int .i64 e1.made, .int .i64 e1.gone, .string e1.val]) (by rfl) 0 j).trans (seg_at (n := 6) (by rfl) hj))) ?_
          obtain ⟨r3, hb5, hX3⟩ := Option.bind_eq_some_iff.1 hX3
          refine TQ.call (vAg eSpot) r3 41 #[.agg #[.int .i64 e1.key.pfs, .int .i64 e1.key.obj, .int .i64 e1.key.off, .int .i64 e1.made, .int .i64 e1.gone, .string e1.val]] (.agg #[.int .i64 r3.key.pfs, .int .i64 r3.key.obj, .int .i64 r3.key.off, .int .i64 r3.made]) (fun V u hu => sureSpot V u _ hu) (by kernel_rfl) (fun _ => by kernel_rfl) (fun w' hh => elem_Spot_l e1 r3 hb5 w' ) ?_
          obtain ⟨r4, hb6, hX3⟩ := Option.bind_eq_some_iff.1 hX3
          refine TQ.call (vSc eInt) r4 40 #[.agg #[.int .i64 r2.key.pfs, .int .i64 r2.key.obj, .int .i64 r2.key.off, .int .i64 r2.made], .agg #[.int .i64 r3.key.pfs, .int .i64 r3.key.obj, .int .i64 r3.key.off, .int .i64 r3.made]] (.int .i64 r4) (fun V u hu => sureInt V u _ hu) (by kernel_rfl) (fun _ => by kernel_rfl) (fun w' hh => key_CmpSpot_l r2 r3 r4 hb6 w' ) ?_
          refine TQ.pure (.bool (decide ((0 : Int) ≤ r4))) (by kernel_rfl) (fun _ => by kernel_rfl) ?_
          refine TQ.pure (.bool (decide ((0 : Int) ≤ r4))) (by kernel_rfl) (fun _ => by kernel_rfl) ?_
          refine TQ.nil ?_
          cases hX3
          refine T.ret rfl ?_
          exact T.ret1 rfl (ResIs.tmp rfl) fun w' hh => ⟨_, rfl, And.intro rfl (hh.sub (.cons_cons _ (.cons_cons _ (.cons_cons _ List.Sublist.slnil))))⟩
         ·
          rintro v w' ⟨rfl, hh⟩
          refine ⟨(vw w), [box b2 30 [.int .i64 e1.key.pfs, .int .i64 e1.key.obj, .int .i64 e1.key.off, .int .i64 e1.made, .int .i64 e1.gone, .string e1.val], box b1 22 [.slice A4 x1.length c4], row 30 eElem A4 c4 x1], hh, ?_⟩
          clear hh
          refine T.pure (.bool (!z5)) (by kernel_rfl) (fun _ => by kernel_rfl) ?_
          refine T.nil ?_
          refine T.cond (!z5) (by kernel_rfl) (by kernel_rfl) (fun hc3 => ?_) (fun hc3 => ?_)
          ·
           rw [hc3, cond_true] at hY2
           refine T.region ?_
           refine T.pure (.int .i64 (IntKind.i64.wrap (shr .u64 (IntKind.u64.wrap (IntKind.i64.wrap (x3 + x4))) 1))) (by kernel_rfl) (fun _ => by kernel_rfl) ?_
           refine T.pure (.int .i64 (IntKind.i64.wrap ((IntKind.i64.wrap (shr .u64 (IntKind.u64.wrap (IntKind.i64.wrap (x3 + x4))) 1)) + 1))) (by kernel_rfl) (fun _ => by kernel_rfl) ?_
           refine T.pure (.int .i64 (IntKind.i64.wrap ((IntKind.i64.wrap (shr .u64 (IntKind.u64.wrap (IntKind.i64.wrap (x3 + x4))) 1)) + 1))) (by kernel_rfl) (fun _ => by kernel_rfl) ?_
           refine T.nil ?_
           cases hY2
           exact fun a w' hf hh => Exists.intro (IntKind.i64.wrap ((IntKind.i64.wrap (shr .u64 (IntKind.u64.wrap (IntKind.i64.wrap (x3 + x4))) 1)) + 1), x4) (And.intro rfl (Exists.intro (IntKind.i64.wrap ((IntKind.i64.wrap (shr .u64 (IntKind.u64.wrap (IntKind.i64.wrap (x3 + x4))) 1)) + 1)) (Exists.intro x4 (And.intro rfl (And.intro ((((Fr.nil hf).pick hf 6 rfl).pick hf 5 rfl).pick hf 1 rfl) (hh.sub (.cons_cons _ (.cons_cons _ (.cons_cons _ List.Sublist.slnil)))))))))
          ·
           rw [hc3, cond_false] at hY2
           refine T.region ?_
           refine T.pure (.int .i64 (IntKind.i64.wrap (shr .u64 (IntKind.u64.wrap (IntKind.i64.wrap (x3 + x4))) 1))) (by kernel_rfl) (fun _ => by kernel_rfl) ?_
           refine T.pure (.int .i64 (IntKind.i64.wrap (shr .u64 (IntKind.u64.wrap (IntKind.i64.wrap (x3 + x4))) 1))) (by kernel_rfl) (fun _ => by kernel_rfl) ?_
           refine T.nil ?_
           cases hY2
           exact fun a w' hf hh => Exists.intro (x3, IntKind.i64.wrap (shr .u64 (IntKind.u64.wrap (IntKind.i64.wrap (x3 + x4))) 1)) (And.intro rfl (Exists.intro x3 (Exists.intro (IntKind.i64.wrap (shr .u64 (IntKind.u64.wrap (IntKind.i64.wrap (x3 + x4))) 1)) (And.intro rfl (And.intro ((((Fr.nil hf).pick hf 6 rfl).pick hf 5 rfl).pick hf 1 rfl) (hh.sub (.cons_cons _ (.cons_cons _ (.cons_cons _ List.Sublist.slnil)))))))))
        ·
         rw [hc2, cond_false] at hY2
         refine T.exit ?_
         cases hY2
         cases (hr2 _ rfl)
         exact fun a w' hf hh => And.intro ((Fr.nil hf).pick hf 5 rfl) (hh.sub (.cons_cons _ (.cons_cons _ (.cons_cons _ List.Sublist.slnil))))
      ·
       rintro a w' ⟨hf, hh⟩
       refine (?_ : T 26 w (vw w) [box b2 30 [.int .i64 e1.key.pfs, .int .i64 e1.key.obj, .int .i64 e1.key.off, .int .i64 e1.made, .int .i64 e1.gone, .string e1.val], box b1 22 [.slice A4 x1.length c4], row 30 eElem A4 c4 x1] [(5, .int .i64 z4)] _) a w' hf hh
       clear hf hh
       refine T.seq ?_
       refine T.region ?_
       refine T.pure (.int .i64 z4) (by kernel_rfl) (fun _ => by kernel_rfl) ?_
       refine T.pure (.int .i64 z4) (by kernel_rfl) (fun _ => by kernel_rfl) ?_
       refine T.nil ?_
       cases hX2
       refine T.ret rfl ?_
       exact T.ret1 rfl (ResIs.tmp rfl) fun w' hh => ⟨_, rfl, And.intro rfl (hh.sub (.cons_cons _ (.cons_cons _ (.cons_cons _ List.Sublist.slnil))))⟩
     ·
      rintro v w' ⟨rfl, hh⟩
      refine ⟨(vw w), [box b2 30 [.int .i64 e1.key.pfs, .int .i64 e1.key.obj, .int .i64 e1.key.off, .int .i64 e1.made, .int .i64 e1.gone, .string e1.val], box b1 22 [.slice A4 x1.length c4], row 30 eElem A4 c4 x1], hh, ?_⟩
      clear hh
      refine T.pure (.int .i64 z3) (by kernel_rfl) (fun _ => by kernel_rfl) ?_
      refine T.nil ?_
      refine T.seq ?_
      obtain ⟨z6, hX4, hX1⟩ := Option.bind_eq_some_iff.1 hX1
      refine T.cut (fun a w' => Fr 57 [(5, .pointer (some ⟨b1, 0, none⟩)), (7, .pointer (some ⟨b2, 0, none⟩)), (8, .int .i64 z3), (11, .slice A2 p1.length c2), (12, .int .i64 (p1.length : Int)), (13, .int .i64 x2), (34, .bool z6)] a ∧ Hp w (vw w) [box b2 30 [.int .i64 e1.key.pfs, .int .i64 e1.key.obj, .int .i64 e1.key.off, .int .i64 e1.made, .int .i64 e1.gone, .string e1.val], box b1 22 [.slice A4 x1.length c4], row 30 eElem A4 c4 x1] w') ?_ ?_
      ·
       refine T.quiet (by kernel_rfl) (by kernel_rfl) ?_
       refine TQ.pure (.int .i64 z3) (by kernel_rfl) (fun _ => by kernel_rfl) ?_
       refine TQ.look (.slice A4 x1.length c4) (by kernel_rfl) (fun w' hh => exec_load1 rfl rfl (by kernel_rfl) (hh.cellBox (i := 1) (by rfl) 0)) ?_
       refine TQ.pure (.int .i64 (x1.length : Int)) (by kernel_rfl) (fun _ => by kernel_rfl) ?_
       refine TQ.pure (.bool (decide (z3 < (x1.length : Int)))) (by kernel_rfl) (fun _ => by kernel_rfl) ?_
       refine TQ.pure (.bool (decide (z3 < (x1.length : Int)))) (by kernel_rfl) (fun _ => by kernel_rfl) ?_
       cases hg1 : decide (z3 < (x1.length : Int))
       ·
        skip
        rw [hg1, cond_false] at hX4
        refine TQ.pass (by kernel_rfl) (by kernel_rfl) ?_
        refine TQ.pass (by kernel_rfl) (by kernel_rfl) ?_
        refine TQ.pass (by kernel_rfl) (by kernel_rfl) ?_
        refine TQ.pass (by kernel_rfl) (by kernel_rfl) ?_
        refine TQ.pass (by kernel_rfl) (by kernel_rfl) ?_
        refine TQ.pass (by kernel_rfl) (by kernel_rfl) ?_
        refine TQ.pass (by kernel_rfl) (by kernel_rfl) ?_
        refine TQ.pass (by kernel_rfl) (by kernel_rfl) ?_
        refine TQ.pure (.bool false) (by kernel_rfl) (fun _ => by kernel_rfl) ?_
        refine TQ.nil ?_
        cases hX4
        exact fun a w' hf hh => And.intro ((((((((Fr.nil hf).pick hf 34 rfl).pick hf 13 rfl).pick hf 12 rfl).pick hf 11 rfl).pick hf 8 rfl).pick hf 7 rfl).pick hf 5 rfl) (hh.sub (.cons_cons _ (.cons_cons _ (.cons_cons _ List.Sublist.slnil))))
       ·
        skip
        rw [hg1, cond_true] at hX4
        refine TQ.look (.slice A4 x1.length c4) (by kernel_rfl) (fun w' hh => exec_load1 rfl rfl (by kernel_rfl) (hh.cellBox (i := 1) (by rfl) 0)) ?_
        refine TQ.pure (.int .i64 z3) (by kernel_rfl) (fun _ => by kernel_rfl) ?_
        obtain ⟨e3, hb7, hX4⟩ := Option.bind_eq_some_iff.1 hX4
        obtain ⟨hi7, hi8, hi9⟩ := idx_some hb7
        refine TQ.look (.pointer (some ((sadr A4).add (z3.toNat * 6)))) (by kernel_rfl) (fun w' hh => exec_indexAddr (e := 30) (s := 6) rfl rfl rfl (by kernel_rfl) (by kernel_rfl) hi7 hi8 ((hh.row_slOk (i := 2) (by rfl)).some_ hi9 (by decide))) ?_
        refine TQ.look (.agg #[.int .i64 e3.key.pfs, .int .i64 e3.key.obj, .int .i64 e3.key.off, .int .i64 e3.made, .int .i64 e3.gone, .string e3.val]) (by kernel_rfl) (fun w' hh => exec_loadN (cs := [.int .i64 e3.key.pfs, .int .i64 e3.key.obj, .int .i64 e3.key.off, .int .i64 e3.made, .int .i64 e3.gone, .string e3.val]) rfl rfl (by kernel_rfl) (by kernel_rfl) (fun j u hj => (SlOk.wcellF (E := eElem) (hh.row_slOk (i := 2) (by rfl)) hi9 j (fun _ _ _ h => h) hj))) ?_
        obtain ⟨r5, hb8, hX4⟩ := Option.bind_eq_some_iff.1 hX4
        refine TQ.call (vAg eSpot) r5 41 #[.agg #[.int .i64 e3.key.pfs, .int .i64 e3.key.obj, .int .i64 e3.key.off, .int .i64 e3.made, .int .i64 e3.gone, .string e3.val]] (.agg #[.int .i64 r5.key.pfs, .int .i64 r5.key.obj, .int .i64 r5.key.off, .int .i64 r5.made]) (fun V u hu => sureSpot V u _ hu) (by kernel_rfl) (fun _ => by kernel_rfl) (fun w' hh => elem_Spot_l e3 r5 hb8 w' ) ?_
        refine TQ.look (.agg #[.int .i64 e1.key.pfs, .int .i64 e1.key.obj, .int .i64 e1.key.off, .int .i64 e1.made, .int .i64 e1.gone, .string e1.val]) (by kernel_rfl) (fun w' hh => exec_loadN (cs := [.int .i64 e1.key.pfs, .int .i64 e1.key.obj, .int .i64 e1.key.off, .int .i64 e1.made, .int .i64 e1.gone, .string e1.val]) rfl rfl (by kernel_rfl) (by kernel_rfl) (fun j u hj => (hh.box_at (i := 0) (cs := [.int .i64 e1.key.pfs, .int .i64 e1.key.obj, .int .i64 e1.key.off, .int .i64 e1.made, .int .i64 e1.gone, .string e1.val]) (by rfl) 0 j).trans (seg_at (n := 6) (by rfl) hj))) ?_
        obtain ⟨r6, hb9, hX4⟩ := Option.bind_eq_some_iff.1 hX4
        refine TQ.call (vAg eSpot) r6 41 #[.agg #[.int .i64 e1.key.pfs, .int .i64 e1.key.obj, .int .i64 e1.key.off, .int .i64 e1.made, .int .i64 e1.gone, .string e1.val]] (.agg #[.int .i64 r6.key.pfs, .int .i64 r6.key.obj, .int .i64 r6.key.off, .int .i64 r6.made]) (fun V u hu => sureSpot V u _ hu) (by kernel_rfl) (fun _ => by kernel_rfl) (fun w' hh => elem_Spot_l e1 r6 hb9 w' ) ?_
        refine TQ.look (.bool (r5 == r6)) (by kernel_rfl) (fun w' hh => exec_eql_DSpot r5 r6 w' rfl rfl rfl) ?_
        refine TQ.pure (.bool (r5 == r6)) (by kernel_rfl) (fun _ => by kernel_rfl) ?_
        refine TQ.nil ?_
        cases hX4
        exact fun a w' hf hh => And.intro ((((((((Fr.nil hf).pick hf 34 rfl).pick hf 13 rfl).pick hf 12 rfl).pick hf 11 rfl).pick hf 8 rfl).pick hf 7 rfl).pick hf 5 rfl) (hh.sub (.cons_cons _ (.cons_cons _ (.cons_cons _ List.Sublist.slnil))))
      ·
       rintro a w' ⟨hf, hh⟩
       refine (?_ : T 57 w (vw w) [box b2 30 [.int .i64 e1.key.pfs, .int .i64 e1.key.obj, .int .i64 e1.key.off, .int .i64 e1.made, .int .i64 e1.gone, .string e1.val], box b1 22 [.slice A4 x1.length c4], row 30 eElem A4 c4 x1] [(5, .pointer (some ⟨b1, 0, none⟩)), (7, .pointer (some ⟨b2, 0, none⟩)), (8, .int .i64 z3), (11, .slice A2 p1.length c2), (12, .int .i64 (p1.length : Int)), (13, .int .i64 x2), (34, .bool z6)] _) a w' hf hh
       clear hf hh
       refine T.cond z6 (by kernel_rfl) (by kernel_rfl) (fun hc4 => ?_) (fun hc4 => ?_)
       ·
        rw [hc4, cond_true] at hX1
        refine T.seq ?_
        refine T.region ?_
        refine T.look (.slice A4 x1.length c4) (by kernel_rfl) (fun w' hh => exec_load1 rfl rfl (by kernel_rfl) (hh.cellBox (i := 1) (by rfl) 0)) ?_
        refine T.pure (.int .i64 z3) (by kernel_rfl) (fun _ => by kernel_rfl) ?_
        refine T.look (.agg #[.int .i64 e1.key.pfs, .int .i64 e1.key.obj, .int .i64 e1.key.off, .int .i64 e1.made, .int .i64 e1.gone, .string e1.val]) (by kernel_rfl) (fun w' hh => exec_loadN (cs := [.int .i64 e1.key.pfs, .int .i64 e1.key.obj, .int .i64 e1.key.off, .int .i64 e1.made, .int .i64 e1.gone, .string e1.val]) rfl rfl (by kernel_rfl) (by kernel_rfl) (fun j u hj => (hh.box_at (i := 0) (cs := [.int .i64 e1.key.pfs, .int .i64 e1.key.obj, .int .i64 e1.key.off, .int .i64 e1.made, .int .i64 e1.gone, .string e1.val]) (by rfl) 0 j).trans (seg_at (n := 6) (by rfl) hj))) ?_
        obtain ⟨e4, hb10, hX1⟩ := Option.bind_eq_some_iff.1 hX1
        obtain ⟨hi10, hi11, hi12⟩ := idx_some hb10
        refine T.look (.pointer (some ((sadr A4).add (z3.toNat * 6)))) (by kernel_rfl) (fun w' hh => exec_indexAddr (e := 30) (s := 6) rfl rfl rfl (by kernel_rfl) (by kernel_rfl) hi10 hi11 ((hh.row_slOk (i := 2) (by rfl)).some_ hi12 (by decide))) ?_
        refine T.step (W1.storeRow (E := eElem) 2 (z3.toNat) 0 e4 e1 _ (vs := [.int .i64 e1.key.pfs, .int .i64 e1.key.obj, .int .i64 e1.key.off, .int .i64 e1.made, .int .i64 e1.gone, .string e1.val]) (by rfl) (by kernel_rfl) rfl rfl (addr_add0 _).symm rfl rfl (fun _ => by kernel_rfl) (one_of rfl) hi12 (Nat.le_of_ble_eq_true (by kernel_rfl)) (fun _ _ h => by cases h; rfl) ?_)
        refine T.reslot 35 (.slice A4 ((x1.set z3.toNat e1).length) c4) rfl (by simp only [List.length_set]) ?_
        refine T.reH (H' := [box b2 30 [.int .i64 e1.key.pfs, .int .i64 e1.key.obj, .int .i64 e1.key.off, .int .i64 e1.made, .int .i64 e1.gone, .string e1.val], box b1 22 [.slice A4 ((x1.set z3.toNat e1).length) c4], row 30 eElem A4 c4 (x1.set z3.toNat e1)]) (by first | (simp only [List.length_set]; done) | (simp only [List.length_set]; rfl)) ?_
        refine T.nil ?_
        refine T.exit ?_
        cases hX1
        exact fun a w' hf hh => Exists.intro A4 (Exists.intro c4 (And.intro (((((Fr.nil hf).pick hf 13 rfl).pick hf 12 rfl).pick hf 11 rfl).pick hf 5 rfl) (hh.sub (.cons _ (.cons_cons _ (.cons_cons _ List.Sublist.slnil))))))
       ·
        rw [hc4, cond_false] at hX1
        refine T.skip_code ?_
        refine T.seq ?_
        refine T.region ?_
        refine T.look (.slice A4 x1.length c4) (by kernel_rfl) (fun w' hh => exec_load1 rfl rfl (by kernel_rfl) (hh.cellBox (i := 1) (by rfl) 0)) ?_
        refine T.pure (.agg #[.int .i64 0, .int .i64 0, .int .i64 0, .int .i64 0, .int .i64 0, .string (ByteArray.mk #[])]) (by kernel_rfl) (fun _ => by kernel_rfl) ?_
        refine T.step (W1.new 30 [.int .i64 0, .int .i64 0, .int .i64 0, .int .i64 0, .int .i64 0, .string (ByteArray.mk #[])] (fun b => .slice (some ⟨b, 0, none⟩) 1 1) (by kernel_rfl) (fun _ => by kernel_rfl) (fun b3 => ?_))
        obtain ⟨y4, hb11, hX1⟩ := Option.bind_eq_some_iff.1 hX1
        obtain ⟨hb11_r, hb11_m, rfl⟩ := grow_some hb11
        obtain ⟨ti, hti, hz1, hz2, hz3⟩ := info_parts (P := Try.prog) (e := 30) (z := .agg #[.int .i64 0, .int .i64 0, .int .i64 0, .int .i64 0, .int .i64 0, .string (ByteArray.mk #[])]) (size := 6) (bytes := 56) (by kernel_rfl)
        refine T.step (W1.append (E := eElem) (l := x1) (m := [(DElem.mk (DKey.mk 0 0 0) 0 0 (ByteArray.mk #[]))]) 3 _ _ 56 ti _ (by rfl) (by kernel_rfl) rfl (by kernel_rfl) hti hz1 hz2 hz3 rfl (by decide) rfl rfl (fun w' hh => (SlOk.srcF (slok_lit (E := eElem) (f := DElem.cells) [(DElem.mk (DKey.mk 0 0 0) 0 0 (ByteArray.mk #[]))] (fun _ _ => rfl) (Nat.le_of_ble_eq_true (by rfl)) (fun j => hh.cellBox (i := 0) (by rfl) j)) (fun _ _ _ _ h => h))) hb11_r hb11_m (fun A7 c7 => ?_))
        refine T.step (W1.store 2 [.slice A7 ((x1 ++ [(DElem.mk (DKey.mk 0 0 0) 0 0 (ByteArray.mk #[]))]).length) c7] [box b3 30 [.int .i64 0, .int .i64 0, .int .i64 0, .int .i64 0, .int .i64 0, .string (ByteArray.mk #[])], box b2 30 [.int .i64 e1.key.pfs, .int .i64 e1.key.obj, .int .i64 e1.key.off, .int .i64 e1.made, .int .i64 e1.gone, .string e1.val], box b1 22 [.slice A7 ((x1 ++ [(DElem.mk (DKey.mk 0 0 0) 0 0 (ByteArray.mk #[]))]).length) c7], row 30 eElem A7 c7 (x1 ++ [(DElem.mk (DKey.mk 0 0 0) 0 0 (ByteArray.mk #[]))])] (by rfl) rfl (by kernel_rfl) (fun w' hw => exec_store (vs := [.slice A7 ((x1 ++ [(DElem.mk (DKey.mk 0 0 0) 0 0 (ByteArray.mk #[]))]).length) c7]) rfl rfl rfl rfl (by kernel_rfl) (one_of rfl) (by simp) rfl hw) ?_)
        refine T.nil ?_
        refine T.seq ?_
        obtain ⟨s3, hb12, hX1⟩ := Option.bind_eq_some_iff.1 hX1
        obtain ⟨s4, hb13, hX1⟩ := Option.bind_eq_some_iff.1 hX1
        refine T.mid (fun a w' => Fr 57 [(5, .pointer (some ⟨b1, 0, none⟩)), (7, .pointer (some ⟨b2, 0, none⟩)), (8, .int .i64 z3), (11, .slice A2 p1.length c2), (12, .int .i64 (p1.length : Int)), (13, .int .i64 x2)] a ∧ Hp w (vw w) [box b2 30 [.int .i64 e1.key.pfs, .int .i64 e1.key.obj, .int .i64 e1.key.off, .int .i64 e1.made, .int .i64 e1.gone, .string e1.val], box b1 22 [.slice A7 ((over (x1 ++ [(DElem.mk (DKey.mk 0 0 0) 0 0 (ByteArray.mk #[]))]) ((IntKind.i64.wrap (z3 + 1)).toNat) (s4.take s3.length)).length) c7], row 30 eElem A7 c7 (over (x1 ++ [(DElem.mk (DKey.mk 0 0 0) 0 0 (ByteArray.mk #[]))]) ((IntKind.i64.wrap (z3 + 1)).toNat) (s4.take s3.length))] w') ?_ ?_
        ·
         refine T.held [box b3 30 [.int .i64 0, .int .i64 0, .int .i64 0, .int .i64 0, .int .i64 0, .string (ByteArray.mk #[])], box b2 30 [.int .i64 e1.key.pfs, .int .i64 e1.key.obj, .int .i64 e1.key.off, .int .i64 e1.made, .int .i64 e1.gone, .string e1.val], box b1 22 [.slice A7 ((x1 ++ [(DElem.mk (DKey.mk 0 0 0) 0 0 (ByteArray.mk #[]))]).length) c7]] (by kernel_rfl) ?_
         refine TA.take 0 (.slice A7 ((x1 ++ [(DElem.mk (DKey.mk 0 0 0) 0 0 (ByteArray.mk #[]))]).length) c7) rfl (by kernel_rfl) (by kernel_rfl) (by kernel_rfl) (fun _ _ _ h => h) (Hp.old (View.le_refl _) (View.le_refl _) (.cons_cons _ (.cons_cons _ (.cons_cons _ (.cons _ List.Sublist.slnil)))) (OldAll.box (OldAll.box (OldAll.box OldAll.nil)))) (by kernel_rfl) (fun w' hh => exec_load1 rfl rfl (by kernel_rfl) (hh.cellBox (i := 2) (by rfl) 0)) ?_
         refine TA.take 1 (.int .i64 z3) rfl (by kernel_rfl) (by kernel_rfl) (by kernel_rfl) (fun _ _ _ h => h) (Hp.old (View.le_refl _) (View.le_refl _) (.cons_cons _ (.cons_cons _ (.cons_cons _ (.cons _ List.Sublist.slnil)))) (OldAll.box (OldAll.box (OldAll.box OldAll.nil)))) (by kernel_rfl) (fun _ _ => by kernel_rfl) ?_
         refine TA.take 2 (.int .i64 (IntKind.i64.wrap (z3 + 1))) rfl (by kernel_rfl) (by kernel_rfl) (by kernel_rfl) (fun _ _ _ h => h) (Hp.old (View.le_refl _) (View.le_refl _) (.cons_cons _ (.cons_cons _ (.cons_cons _ (.cons _ List.Sublist.slnil)))) (OldAll.box (OldAll.box (OldAll.box OldAll.nil)))) (by kernel_rfl) (fun _ _ => by kernel_rfl) ?_
         refine TA.take 4 (.slice A7 ((x1 ++ [(DElem.mk (DKey.mk 0 0 0) 0 0 (ByteArray.mk #[]))]).length) c7) rfl (by kernel_rfl) (by kernel_rfl) (by kernel_rfl) (fun _ _ _ h => h) (Hp.old (View.le_refl _) (View.le_refl _) (.cons_cons _ (.cons_cons _ (.cons_cons _ (.cons _ List.Sublist.slnil)))) (OldAll.box (OldAll.box (OldAll.box OldAll.nil)))) (by kernel_rfl) (fun w' hh => exec_load1 rfl rfl (by kernel_rfl) (hh.cellBox (i := 2) (by rfl) 0)) ?_
         refine TA.take 5 (.int .i64 z3) rfl (by kernel_rfl) (by kernel_rfl) (by kernel_rfl) (fun _ _ _ h => h) (Hp.old (View.le_refl _) (View.le_refl _) (.cons_cons _ (.cons_cons _ (.cons_cons _ (.cons _ List.Sublist.slnil)))) (OldAll.box (OldAll.box (OldAll.box OldAll.nil)))) (by kernel_rfl) (fun _ _ => by kernel_rfl) ?_
         refine TA.all [3, 6] (by kernel_rfl) rfl ⟨?_, ?_, trivial⟩
         ·
          refine TA.br rfl (W1.look (.slice (cutA A7 c7 (IntKind.i64.wrap (z3 + 1)).toNat 6) s3.length (c7 - (IntKind.i64.wrap (z3 + 1)).toNat)) (by kernel_rfl) (fun w' hh => exec_slice_list (e := 30) (s := 6) (lx := (some _)) (hx := none) (k := .i64) (k' := .i64) rfl rfl (by kernel_rfl) (by kernel_rfl) ((hh.row_slOk (i := 3) (by rfl))).1 rfl rfl hb12) ?_)
          refine TA.on (Hp.old (View.le_refl _) (View.le_refl _) (.cons_cons _ (.cons_cons _ (.cons_cons _ (.cons _ List.Sublist.slnil)))) (OldAll.box (OldAll.box (OldAll.box OldAll.nil)))) ?_
          refine TA.all [6] (by kernel_rfl) rfl ⟨?_, trivial⟩
          refine TA.br rfl (W1.look (.slice (cutA A7 c7 z3.toNat 6) s4.length (c7 - z3.toNat)) (by kernel_rfl) (fun w' hh => exec_slice_list (e := 30) (s := 6) (lx := (some _)) (hx := none) (k := .i64) (k' := .i64) rfl rfl (by kernel_rfl) (by kernel_rfl) ((hh.row_slOk (i := 3) (by rfl))).1 rfl rfl hb13) ?_)
          refine TA.on (Hp.old (View.le_refl _) (View.le_refl _) (.cons_cons _ (.cons_cons _ (.cons_cons _ (.cons _ List.Sublist.slnil)))) (OldAll.box (OldAll.box (OldAll.box OldAll.nil)))) ?_
          refine TA.all [7] (by kernel_rfl) rfl ⟨?_, trivial⟩
          refine TA.br rfl (W1.copy (E := eElem) (l := (x1 ++ [(DElem.mk (DKey.mk 0 0 0) 0 0 (ByteArray.mk #[]))])) (m := s4) 3 ((IntKind.i64.wrap (z3 + 1)).toNat) s3.length _ _ (by rfl) (by kernel_rfl) rfl (by kernel_rfl) (fun _ => by kernel_rfl) (by decide) rfl rfl (lslice_fit hb12) (fun w' hh => (SlOk.srcF (SlOk.cut (hh.row_slOk (i := 3) (by rfl)) hb13) (fun _ _ _ _ h => h))) ?_)
          have hl1 : (over (x1 ++ [(DElem.mk (DKey.mk 0 0 0) 0 0 (ByteArray.mk #[]))]) ((IntKind.i64.wrap (z3 + 1)).toNat) (s4.take s3.length)).length = (x1 ++ [(DElem.mk (DKey.mk 0 0 0) 0 0 (ByteArray.mk #[]))]).length := (by exact over_length _ _ _ (by rw [List.length_take]; have := (lslice_fit hb12); omega))
          refine TA.on (Hp.old (View.le_refl _) (View.le_refl _) (.cons_cons _ (.cons_cons _ (.cons_cons _ (.cons _ List.Sublist.slnil)))) (OldAll.box (OldAll.box (OldAll.box OldAll.nil)))) ?_
          refine T.reslot 42 (.slice A7 ((over (x1 ++ [(DElem.mk (DKey.mk 0 0 0) 0 0 (ByteArray.mk #[]))]) ((IntKind.i64.wrap (z3 + 1)).toNat) (s4.take s3.length)).length) c7) rfl (by simp only [hl1]) ?_
          refine T.reslot 43 (.slice A7 ((over (x1 ++ [(DElem.mk (DKey.mk 0 0 0) 0 0 (ByteArray.mk #[]))]) ((IntKind.i64.wrap (z3 + 1)).toNat) (s4.take s3.length)).length) c7) rfl (by simp only [hl1]) ?_
          refine T.reslot 47 (.slice A7 ((over (x1 ++ [(DElem.mk (DKey.mk 0 0 0) 0 0 (ByteArray.mk #[]))]) ((IntKind.i64.wrap (z3 + 1)).toNat) (s4.take s3.length)).length) c7) rfl (by simp only [hl1]) ?_
          refine T.reH (H' := [box b3 30 [.int .i64 0, .int .i64 0, .int .i64 0, .int .i64 0, .int .i64 0, .string (ByteArray.mk #[])], box b2 30 [.int .i64 e1.key.pfs, .int .i64 e1.key.obj, .int .i64 e1.key.off, .int .i64 e1.made, .int .i64 e1.gone, .string e1.val], box b1 22 [.slice A7 ((over (x1 ++ [(DElem.mk (DKey.mk 0 0 0) 0 0 (ByteArray.mk #[]))]) ((IntKind.i64.wrap (z3 + 1)).toNat) (s4.take s3.length)).length) c7], row 30 eElem A7 c7 (over (x1 ++ [(DElem.mk (DKey.mk 0 0 0) 0 0 (ByteArray.mk #[]))]) ((IntKind.i64.wrap (z3 + 1)).toNat) (s4.take s3.length))]) (by first | (simp only [hl1]; done) | (simp only [hl1]; rfl)) ?_
          refine TA.done (by kernel_rfl) ?_
          exact fun a w' hf hh => And.intro (((((((Fr.nil hf).pick hf 13 rfl).pick hf 12 rfl).pick hf 11 rfl).pick hf 8 rfl).pick hf 7 rfl).pick hf 5 rfl) (hh.sub (.cons _ (.cons_cons _ (.cons_cons _ (.cons_cons _ List.Sublist.slnil)))))
         ·
          refine TA.br rfl (W1.look (.slice (cutA A7 c7 z3.toNat 6) s4.length (c7 - z3.toNat)) (by kernel_rfl) (fun w' hh => exec_slice_list (e := 30) (s := 6) (lx := (some _)) (hx := none) (k := .i64) (k' := .i64) rfl rfl (by kernel_rfl) (by kernel_rfl) ((hh.row_slOk (i := 3) (by rfl))).1 rfl rfl hb13) ?_)
          refine TA.on (Hp.old (View.le_refl _) (View.le_refl _) (.cons_cons _ (.cons_cons _ (.cons_cons _ (.cons _ List.Sublist.slnil)))) (OldAll.box (OldAll.box (OldAll.box OldAll.nil)))) ?_
          refine TA.all [3] (by kernel_rfl) rfl ⟨?_, trivial⟩
          refine TA.br rfl (W1.look (.slice (cutA A7 c7 (IntKind.i64.wrap (z3 + 1)).toNat 6) s3.length (c7 - (IntKind.i64.wrap (z3 + 1)).toNat)) (by kernel_rfl) (fun w' hh => exec_slice_list (e := 30) (s := 6) (lx := (some _)) (hx := none) (k := .i64) (k' := .i64) rfl rfl (by kernel_rfl) (by kernel_rfl) ((hh.row_slOk (i := 3) (by rfl))).1 rfl rfl hb12) ?_)
          refine TA.on (Hp.old (View.le_refl _) (View.le_refl _) (.cons_cons _ (.cons_cons _ (.cons_cons _ (.cons _ List.Sublist.slnil)))) (OldAll.box (OldAll.box (OldAll.box OldAll.nil)))) ?_
          refine TA.all [7] (by kernel_rfl) rfl ⟨?_, trivial⟩
          refine TA.br rfl (W1.copy (E := eElem) (l := (x1 ++ [(DElem.mk (DKey.mk 0 0 0) 0 0 (ByteArray.mk #[]))])) (m := s4) 3 ((IntKind.i64.wrap (z3 + 1)).toNat) s3.length _ _ (by rfl) (by kernel_rfl) rfl (by kernel_rfl) (fun _ => by kernel_rfl) (by decide) rfl rfl (lslice_fit hb12) (fun w' hh => (SlOk.srcF (SlOk.cut (hh.row_slOk (i := 3) (by rfl)) hb13) (fun _ _ _ _ h => h))) ?_)
          have hl1 : (over (x1 ++ [(DElem.mk (DKey.mk 0 0 0) 0 0 (ByteArray.mk #[]))]) ((IntKind.i64.wrap (z3 + 1)).toNat) (s4.take s3.length)).length = (x1 ++ [(DElem.mk (DKey.mk 0 0 0) 0 0 (ByteArray.mk #[]))]).length := (by exact over_length _ _ _ (by rw [List.length_take]; have := (lslice_fit hb12); omega))
          refine TA.on (Hp.old (View.le_refl _) (View.le_refl _) (.cons_cons _ (.cons_cons _ (.cons_cons _ (.cons _ List.Sublist.slnil)))) (OldAll.box (OldAll.box (OldAll.box OldAll.nil)))) ?_
          refine T.reslot 42 (.slice A7 ((over (x1 ++ [(DElem.mk (DKey.mk 0 0 0) 0 0 (ByteArray.mk #[]))]) ((IntKind.i64.wrap (z3 + 1)).toNat) (s4.take s3.length)).length) c7) rfl (by simp only [hl1]) ?_
          refine T.reslot 43 (.slice A7 ((over (x1 ++ [(DElem.mk (DKey.mk 0 0 0) 0 0 (ByteArray.mk #[]))]) ((IntKind.i64.wrap (z3 + 1)).toNat) (s4.take s3.length)).length) c7) rfl (by simp only [hl1]) ?_
          refine T.reslot 47 (.slice A7 ((over (x1 ++ [(DElem.mk (DKey.mk 0 0 0) 0 0 (ByteArray.mk #[]))]) ((IntKind.i64.wrap (z3 + 1)).toNat) (s4.take s3.length)).length) c7) rfl (by simp only [hl1]) ?_
          refine T.reH (H' := [box b3 30 [.int .i64 0, .int .i64 0, .int .i64 0, .int .i64 0, .int .i64 0, .string (ByteArray.mk #[])], box b2 30 [.int .i64 e1.key.pfs, .int .i64 e1.key.obj, .int .i64 e1.key.off, .int .i64 e1.made, .int .i64 e1.gone, .string e1.val], box b1 22 [.slice A7 ((over (x1 ++ [(DElem.mk (DKey.mk 0 0 0) 0 0 (ByteArray.mk #[]))]) ((IntKind.i64.wrap (z3 + 1)).toNat) (s4.take s3.length)).length) c7], row 30 eElem A7 c7 (over (x1 ++ [(DElem.mk (DKey.mk 0 0 0) 0 0 (ByteArray.mk #[]))]) ((IntKind.i64.wrap (z3 + 1)).toNat) (s4.take s3.length))]) (by first | (simp only [hl1]; done) | (simp only [hl1]; rfl)) ?_
          refine TA.done (by kernel_rfl) ?_
          exact fun a w' hf hh => And.intro (((((((Fr.nil hf).pick hf 13 rfl).pick hf 12 rfl).pick hf 11 rfl).pick hf 8 rfl).pick hf 7 rfl).pick hf 5 rfl) (hh.sub (.cons _ (.cons_cons _ (.cons_cons _ (.cons_cons _ List.Sublist.slnil)))))
        ·
         rintro a w' ⟨hf, hh⟩
         refine (?_ : T 57 w (vw w) [box b2 30 [.int .i64 e1.key.pfs, .int .i64 e1.key.obj, .int .i64 e1.key.off, .int .i64 e1.made, .int .i64 e1.gone, .string e1.val], box b1 22 [.slice A7 ((over (x1 ++ [(DElem.mk (DKey.mk 0 0 0) 0 0 (ByteArray.mk #[]))]) ((IntKind.i64.wrap (z3 + 1)).toNat) (s4.take s3.length)).length) c7], row 30 eElem A7 c7 (over (x1 ++ [(DElem.mk (DKey.mk 0 0 0) 0 0 (ByteArray.mk #[]))]) ((IntKind.i64.wrap (z3 + 1)).toNat) (s4.take s3.length))] [(5, .pointer (some ⟨b1, 0, none⟩)), (7, .pointer (some ⟨b2, 0, none⟩)), (8, .int .i64 z3), (11, .slice A2 p1.length c2), (12, .int .i64 (p1.length : Int)), (13, .int .i64 x2)] _) a w' hf hh
         clear hf hh
         refine T.region ?_
         refine T.look (.slice A7 ((over (x1 ++ [(DElem.mk (DKey.mk 0 0 0) 0 0 (ByteArray.mk #[]))]) ((IntKind.i64.wrap (z3 + 1)).toNat) (s4.take s3.length)).length) c7) (by kernel_rfl) (fun w' hh => exec_load1 rfl rfl (by kernel_rfl) (hh.cellBox (i := 1) (by rfl) 0)) ?_
         refine T.pure (.int .i64 z3) (by kernel_rfl) (fun _ => by kernel_rfl) ?_
         refine T.look (.agg #[.int .i64 e1.key.pfs, .int .i64 e1.key.obj, .int .i64 e1.key.off, .int .i64 e1.made, .int .i64 e1.gone, .string e1.val]) (by kernel_rfl) (fun w' hh => exec_loadN (cs := [.int .i64 e1.key.pfs, .int .i64 e1.key.obj, .int .i64 e1.key.off, .int .i64 e1.made, .int .i64 e1.gone, .string e1.val]) rfl rfl (by kernel_rfl) (by kernel_rfl) (fun j u hj => (hh.box_at (i := 0) (cs := [.int .i64 e1.key.pfs, .int .i64 e1.key.obj, .int .i64 e1.key.off, .int .i64 e1.made, .int .i64 e1.gone, .string e1.val]) (by rfl) 0 j).trans (seg_at (n := 6) (by rfl) hj))) ?_
         obtain ⟨e5, hb14, hX1⟩ := Option.bind_eq_some_iff.1 hX1
         obtain ⟨hi13, hi14, hi15⟩ := idx_some hb14
         refine T.look (.pointer (some ((sadr A7).add (z3.toNat * 6)))) (by kernel_rfl) (fun w' hh => exec_indexAddr (e := 30) (s := 6) rfl rfl rfl (by kernel_rfl) (by kernel_rfl) hi13 hi14 ((hh.row_slOk (i := 2) (by rfl)).some_ hi15 (by decide))) ?_
         refine T.step (W1.storeRow (E := eElem) 2 (z3.toNat) 0 e5 e1 _ (vs := [.int .i64 e1.key.pfs, .int .i64 e1.key.obj, .int .i64 e1.key.off, .int .i64 e1.made, .int .i64 e1.gone, .string e1.val]) (by rfl) (by kernel_rfl) rfl rfl (addr_add0 _).symm rfl rfl (fun _ => by kernel_rfl) (one_of rfl) hi15 (Nat.le_of_ble_eq_true (by kernel_rfl)) (fun _ _ h => by cases h; rfl) ?_)
         refine T.reslot 51 (.slice A7 (((over (x1 ++ [(DElem.mk (DKey.mk 0 0 0) 0 0 (ByteArray.mk #[]))]) ((IntKind.i64.wrap (z3 + 1)).toNat) (s4.take s3.length)).set z3.toNat e1).length) c7) rfl (by simp only [List.length_set]) ?_
         refine T.reH (H' := [box b2 30 [.int .i64 e1.key.pfs, .int .i64 e1.key.obj, .int .i64 e1.key.off, .int .i64 e1.made, .int .i64 e1.gone, .string e1.val], box b1 22 [.slice A7 (((over (x1 ++ [(DElem.mk (DKey.mk 0 0 0) 0 0 (ByteArray.mk #[]))]) ((IntKind.i64.wrap (z3 + 1)).toNat) (s4.take s3.length)).set z3.toNat e1).length) c7], row 30 eElem A7 c7 ((over (x1 ++ [(DElem.mk (DKey.mk 0 0 0) 0 0 (ByteArray.mk #[]))]) ((IntKind.i64.wrap (z3 + 1)).toNat) (s4.take s3.length)).set z3.toNat e1)]) (by first | (simp only [List.length_set]; done) | (simp only [List.length_set]; rfl)) ?_
         refine T.nil ?_
         cases hX1
         exact fun a w' hf hh => Exists.intro A7 (Exists.intro c7 (And.intro (((((Fr.nil hf).pick hf 13 rfl).pick hf 12 rfl).pick hf 11 rfl).pick hf 5 rfl) (hh.sub (.cons _ (.cons_cons _ (.cons_cons _ List.Sublist.slnil))))))
    ·
     rintro a w' ⟨A6, c6, hf, hh⟩
     refine (?_ : T 57 w (vw w) [box b1 22 [.slice A6 z2.length c6], row 30 eElem A6 c6 z2] [(5, .pointer (some ⟨b1, 0, none⟩)), (11, .slice A2 p1.length c2), (12, .int .i64 (p1.length : Int)), (13, .int .i64 x2)] _) a w' hf hh
     clear hf hh
     refine T.region ?_
     refine T.pure (.int .i64 (IntKind.i64.wrap (x2 + 1))) (by kernel_rfl) (fun _ => by kernel_rfl) ?_
     refine T.pure (.int .i64 (IntKind.i64.wrap (x2 + 1))) (by kernel_rfl) (fun _ => by kernel_rfl) ?_
     refine T.nil ?_
     cases hY1
     exact fun a w' hf hh => Exists.intro (z2, IntKind.i64.wrap (x2 + 1)) (And.intro rfl (Exists.intro z2 (Exists.intro (IntKind.i64.wrap (x2 + 1)) (And.intro rfl (Exists.intro A6 (Exists.intro c6 (And.intro (((((Fr.nil hf).pick hf 13 rfl).pick hf 12 rfl).pick hf 11 rfl).pick hf 5 rfl) (hh.sub (.cons_cons _ (.cons_cons _ List.Sublist.slnil))))))))))
   ·
    rw [hc1, cond_false] at hY1
    refine T.exit ?_
    cases hY1
    cases (hr1 _ rfl)
    exact fun a w' hf hh => Exists.intro A4 (Exists.intro c4 (And.intro ((Fr.nil hf).pick hf 5 rfl) (hh.sub (.cons_cons _ (.cons_cons _ List.Sublist.slnil)))))
 ·
  rintro a w' ⟨A5, c5, hf, hh⟩
  refine (?_ : T 57 w (vw w) [box b1 22 [.slice A5 z1.length c5], row 30 eElem A5 c5 z1] [(5, .pointer (some ⟨b1, 0, none⟩))] _) a w' hf hh
  clear hf hh
  refine T.seq ?_
  refine T.region ?_
  refine T.look (.slice A5 z1.length c5) (by kernel_rfl) (fun w' hh => exec_load1 rfl rfl (by kernel_rfl) (hh.cellBox (i := 0) (by rfl) 0)) ?_
  refine T.pure (.slice A5 z1.length c5) (by kernel_rfl) (fun _ => by kernel_rfl) ?_
  refine T.nil ?_
  cases hF
  refine T.ret rfl ?_
  exact T.ret1 rfl (ResIs.tmp rfl) fun w' hh => ⟨(A5, c5), rfl, trivial, gives_of (hh.sub (.cons _ (.cons_cons _ List.Sublist.slnil))) ⟨flat_row (fun _ _ _ _ h => h), trivial⟩⟩
set_option maxRecDepth 100000 in
set_option maxHeartbeats 4000000 in
theorem stream_Feed_l (F : Nat) (p0 : (List DElem)) (p1 : ByteArray) (r : ((List DElem)) × Int) (hF : stream_Feed F p0 p1 = some r) (w : World) (A1 : Option Addr) (c1 : Nat) (hs1 : SlOk (vw w) eElem A1 c1 p0) :
 Calls Try.prog 26 #[.slice A1 p0.length c1, .string p1] w (fun e w' => ∃ p : Option Addr × Nat, e = .returned (.tuple #[.slice p.1 r.1.length p.2, .int .i64 r.2]) ∧ True ∧ Gives w w' [row 30 eElem p.1 p.2 r.1]) := by
 unfold stream_Feed at hF
 refine T.start (l := [.slice A1 p0.length c1, .string p1]) Try.func26 rfl rfl rfl ?_
 refine T.seq ?_
 refine T.region ?_
 refine T.pure (.slice none 0 0) (by kernel_rfl) (fun _ => by kernel_rfl) ?_
 refine T.pure (.int .i64 0) (by kernel_rfl) (fun _ => by kernel_rfl) ?_
 refine T.nil ?_
 refine T.seq ?_
 refine T.seq ?_
 refine T.region ?_
 refine T.pure (.slice A1 p0.length c1) (by kernel_rfl) (fun _ => by kernel_rfl) ?_
 obtain ⟨r1, hb1, hF⟩ := Option.bind_eq_some_iff.1 hF
 refine T.step (W1.call (vSc eInt) r1 28 #[.slice A1 p0.length c1] (by kernel_rfl) (fun _ => by kernel_rfl) (fun w' hh => run_Check_l F p0 r1 hb1 w' A1 c1 (SlOk.mono hs1 hh.view)) ?_)
 intro u V1 hV1 hu
 obtain rfl := sureInt _ _ _ hu
 refine T.pure (.int .i64 r1) (by kernel_rfl) (fun _ => by kernel_rfl) ?_
 refine T.nil ?_
 refine T.seq ?_
 refine T.region ?_
 refine T.pure (.int .i64 r1) (by kernel_rfl) (fun _ => by kernel_rfl) ?_
 refine T.pure (.bool (r1 != 0)) (by kernel_rfl) (fun _ => by kernel_rfl) ?_
 refine T.nil ?_
 refine T.cond (r1 != 0) (by kernel_rfl) (by kernel_rfl) (fun hc1 => ?_) (fun hc1 => ?_)
 ·
  rw [hc1, cond_true] at hF
  refine T.seq ?_
  refine T.region ?_
  refine T.pure (.int .i64 r1) (by kernel_rfl) (fun _ => by kernel_rfl) ?_
  refine T.pure (.slice none 0 0) (by kernel_rfl) (fun _ => by kernel_rfl) ?_
  refine T.pure (.int .i64 r1) (by kernel_rfl) (fun _ => by kernel_rfl) ?_
  refine T.nil ?_
  refine T.rownil 30 eElem ?_
  cases hF
  refine T.ret rfl ?_
  first | exact T.ret2 rfl (ResIs.tmp rfl) (ResIs.tmp rfl) fun w' hh => ⟨(none, 0), rfl, trivial, gives_of (hh.sub (.cons_cons _ List.Sublist.slnil)) ⟨flat_row (fun _ _ _ _ h => h), trivial⟩⟩ | (unfold Exit.then; dsimp only; exact T.ret2 rfl (ResIs.tmp rfl) (ResIs.tmp rfl) fun w' hh => ⟨(none, 0), rfl, trivial, gives_of (hh.sub (.cons_cons _ List.Sublist.slnil)) ⟨flat_row (fun _ _ _ _ h => h), trivial⟩⟩)
 ·
  rw [hc1, cond_false] at hF
  refine T.skip_code ?_
  refine T.seq ?_
  refine T.region ?_
  refine T.pure (.string p1) (by kernel_rfl) (fun _ => by kernel_rfl) ?_
  obtain ⟨r3, hb2, hF⟩ := Option.bind_eq_some_iff.1 hF
  refine T.step (W1.call (vT2 (vAg estream_Parsed) (vSc eInt)) r3 25 #[.string p1] (by kernel_rfl) (fun _ => by kernel_rfl) (fun w' hh => stream_Parse_l F p1 r3 hb2 w' ) ?_)
  intro u V2 hV2 hu
  obtain ⟨u1, u2, rfl, hu1, hu2⟩ := vT2_elim hu
  obtain ⟨cs1, rfl, hr1⟩ := vagg_elim hu1
  obtain ⟨A2, c2, rfl, hs2⟩ := hr1
  obtain rfl := sureInt _ _ _ hu2
  refine T.pure (.tuple #[.agg #[.int .i64 r3.1.pfs, .int .i64 r3.1.from_, .int .i64 r3.1.to, .slice A2 r3.1.elems.length c2], .int .i64 r3.2]) (by kernel_rfl) (fun _ => by kernel_rfl) ?_
  refine T.pure (.agg #[.int .i64 r3.1.pfs, .int .i64 r3.1.from_, .int .i64 r3.1.to, .slice A2 r3.1.elems.length c2]) (by kernel_rfl) (fun _ => by kernel_rfl) ?_
  refine T.pure (.int .i64 r3.2) (by kernel_rfl) (fun _ => by kernel_rfl) ?_
  refine T.step (W1.new 58 [.int .i64 0, .int .i64 0, .int .i64 0, .slice none 0 0] (fun b => .pointer (some ⟨b, 0, none⟩)) (by kernel_rfl) (fun _ => by kernel_rfl) (fun b1 => ?_))
  refine T.step (W1.store 0 [.int .i64 r3.1.pfs, .int .i64 r3.1.from_, .int .i64 r3.1.to, .slice A2 r3.1.elems.length c2] [box b1 58 [.int .i64 r3.1.pfs, .int .i64 r3.1.from_, .int .i64 r3.1.to, .slice A2 r3.1.elems.length c2]] (by rfl) rfl (by kernel_rfl) (fun w' hw => exec_store (vs := [.int .i64 r3.1.pfs, .int .i64 r3.1.from_, .int .i64 r3.1.to, .slice A2 r3.1.elems.length c2]) rfl rfl rfl rfl (by kernel_rfl) (one_of rfl) (by simp) rfl hw) ?_)
  refine T.pure (.int .i64 r3.2) (by kernel_rfl) (fun _ => by kernel_rfl) ?_
  refine T.nil ?_
  refine T.seq ?_
  refine T.seq ?_
  refine T.region ?_
  refine T.pure (.int .i64 r3.2) (by kernel_rfl) (fun _ => by kernel_rfl) ?_
  refine T.pure (.bool (r3.2 != 0)) (by kernel_rfl) (fun _ => by kernel_rfl) ?_
  refine T.nil ?_
  refine T.cond (r3.2 != 0) (by kernel_rfl) (by kernel_rfl) (fun hc2 => ?_) (fun hc2 => ?_)
  ·
   rw [hc2, cond_true] at hF
   refine T.seq ?_
   refine T.region ?_
   refine T.pure (.int .i64 r3.2) (by kernel_rfl) (fun _ => by kernel_rfl) ?_
   refine T.pure (.slice none 0 0) (by kernel_rfl) (fun _ => by kernel_rfl) ?_
   refine T.pure (.int .i64 r3.2) (by kernel_rfl) (fun _ => by kernel_rfl) ?_
   refine T.nil ?_
   refine T.rownil 30 eElem ?_
   cases hF
   refine T.ret rfl ?_
   first | exact T.ret2 rfl (ResIs.tmp rfl) (ResIs.tmp rfl) fun w' hh => ⟨(none, 0), rfl, trivial, gives_of (hh.sub (.cons_cons _ (.cons _ List.Sublist.slnil))) ⟨flat_row (fun _ _ _ _ h => h), trivial⟩⟩ | (unfold Exit.then; dsimp only; exact T.ret2 rfl (ResIs.tmp rfl) (ResIs.tmp rfl) fun w' hh => ⟨(none, 0), rfl, trivial, gives_of (hh.sub (.cons_cons _ (.cons _ List.Sublist.slnil))) ⟨flat_row (fun _ _ _ _ h => h), trivial⟩⟩)
  ·
   rw [hc2, cond_false] at hF
   refine T.skip_code ?_
   refine T.seq ?_
   refine T.region ?_
   refine T.pure (.slice A1 p0.length c1) (by kernel_rfl) (fun _ => by kernel_rfl) ?_
   refine T.pure (.pointer (some ⟨b1, 3, none⟩)) (by kernel_rfl) (fun _ => by kernel_rfl) ?_
   refine T.look (.slice A2 r3.1.elems.length c2) (by kernel_rfl) (fun w' hh => exec_load1 rfl rfl (by kernel_rfl) (hh.cellBox (i := 0) (by rfl) 3)) ?_
   obtain ⟨r5, hb3, hF⟩ := Option.bind_eq_some_iff.1 hF
   refine T.step (W1.callG 39 #[.slice A1 p0.length c1, .slice A2 r3.1.elems.length c2] (fun p : Option Addr × Nat => .slice p.1 r5.length p.2) (fun p => [row 30 eElem p.1 p.2 r5]) (fun _ => True) (by kernel_rfl) (fun _ => by kernel_rfl) (fun w' hh => stream_Merge_l F p0 r3.1.elems r5 hb3 w' A1 c1 (SlOk.mono (SlOk.mono hs1 (View.le_trans hV1 hV2)) hh.view) A2 c2 (SlOk.mono (SlOk.mono hs2 (View.le_trans (made_le _ _) (View.le_refl _))) hh.view)) ?_)
   rintro ⟨A3, c3⟩ _
   refine T.reH (H' := [row 30 eElem A3 c3 r5, box b1 58 [.int .i64 r3.1.pfs, .int .i64 r3.1.from_, .int .i64 r3.1.to, .slice A2 r3.1.elems.length c2]]) (by rfl) ?_
   refine T.pure (.slice A3 r5.length c3) (by kernel_rfl) (fun _ => by kernel_rfl) ?_
   refine T.nil ?_
   refine T.seq ?_
   refine T.seq ?_
   refine T.region ?_
   refine T.pure (.slice A3 r5.length c3) (by kernel_rfl) (fun _ => by kernel_rfl) ?_
   refine T.pure (.int .i64 (r5.length : Int)) (by kernel_rfl) (fun _ => by kernel_rfl) ?_
   refine T.pure (.bool (decide ((400 : Int) < (r5.length : Int)))) (by kernel_rfl) (fun _ => by kernel_rfl) ?_
   refine T.nil ?_
   refine T.cond (decide ((400 : Int) < (r5.length : Int))) (by kernel_rfl) (by kernel_rfl) (fun hc3 => ?_) (fun hc3 => ?_)
   ·
    rw [hc3, cond_true] at hF
    refine T.seq ?_
    refine T.region ?_
    refine T.pure (.slice none 0 0) (by kernel_rfl) (fun _ => by kernel_rfl) ?_
    refine T.pure (.int .i64 8) (by kernel_rfl) (fun _ => by kernel_rfl) ?_
    refine T.nil ?_
    refine T.rownil 30 eElem ?_
    cases hF
    refine T.ret rfl ?_
    first | exact T.ret2 rfl (ResIs.tmp rfl) (ResIs.tmp rfl) fun w' hh => ⟨(none, 0), rfl, trivial, gives_of (hh.sub (.cons_cons _ (.cons _ (.cons _ List.Sublist.slnil)))) ⟨flat_row (fun _ _ _ _ h => h), trivial⟩⟩ | (unfold Exit.then; dsimp only; exact T.ret2 rfl (ResIs.tmp rfl) (ResIs.tmp rfl) fun w' hh => ⟨(none, 0), rfl, trivial, gives_of (hh.sub (.cons_cons _ (.cons _ (.cons _ List.Sublist.slnil)))) ⟨flat_row (fun _ _ _ _ h => h), trivial⟩⟩)
   ·
    rw [hc3, cond_false] at hF
    refine T.skip_code ?_
    refine T.seq ?_
    refine T.seq ?_
    refine T.region ?_
    refine T.pure (.slice A3 r5.length c3) (by kernel_rfl) (fun _ => by kernel_rfl) ?_
    obtain ⟨r8, hb4, hF⟩ := Option.bind_eq_some_iff.1 hF
    refine T.step (W1.call (vSc eInt) r8 28 #[.slice A3 r5.length c3] (by kernel_rfl) (fun _ => by kernel_rfl) (fun w' hh => run_Check_l F r5 r8 hb4 w' A3 c3 (hh.row_slOk (i := 0) (by rfl))) ?_)
    intro u V3 hV3 hu
    obtain rfl := sureInt _ _ _ hu
    refine T.pure (.bool (r8 != 0)) (by kernel_rfl) (fun _ => by kernel_rfl) ?_
    refine T.nil ?_
    refine T.cond (r8 != 0) (by kernel_rfl) (by kernel_rfl) (fun hc4 => ?_) (fun hc4 => ?_)
    ·
     rw [hc4, cond_true] at hF
     refine T.seq ?_
     refine T.region ?_
     refine T.pure (.slice none 0 0) (by kernel_rfl) (fun _ => by kernel_rfl) ?_
     refine T.pure (.int .i64 3) (by kernel_rfl) (fun _ => by kernel_rfl) ?_
     refine T.nil ?_
     refine T.rownil 30 eElem ?_
     cases hF
     refine T.ret rfl ?_
     first | exact T.ret2 rfl (ResIs.tmp rfl) (ResIs.tmp rfl) fun w' hh => ⟨(none, 0), rfl, trivial, gives_of (hh.sub (.cons_cons _ (.cons _ (.cons _ List.Sublist.slnil)))) ⟨flat_row (fun _ _ _ _ h => h), trivial⟩⟩ | (unfold Exit.then; dsimp only; exact T.ret2 rfl (ResIs.tmp rfl) (ResIs.tmp rfl) fun w' hh => ⟨(none, 0), rfl, trivial, gives_of (hh.sub (.cons_cons _ (.cons _ (.cons _ List.Sublist.slnil)))) ⟨flat_row (fun _ _ _ _ h => h), trivial⟩⟩)
    ·
     rw [hc4, cond_false] at hF
     refine T.skip_code ?_
     refine T.seq ?_
     refine T.region ?_
     refine T.pure (.slice A3 r5.length c3) (by kernel_rfl) (fun _ => by kernel_rfl) ?_
     refine T.pure (.slice A3 r5.length c3) (by kernel_rfl) (fun _ => by kernel_rfl) ?_
     refine T.pure (.int .i64 0) (by kernel_rfl) (fun _ => by kernel_rfl) ?_
     refine T.nil ?_
     cases hF
     refine T.ret rfl ?_
     first | exact T.ret2 rfl (ResIs.tmp rfl) (ResIs.tmp rfl) fun w' hh => ⟨(A3, c3), rfl, trivial, gives_of (hh.sub (.cons_cons _ (.cons _ List.Sublist.slnil))) ⟨flat_row (fun _ _ _ _ h => h), trivial⟩⟩ | (unfold Exit.then; dsimp only; exact T.ret2 rfl (ResIs.tmp rfl) (ResIs.tmp rfl) fun w' hh => ⟨(A3, c3), rfl, trivial, gives_of (hh.sub (.cons_cons _ (.cons _ List.Sublist.slnil))) ⟨flat_row (fun _ _ _ _ h => h), trivial⟩⟩)
end Go.Proofs.Ytfbjmeehmanjnaa
