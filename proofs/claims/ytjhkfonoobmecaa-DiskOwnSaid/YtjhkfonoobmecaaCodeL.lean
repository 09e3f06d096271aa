/- The Go functions of group Code compute the pure functions of that group: written by walkgen.py. Condition of each: the pure function yields a result. -/
import Derived.Test.YtjhkfonoobmecaaCodeF
import Derived.Test.YtjhkfonoobmecaaEqL
namespace Go.Proofs.Ytjhkfonoobmecaa
set_option linter.unusedVariables false

set_option maxRecDepth 100000 in
set_option maxHeartbeats 4000000 in
theorem sum_Of_l (F : Nat) (p0 : ByteArray) (r : Int) (hF : sum_Of F p0 = some r) (w : World)  :
    Calls Try.prog 42 #[.string p0] w (Post (vSc eInt) r w) := by
 unfold sum_Of at hF
 refine T.start (l := [.string p0]) Try.func42 rfl rfl rfl ?_
 refine T.seq ?_
 refine T.region ?_
 refine T.pure (.int .i64 0) (by kernel_rfl) (fun _ => by kernel_rfl) ?_
 refine T.nil ?_
 refine T.seq ?_
 refine T.region ?_
 refine T.pure (.int .u16 0) (by kernel_rfl) (fun _ => by kernel_rfl) ?_
 refine T.nil ?_
 refine T.seq ?_
 refine T.seq ?_
 refine T.region ?_
 refine T.pure (.string p0) (by kernel_rfl) (fun _ => by kernel_rfl) ?_
 refine T.pure (.int .i64 (p0.size : Int)) (by kernel_rfl) (fun _ => by kernel_rfl) ?_
 refine T.pure (.int .i64 0) (by kernel_rfl) (fun _ => by kernel_rfl) ?_
 refine T.nil ?_
 obtain ⟨z1, hz1, hF⟩ := Option.bind_eq_some_iff.1 hF
 refine T.mid (fun a w' => Fr 31 [(3, .int .u16 z1)] a ∧ Hp w (vw w) [] w') ?_ ?_
 ·
  refine T.block ?_
  refine T.iter (fun s1 a w' => ∃ (x1 : Int) (x2 : Int), s1 = (x1, x2) ∧ Fr 31 [(0, .string p0), (3, .int .u16 x1), (6, .int .i64 (p0.size : Int)), (7, .int .i64 x2)] a ∧ Hp w (vw w) [] w') hz1 ?_ ?_
  ·
   exact fun a w' hf hh => Exists.intro 0 (Exists.intro 0 (And.intro rfl (And.intro (((((Fr.nil hf).pick hf 7 rfl).pick hf 6 rfl).pick hf 3 rfl).pick hf 0 rfl) (hh.sub List.Sublist.slnil))))
  ·
   rintro s1 y1 hY1 hr1 a w' ⟨x1, x2, rfl, hf, hh⟩
   refine (?_ : T 31 w (vw w) [] [(0, .string p0), (3, .int .u16 x1), (6, .int .i64 (p0.size : Int)), (7, .int .i64 x2)] _) a w' hf hh
   clear hf hh
   try dsimp only at hY1
   refine T.seq ?_
   refine T.region ?_
   refine T.pure (.bool (decide (x2 < (p0.size : Int)))) (by kernel_rfl) (fun _ => by kernel_rfl) ?_
   refine T.nil ?_
   refine T.seq ?_
   refine T.cond (decide (x2 < (p0.size : Int))) (by kernel_rfl) (by kernel_rfl) (fun hc1 => ?_) (fun hc1 => ?_)
   ·
    rw [hc1, cond_true] at hY1
    refine T.skip_code ?_
    refine T.seq ?_
    refine T.block ?_
    refine T.seq ?_
    refine T.region ?_
    refine T.pure (.int .i64 x2) (by kernel_rfl) (fun _ => by kernel_rfl) ?_
    refine T.pure (.int .i64 x2) (by kernel_rfl) (fun _ => by kernel_rfl) ?_
    refine T.nil ?_
    refine T.seq ?_
    refine T.region ?_
    refine T.pure (.int .u16 x1) (by kernel_rfl) (fun _ => by kernel_rfl) ?_
    refine T.pure (.string p0) (by kernel_rfl) (fun _ => by kernel_rfl) ?_
    refine T.pure (.int .i64 x2) (by kernel_rfl) (fun _ => by kernel_rfl) ?_
    obtain ⟨b1, hb1, hY1⟩ := Option.bind_eq_some_iff.1 hY1
    refine T.look (.int .u8 (b1.toNat : Int)) (by kernel_rfl) (fun w' hh => exec_index_str rfl rfl rfl (by kernel_rfl) hb1) ?_
    refine T.pure (.int .u16 (IntKind.u16.wrap (b1.toNat : Int))) (by kernel_rfl) (fun _ => by kernel_rfl) ?_
    refine T.pure (.int .u16 (shl .u16 (IntKind.u16.wrap (b1.toNat : Int)) 8)) (by kernel_rfl) (fun _ => by kernel_rfl) ?_
    refine T.pure (.int .u16 (bxor .u16 x1 (shl .u16 (IntKind.u16.wrap (b1.toNat : Int)) 8))) (by kernel_rfl) (fun _ => by kernel_rfl) ?_
    refine T.pure (.int .u16 (bxor .u16 x1 (shl .u16 (IntKind.u16.wrap (b1.toNat : Int)) 8))) (by kernel_rfl) (fun _ => by kernel_rfl) ?_
    refine T.nil ?_
    refine T.seq ?_
    refine T.region ?_
    refine T.pure (.int .i64 0) (by kernel_rfl) (fun _ => by kernel_rfl) ?_
    refine T.nil ?_
    obtain ⟨z2, hz2, hY1⟩ := Option.bind_eq_some_iff.1 hY1
    refine T.mid (fun a w' => Fr 31 [(0, .string p0), (3, .int .u16 z2), (6, .int .i64 (p0.size : Int)), (7, .int .i64 x2)] a ∧ Hp w (vw w) [] w') ?_ ?_
    ·
     refine T.block ?_
     refine T.iter (fun s2 a w' => ∃ (x3 : Int) (x4 : Int), s2 = (x3, x4) ∧ Fr 31 [(0, .string p0), (3, .int .u16 x3), (6, .int .i64 (p0.size : Int)), (7, .int .i64 x2), (17, .int .i64 x4)] a ∧ Hp w (vw w) [] w') hz2 ?_ ?_
     ·
      exact fun a w' hf hh => Exists.intro (bxor .u16 x1 (shl .u16 (IntKind.u16.wrap (b1.toNat : Int)) 8)) (Exists.intro 0 (And.intro rfl (And.intro ((((((Fr.nil hf).pick hf 17 rfl).pick hf 7 rfl).pick hf 6 rfl).pick hf 3 rfl).pick hf 0 rfl) (hh.sub List.Sublist.slnil))))
     ·
      rintro s2 y2 hY2 hr2 a w' ⟨x3, x4, rfl, hf, hh⟩
      refine (?_ : T 31 w (vw w) [] [(0, .string p0), (3, .int .u16 x3), (6, .int .i64 (p0.size : Int)), (7, .int .i64 x2), (17, .int .i64 x4)] _) a w' hf hh
      clear hf hh
      try dsimp only at hY2
      refine T.seq ?_
      refine T.region ?_
      refine T.pure (.bool (decide (x4 < 8))) (by kernel_rfl) (fun _ => by kernel_rfl) ?_
      refine T.nil ?_
      refine T.seq ?_
      refine T.cond (decide (x4 < 8)) (by kernel_rfl) (by kernel_rfl) (fun hc2 => ?_) (fun hc2 => ?_)
      ·
       rw [hc2, cond_true] at hY2
       refine T.skip_code ?_
       obtain ⟨z3, hX1, hY2⟩ := Option.bind_eq_some_iff.1 hY2
       refine T.cut (fun a w' => Fr 31 [(0, .string p0), (3, .int .u16 z3), (6, .int .i64 (p0.size : Int)), (7, .int .i64 x2), (17, .int .i64 x4)] a ∧ Hp w (vw w) [] w') ?_ ?_
       ·
        refine T.block ?_
        refine T.seq ?_
        refine T.region ?_
        refine T.pure (.int .u16 x3) (by kernel_rfl) (fun _ => by kernel_rfl) ?_
        refine T.pure (.int .u16 (band .u16 x3 32768)) (by kernel_rfl) (fun _ => by kernel_rfl) ?_
        refine T.pure (.bool ((band .u16 x3 32768) != 0)) (by kernel_rfl) (fun _ => by kernel_rfl) ?_
        refine T.nil ?_
        refine T.cond ((band .u16 x3 32768) != 0) (by kernel_rfl) (by kernel_rfl) (fun hc3 => ?_) (fun hc3 => ?_)
        ·
         rw [hc3, cond_true] at hX1
         refine T.region ?_
         refine T.pure (.int .u16 x3) (by kernel_rfl) (fun _ => by kernel_rfl) ?_
         refine T.pure (.int .u16 (shl .u16 x3 1)) (by kernel_rfl) (fun _ => by kernel_rfl) ?_
         refine T.pure (.int .u16 (bxor .u16 (shl .u16 x3 1) 4129)) (by kernel_rfl) (fun _ => by kernel_rfl) ?_
         refine T.pure (.int .u16 (bxor .u16 (shl .u16 x3 1) 4129)) (by kernel_rfl) (fun _ => by kernel_rfl) ?_
         refine T.nil ?_
         cases hX1
         exact fun a w' hf hh => And.intro ((((((Fr.nil hf).pick hf 17 rfl).pick hf 7 rfl).pick hf 6 rfl).pick hf 3 rfl).pick hf 0 rfl) (hh.sub List.Sublist.slnil)
        ·
         rw [hc3, cond_false] at hX1
         refine T.region ?_
         refine T.pure (.int .u16 x3) (by kernel_rfl) (fun _ => by kernel_rfl) ?_
         refine T.pure (.int .u16 (shl .u16 x3 1)) (by kernel_rfl) (fun _ => by kernel_rfl) ?_
         refine T.pure (.int .u16 (shl .u16 x3 1)) (by kernel_rfl) (fun _ => by kernel_rfl) ?_
         refine T.nil ?_
         cases hX1
         exact fun a w' hf hh => And.intro ((((((Fr.nil hf).pick hf 17 rfl).pick hf 7 rfl).pick hf 6 rfl).pick hf 3 rfl).pick hf 0 rfl) (hh.sub List.Sublist.slnil)
       ·
        rintro a w' ⟨hf, hh⟩
        refine (?_ : T 31 w (vw w) [] [(0, .string p0), (3, .int .u16 z3), (6, .int .i64 (p0.size : Int)), (7, .int .i64 x2), (17, .int .i64 x4)] _) a w' hf hh
        clear hf hh
        refine T.region ?_
        refine T.pure (.int .i64 (IntKind.i64.wrap (x4 + 1))) (by kernel_rfl) (fun _ => by kernel_rfl) ?_
        refine T.pure (.int .i64 (IntKind.i64.wrap (x4 + 1))) (by kernel_rfl) (fun _ => by kernel_rfl) ?_
        refine T.nil ?_
        cases hY2
        exact fun a w' hf hh => Exists.intro (z3, IntKind.i64.wrap (x4 + 1)) (And.intro rfl (Exists.intro z3 (Exists.intro (IntKind.i64.wrap (x4 + 1)) (And.intro rfl (And.intro ((((((Fr.nil hf).pick hf 17 rfl).pick hf 7 rfl).pick hf 6 rfl).pick hf 3 rfl).pick hf 0 rfl) (hh.sub List.Sublist.slnil))))))
      ·
       rw [hc2, cond_false] at hY2
       refine T.exit ?_
       cases hY2
       cases (hr2 _ rfl)
       exact fun a w' hf hh => And.intro (((((Fr.nil hf).pick hf 7 rfl).pick hf 6 rfl).pick hf 3 rfl).pick hf 0 rfl) (hh.sub List.Sublist.slnil)
    ·
     rintro a w' ⟨hf, hh⟩
     refine (?_ : T 31 w (vw w) [] [(0, .string p0), (3, .int .u16 z2), (6, .int .i64 (p0.size : Int)), (7, .int .i64 x2)] _) a w' hf hh
     clear hf hh
     refine T.region ?_
     refine T.pure (.int .i64 (IntKind.i64.wrap (x2 + 1))) (by kernel_rfl) (fun _ => by kernel_rfl) ?_
     refine T.pure (.int .i64 (IntKind.i64.wrap (x2 + 1))) (by kernel_rfl) (fun _ => by kernel_rfl) ?_
     refine T.nil ?_
     cases hY1
     exact fun a w' hf hh => Exists.intro (z2, IntKind.i64.wrap (x2 + 1)) (And.intro rfl (Exists.intro z2 (Exists.intro (IntKind.i64.wrap (x2 + 1)) (And.intro rfl (And.intro (((((Fr.nil hf).pick hf 7 rfl).pick hf 6 rfl).pick hf 3 rfl).pick hf 0 rfl) (hh.sub List.Sublist.slnil))))))
   ·
    rw [hc1, cond_false] at hY1
    refine T.exit ?_
    cases hY1
    cases (hr1 _ rfl)
    exact fun a w' hf hh => And.intro ((Fr.nil hf).pick hf 3 rfl) (hh.sub List.Sublist.slnil)
 ·
  rintro a w' ⟨hf, hh⟩
  refine (?_ : T 31 w (vw w) [] [(3, .int .u16 z1)] _) a w' hf hh
  clear hf hh
  refine T.seq ?_
  refine T.region ?_
  refine T.pure (.int .u16 z1) (by kernel_rfl) (fun _ => by kernel_rfl) ?_
  refine T.pure (.int .i64 (IntKind.i64.wrap z1)) (by kernel_rfl) (fun _ => by kernel_rfl) ?_
  refine T.pure (.int .i64 (IntKind.i64.wrap z1)) (by kernel_rfl) (fun _ => by kernel_rfl) ?_
  refine T.nil ?_
  cases hF
  refine T.ret rfl ?_
  exact T.ret1 rfl (ResIs.tmp rfl) fun w' hh => ⟨_, rfl, hh.below, (show _ from rfl)⟩

set_option maxRecDepth 100000 in
set_option maxHeartbeats 4000000 in
theorem frame_two_l (p0 : Int) (r : ByteArray) (hF : frame_two p0 = some r) (w : World)  :
    Calls Try.prog 44 #[.int .i64 p0] w (Post (vSc eStr) r w) := by
 unfold frame_two at hF
 refine T.start (l := [.int .i64 p0]) Try.func44 rfl rfl rfl ?_
 refine T.seq ?_
 refine T.region ?_
 refine T.pure (.string (ByteArray.mk #[])) (by kernel_rfl) (fun _ => by kernel_rfl) ?_
 refine T.nil ?_
 refine T.seq ?_
 refine T.region ?_
 refine T.pure (.int .i64 p0) (by kernel_rfl) (fun _ => by kernel_rfl) ?_
 refine T.pure (.int .i64 (shr .i64 p0 8)) (by kernel_rfl) (fun _ => by kernel_rfl) ?_
 refine T.pure (.int .u8 (IntKind.u8.wrap (shr .i64 p0 8))) (by kernel_rfl) (fun _ => by kernel_rfl) ?_
 refine T.pure (.int .i64 p0) (by kernel_rfl) (fun _ => by kernel_rfl) ?_
 refine T.pure (.int .u8 (IntKind.u8.wrap p0)) (by kernel_rfl) (fun _ => by kernel_rfl) ?_
 refine T.step (W1.new 5 [.int .u8 (IntKind.u8.wrap (shr .i64 p0 8)), .int .u8 (IntKind.u8.wrap p0)] (fun b => .slice (some ⟨b, 0, none⟩) 2 2) (by kernel_rfl) (fun _ => by kernel_rfl) (fun b1 => ?_))
 refine T.look (.string (bytesOf [IntKind.u8.wrap (shr .i64 p0 8), IntKind.u8.wrap p0])) (by kernel_rfl) (fun w' hh => exec_bytes_str (e := 5) rfl rfl (by kernel_rfl) (by kernel_rfl) (by kernel_rfl) (slok_lit (E := (eK .u8)) (f := (fun x => [.int .u8 x])) [IntKind.u8.wrap (shr .i64 p0 8), IntKind.u8.wrap p0] (fun _ _ => rfl) (Nat.le_of_ble_eq_true (by rfl)) (fun j => hh.cellBox (i := 0) (by rfl) j))) ?_
 refine T.pure (.string (bytesOf [IntKind.u8.wrap (shr .i64 p0 8), IntKind.u8.wrap p0])) (by kernel_rfl) (fun _ => by kernel_rfl) ?_
 refine T.nil ?_
 cases hF
 refine T.ret rfl ?_
 exact T.ret1 rfl (ResIs.tmp rfl) fun w' hh => ⟨_, rfl, hh.below, (show _ from rfl)⟩

set_option maxRecDepth 100000 in
set_option maxHeartbeats 4000000 in
theorem frame_number_l (p0 : ByteArray) (r : Int) (hF : frame_number p0 = some r) (w : World)  :
    Calls Try.prog 41 #[.string p0] w (Post (vSc eInt) r w) := by
 unfold frame_number at hF
 refine T.start (l := [.string p0]) Try.func41 rfl rfl rfl ?_
 refine T.seq ?_
 refine T.region ?_
 refine T.pure (.int .i64 0) (by kernel_rfl) (fun _ => by kernel_rfl) ?_
 refine T.nil ?_
 refine T.seq ?_
 refine T.quiet (by kernel_rfl) (by kernel_rfl) ?_
 refine TQ.pure (.string p0) (by kernel_rfl) (fun _ => by kernel_rfl) ?_
 obtain ⟨b1, hb1, hF⟩ := Option.bind_eq_some_iff.1 hF
 refine TQ.look (.int .u8 (b1.toNat : Int)) (by kernel_rfl) (fun w' hh => exec_index_str rfl rfl rfl (by kernel_rfl) hb1) ?_
 refine TQ.pure (.int .i64 (IntKind.i64.wrap (b1.toNat : Int))) (by kernel_rfl) (fun _ => by kernel_rfl) ?_
 refine TQ.pure (.int .i64 (shl .i64 (IntKind.i64.wrap (b1.toNat : Int)) 8)) (by kernel_rfl) (fun _ => by kernel_rfl) ?_
 refine TQ.pure (.string p0) (by kernel_rfl) (fun _ => by kernel_rfl) ?_
 obtain ⟨b2, hb2, hF⟩ := Option.bind_eq_some_iff.1 hF
 refine TQ.look (.int .u8 (b2.toNat : Int)) (by kernel_rfl) (fun w' hh => exec_index_str rfl rfl rfl (by kernel_rfl) hb2) ?_
 refine TQ.pure (.int .i64 (IntKind.i64.wrap (b2.toNat : Int))) (by kernel_rfl) (fun _ => by kernel_rfl) ?_
 refine TQ.pure (.int .i64 (bor .i64 (shl .i64 (IntKind.i64.wrap (b1.toNat : Int)) 8) (IntKind.i64.wrap (b2.toNat : Int)))) (by kernel_rfl) (fun _ => by kernel_rfl) ?_
 refine TQ.pure (.int .i64 (bor .i64 (shl .i64 (IntKind.i64.wrap (b1.toNat : Int)) 8) (IntKind.i64.wrap (b2.toNat : Int)))) (by kernel_rfl) (fun _ => by kernel_rfl) ?_
 refine TQ.nil ?_
 cases hF
 refine T.ret rfl ?_
 exact T.ret1 rfl (ResIs.tmp rfl) fun w' hh => ⟨_, rfl, hh.below, (show _ from rfl)⟩

set_option maxRecDepth 100000 in
set_option maxHeartbeats 4000000 in
theorem frame_Put_l (F : Nat) (p0 : DFrame) (r : ByteArray × Int) (hF : frame_Put F p0 = some r) (w : World)  :
    Calls Try.prog 33 #[.agg #[.int .i64 p0.kind, .string p0.body]] w (Post (vT2 (vSc eStr) (vSc eInt)) r w) := by
 unfold frame_Put at hF
 refine T.start (l := [.agg #[.int .i64 p0.kind, .string p0.body]]) Try.func33 rfl rfl rfl ?_
 refine T.seq ?_
 refine T.region ?_
 refine T.step (W1.new 58 [.int .i64 p0.kind, .string p0.body] (fun b => .pointer (some ⟨b, 0, none⟩)) (by kernel_rfl) (fun _ => by kernel_rfl) (fun b1 => ?_))
 refine T.pure (.string (ByteArray.mk #[])) (by kernel_rfl) (fun _ => by kernel_rfl) ?_
 refine T.pure (.int .i64 0) (by kernel_rfl) (fun _ => by kernel_rfl) ?_
 refine T.nil ?_
 refine T.seq ?_
 refine T.cut (fun a w' => Fr 35 [(1, .pointer (some ⟨b1, 0, none⟩)), (12, .bool ((decide (p0.kind < 1)) || (decide ((255 : Int) < p0.kind))))] a ∧ Hp w (vw w) [box b1 58 [.int .i64 p0.kind, .string p0.body]] w') ?_ ?_
 ·
  refine T.region ?_
  refine T.pure (.pointer (some ⟨b1, 0, none⟩)) (by kernel_rfl) (fun _ => by kernel_rfl) ?_
  refine T.look (.int .i64 p0.kind) (by kernel_rfl) (fun w' hh => exec_load1 rfl rfl (by kernel_rfl) (hh.cellBox (i := 0) (by rfl) 0)) ?_
  refine T.pure (.bool (decide (p0.kind < 1))) (by kernel_rfl) (fun _ => by kernel_rfl) ?_
  refine T.pure (.bool (decide (p0.kind < 1))) (by kernel_rfl) (fun _ => by kernel_rfl) ?_
  cases hg1 : decide (p0.kind < 1)
  ·
   skip
   refine T.pure (.pointer (some ⟨b1, 0, none⟩)) (by kernel_rfl) (fun _ => by kernel_rfl) ?_
   refine T.look (.int .i64 p0.kind) (by kernel_rfl) (fun w' hh => exec_load1 rfl rfl (by kernel_rfl) (hh.cellBox (i := 0) (by rfl) 0)) ?_
   refine T.pure (.bool (decide ((255 : Int) < p0.kind))) (by kernel_rfl) (fun _ => by kernel_rfl) ?_
   refine T.pure (.bool (decide ((255 : Int) < p0.kind))) (by kernel_rfl) (fun _ => by kernel_rfl) ?_
   refine T.nil ?_
   exact fun a w' hf hh => And.intro (((Fr.nil hf).pick hf 12 rfl).pick hf 1 rfl) (hh.sub (.cons_cons _ List.Sublist.slnil))
  ·
   skip
   refine T.pass (by kernel_rfl) (by kernel_rfl) ?_
   refine T.pass (by kernel_rfl) (by kernel_rfl) ?_
   refine T.pass (by kernel_rfl) (by kernel_rfl) ?_
   refine T.pure (.bool true) (by kernel_rfl) (fun _ => by kernel_rfl) ?_
   refine T.nil ?_
   exact fun a w' hf hh => And.intro (((Fr.nil hf).pick hf 12 rfl).pick hf 1 rfl) (hh.sub (.cons_cons _ List.Sublist.slnil))
 ·
  rintro a w' ⟨hf, hh⟩
  refine (?_ : T 35 w (vw w) [box b1 58 [.int .i64 p0.kind, .string p0.body]] [(1, .pointer (some ⟨b1, 0, none⟩)), (12, .bool ((decide (p0.kind < 1)) || (decide ((255 : Int) < p0.kind))))] _) a w' hf hh
  clear hf hh
  refine T.cond ((decide (p0.kind < 1)) || (decide ((255 : Int) < p0.kind))) (by kernel_rfl) (by kernel_rfl) (fun hc1 => ?_) (fun hc1 => ?_)
  ·
   rw [hc1, cond_true] at hF
   refine T.seq ?_
   refine T.region ?_
   refine T.pure (.string (ByteArray.mk #[])) (by kernel_rfl) (fun _ => by kernel_rfl) ?_
   refine T.pure (.int .i64 1) (by kernel_rfl) (fun _ => by kernel_rfl) ?_
   refine T.nil ?_
   cases hF
   refine T.ret rfl ?_
   exact T.ret2 rfl (ResIs.tmp rfl) (ResIs.tmp rfl) fun w' hh => ⟨_, rfl, hh.below, (vT2.mk (show _ from rfl) (show _ from rfl))⟩
  ·
   rw [hc1, cond_false] at hF
   refine T.skip_code ?_
   refine T.seq ?_
   refine T.seq ?_
   refine T.region ?_
   refine T.pure (.pointer (some ⟨b1, 1, none⟩)) (by kernel_rfl) (fun _ => by kernel_rfl) ?_
   refine T.look (.string p0.body) (by kernel_rfl) (fun w' hh => exec_load1 rfl rfl (by kernel_rfl) (hh.cellBox (i := 0) (by rfl) 1)) ?_
   refine T.pure (.int .i64 (p0.body.size : Int)) (by kernel_rfl) (fun _ => by kernel_rfl) ?_
   refine T.pure (.bool (decide ((3000 : Int) < (p0.body.size : Int)))) (by kernel_rfl) (fun _ => by kernel_rfl) ?_
   refine T.nil ?_
   refine T.cond (decide ((3000 : Int) < (p0.body.size : Int))) (by kernel_rfl) (by kernel_rfl) (fun hc2 => ?_) (fun hc2 => ?_)
   ·
    rw [hc2, cond_true] at hF
    refine T.seq ?_
    refine T.region ?_
    refine T.pure (.string (ByteArray.mk #[])) (by kernel_rfl) (fun _ => by kernel_rfl) ?_
    refine T.pure (.int .i64 2) (by kernel_rfl) (fun _ => by kernel_rfl) ?_
    refine T.nil ?_
    cases hF
    refine T.ret rfl ?_
    exact T.ret2 rfl (ResIs.tmp rfl) (ResIs.tmp rfl) fun w' hh => ⟨_, rfl, hh.below, (vT2.mk (show _ from rfl) (show _ from rfl))⟩
   ·
    rw [hc2, cond_false] at hF
    refine T.skip_code ?_
    refine T.seq ?_
    obtain ⟨r1, hb1, hF⟩ := Option.bind_eq_some_iff.1 hF
    obtain ⟨s1, hb2, hF⟩ := Option.bind_eq_some_iff.1 hF
    obtain ⟨s2, hb3, hF⟩ := Option.bind_eq_some_iff.1 hF
    refine T.mid (fun a w' => ∃ (V2 : View), View.le (vw w) V2 ∧ Fr 35 [(4, .string s2)] a ∧ Hp w V2 [] w') ?_ ?_
    ·
     refine T.held [box b1 58 [.int .i64 p0.kind, .string p0.body]] (by kernel_rfl) ?_
     refine TA.take 0 (.pointer (some ⟨b1, 0, none⟩)) rfl (by kernel_rfl) (by kernel_rfl) (by kernel_rfl) (fun _ _ _ h => h) (Hp.old (View.le_refl _) (View.le_refl _) (.cons_cons _ List.Sublist.slnil) (OldAll.box OldAll.nil)) (by kernel_rfl) (fun _ _ => by kernel_rfl) ?_
     refine TA.take 1 (.int .i64 p0.kind) rfl (by kernel_rfl) (by kernel_rfl) (by kernel_rfl) (fun _ _ _ h => h) (Hp.old (View.le_refl _) (View.le_refl _) (.cons_cons _ List.Sublist.slnil) (OldAll.box OldAll.nil)) (by kernel_rfl) (fun w' hh => exec_load1 rfl rfl (by kernel_rfl) (hh.cellBox (i := 0) (by rfl) 0)) ?_
     refine TA.take 2 (.int .u8 (IntKind.u8.wrap p0.kind)) rfl (by kernel_rfl) (by kernel_rfl) (by kernel_rfl) (fun _ _ _ h => h) (Hp.old (View.le_refl _) (View.le_refl _) (.cons_cons _ List.Sublist.slnil) (OldAll.box OldAll.nil)) (by kernel_rfl) (fun _ _ => by kernel_rfl) ?_
     refine TA.take 5 (.pointer (some ⟨b1, 1, none⟩)) rfl (by kernel_rfl) (by kernel_rfl) (by kernel_rfl) (fun _ _ _ h => h) (Hp.old (View.le_refl _) (View.le_refl _) (.cons_cons _ List.Sublist.slnil) (OldAll.box OldAll.nil)) (by kernel_rfl) (fun _ _ => by kernel_rfl) ?_
     refine TA.take 6 (.string p0.body) rfl (by kernel_rfl) (by kernel_rfl) (by kernel_rfl) (fun _ _ _ h => h) (Hp.old (View.le_refl _) (View.le_refl _) (.cons_cons _ List.Sublist.slnil) (OldAll.box OldAll.nil)) (by kernel_rfl) (fun w' hh => exec_load1 rfl rfl (by kernel_rfl) (hh.cellBox (i := 0) (by rfl) 1)) ?_
     refine TA.take 7 (.int .i64 (p0.body.size : Int)) rfl (by kernel_rfl) (by kernel_rfl) (by kernel_rfl) (fun _ _ _ h => h) (Hp.old (View.le_refl _) (View.le_refl _) (.cons_cons _ List.Sublist.slnil) (OldAll.box OldAll.nil)) (by kernel_rfl) (fun _ _ => by kernel_rfl) ?_
     refine TA.take 10 (.pointer (some ⟨b1, 1, none⟩)) rfl (by kernel_rfl) (by kernel_rfl) (by kernel_rfl) (fun _ _ _ h => h) (Hp.old (View.le_refl _) (View.le_refl _) (.cons_cons _ List.Sublist.slnil) (OldAll.box OldAll.nil)) (by kernel_rfl) (fun _ _ => by kernel_rfl) ?_
     refine TA.take 11 (.string p0.body) rfl (by kernel_rfl) (by kernel_rfl) (by kernel_rfl) (fun _ _ _ h => h) (Hp.old (View.le_refl _) (View.le_refl _) (.cons_cons _ List.Sublist.slnil) (OldAll.box OldAll.nil)) (by kernel_rfl) (fun w' hh => exec_load1 rfl rfl (by kernel_rfl) (hh.cellBox (i := 0) (by rfl) 1)) ?_
     refine TA.all [3, 8] (by kernel_rfl) rfl ⟨?_, ?_, trivial⟩
     ·
      refine TA.br rfl (W1.new 5 [.int .u8 (IntKind.u8.wrap p0.kind)] (fun b => .slice (some ⟨b, 0, none⟩) 1 1) (by kernel_rfl) (fun _ => by kernel_rfl) (fun b2 => ?_))
      refine TA.on (Hp.old (View.le_refl _) (View.le_refl _) (.cons _ (.cons_cons _ List.Sublist.slnil)) (OldAll.box OldAll.nil)) ?_
      refine TA.all [4, 8] (by kernel_rfl) rfl ⟨?_, ?_, trivial⟩
      ·
       refine TA.br rfl (W1.look (.string (bytesOf [IntKind.u8.wrap p0.kind])) (by kernel_rfl) (fun w' hh => exec_bytes_str (e := 5) rfl rfl (by kernel_rfl) (by kernel_rfl) (by kernel_rfl) (slok_lit (E := (eK .u8)) (f := (fun x => [.int .u8 x])) [IntKind.u8.wrap p0.kind] (fun _ _ => rfl) (Nat.le_of_ble_eq_true (by rfl)) (fun j => hh.cellBox (i := 0) (by rfl) j))) ?_)
       refine TA.on (Hp.old (View.le_refl _) (View.le_refl _) (.cons _ (.cons_cons _ List.Sublist.slnil)) (OldAll.box OldAll.nil)) ?_
       refine TA.all [8] (by kernel_rfl) rfl ⟨?_, trivial⟩
       refine TA.br rfl (W1.call (vSc eStr) r1 44 #[.int .i64 (p0.body.size : Int)] (by kernel_rfl) (fun _ => by kernel_rfl) (fun w' hh => frame_two_l (p0.body.size : Int) r1 hb1 w' ) ?_)
       intro u V1 hV1 hu
       obtain rfl := sureStr _ _ _ hu
       refine TA.on (Hp.old hV1 (View.le_refl _) (.cons _ (.cons_cons _ List.Sublist.slnil)) (OldAll.box OldAll.nil)) ?_
       refine TA.take 9 (.string s1) rfl (by kernel_rfl) (by kernel_rfl) (by kernel_rfl) (fun _ _ _ h => h) (Hp.old hV1 (View.le_refl _) (.cons _ (.cons_cons _ List.Sublist.slnil)) (OldAll.box OldAll.nil)) (by kernel_rfl) (fun w' hh => exec_scat rfl rfl rfl hb2) ?_
       refine TA.take 12 (.string s2) rfl (by kernel_rfl) (by kernel_rfl) (by kernel_rfl) (fun _ _ _ h => h) (Hp.old hV1 (View.le_refl _) (.cons _ (.cons_cons _ List.Sublist.slnil)) (OldAll.box OldAll.nil)) (by kernel_rfl) (fun w' hh => exec_scat rfl rfl rfl hb3) ?_
       refine TA.take 13 (.string s2) rfl (by kernel_rfl) (by kernel_rfl) (by kernel_rfl) (fun _ _ _ h => h) (Hp.old hV1 (View.le_refl _) (.cons _ (.cons_cons _ List.Sublist.slnil)) (OldAll.box OldAll.nil)) (by kernel_rfl) (fun _ _ => by kernel_rfl) ?_
       refine TA.done (by kernel_rfl) ?_
       exact fun a w' hf hh => Exists.intro V1 (And.intro hV1 (And.intro ((Fr.nil hf).pick hf 4 rfl) (hh.sub (.cons _ (.cons _ List.Sublist.slnil)))))
      ·
       refine TA.br rfl (W1.call (vSc eStr) r1 44 #[.int .i64 (p0.body.size : Int)] (by kernel_rfl) (fun _ => by kernel_rfl) (fun w' hh => frame_two_l (p0.body.size : Int) r1 hb1 w' ) ?_)
       intro u V1 hV1 hu
       obtain rfl := sureStr _ _ _ hu
       refine TA.on (Hp.old hV1 (View.le_refl _) (.cons _ (.cons_cons _ List.Sublist.slnil)) (OldAll.box OldAll.nil)) ?_
       refine TA.all [4] (by kernel_rfl) rfl ⟨?_, trivial⟩
       refine TA.br rfl (W1.look (.string (bytesOf [IntKind.u8.wrap p0.kind])) (by kernel_rfl) (fun w' hh => exec_bytes_str (e := 5) rfl rfl (by kernel_rfl) (by kernel_rfl) (by kernel_rfl) (slok_lit (E := (eK .u8)) (f := (fun x => [.int .u8 x])) [IntKind.u8.wrap p0.kind] (fun _ _ => rfl) (Nat.le_of_ble_eq_true (by rfl)) (fun j => hh.cellBox (i := 0) (by rfl) j))) ?_)
       refine TA.on (Hp.old hV1 (View.le_refl _) (.cons _ (.cons_cons _ List.Sublist.slnil)) (OldAll.box OldAll.nil)) ?_
       refine TA.take 9 (.string s1) rfl (by kernel_rfl) (by kernel_rfl) (by kernel_rfl) (fun _ _ _ h => h) (Hp.old hV1 (View.le_refl _) (.cons _ (.cons_cons _ List.Sublist.slnil)) (OldAll.box OldAll.nil)) (by kernel_rfl) (fun w' hh => exec_scat rfl rfl rfl hb2) ?_
       refine TA.take 12 (.string s2) rfl (by kernel_rfl) (by kernel_rfl) (by kernel_rfl) (fun _ _ _ h => h) (Hp.old hV1 (View.le_refl _) (.cons _ (.cons_cons _ List.Sublist.slnil)) (OldAll.box OldAll.nil)) (by kernel_rfl) (fun w' hh => exec_scat rfl rfl rfl hb3) ?_
       refine TA.take 13 (.string s2) rfl (by kernel_rfl) (by kernel_rfl) (by kernel_rfl) (fun _ _ _ h => h) (Hp.old hV1 (View.le_refl _) (.cons _ (.cons_cons _ List.Sublist.slnil)) (OldAll.box OldAll.nil)) (by kernel_rfl) (fun _ _ => by kernel_rfl) ?_
       refine TA.done (by kernel_rfl) ?_
       exact fun a w' hf hh => Exists.intro V1 (And.intro hV1 (And.intro ((Fr.nil hf).pick hf 4 rfl) (hh.sub (.cons _ (.cons _ List.Sublist.slnil)))))
     ·
      refine TA.br rfl (W1.call (vSc eStr) r1 44 #[.int .i64 (p0.body.size : Int)] (by kernel_rfl) (fun _ => by kernel_rfl) (fun w' hh => frame_two_l (p0.body.size : Int) r1 hb1 w' ) ?_)
      intro u V1 hV1 hu
      obtain rfl := sureStr _ _ _ hu
      refine TA.on (Hp.old hV1 (View.le_refl _) (.cons_cons _ List.Sublist.slnil) (OldAll.box OldAll.nil)) ?_
      refine TA.all [3] (by kernel_rfl) rfl ⟨?_, trivial⟩
      refine TA.br rfl (W1.new 5 [.int .u8 (IntKind.u8.wrap p0.kind)] (fun b => .slice (some ⟨b, 0, none⟩) 1 1) (by kernel_rfl) (fun _ => by kernel_rfl) (fun b2 => ?_))
      refine TA.on (Hp.old hV1 (View.le_refl _) (.cons _ (.cons_cons _ List.Sublist.slnil)) (OldAll.box OldAll.nil)) ?_
      refine TA.all [4] (by kernel_rfl) rfl ⟨?_, trivial⟩
      refine TA.br rfl (W1.look (.string (bytesOf [IntKind.u8.wrap p0.kind])) (by kernel_rfl) (fun w' hh => exec_bytes_str (e := 5) rfl rfl (by kernel_rfl) (by kernel_rfl) (by kernel_rfl) (slok_lit (E := (eK .u8)) (f := (fun x => [.int .u8 x])) [IntKind.u8.wrap p0.kind] (fun _ _ => rfl) (Nat.le_of_ble_eq_true (by rfl)) (fun j => hh.cellBox (i := 0) (by rfl) j))) ?_)
      refine TA.on (Hp.old hV1 (View.le_refl _) (.cons _ (.cons_cons _ List.Sublist.slnil)) (OldAll.box OldAll.nil)) ?_
      refine TA.take 9 (.string s1) rfl (by kernel_rfl) (by kernel_rfl) (by kernel_rfl) (fun _ _ _ h => h) (Hp.old hV1 (View.le_refl _) (.cons _ (.cons_cons _ List.Sublist.slnil)) (OldAll.box OldAll.nil)) (by kernel_rfl) (fun w' hh => exec_scat rfl rfl rfl hb2) ?_
      refine TA.take 12 (.string s2) rfl (by kernel_rfl) (by kernel_rfl) (by kernel_rfl) (fun _ _ _ h => h) (Hp.old hV1 (View.le_refl _) (.cons _ (.cons_cons _ List.Sublist.slnil)) (OldAll.box OldAll.nil)) (by kernel_rfl) (fun w' hh => exec_scat rfl rfl rfl hb3) ?_
      refine TA.take 13 (.string s2) rfl (by kernel_rfl) (by kernel_rfl) (by kernel_rfl) (fun _ _ _ h => h) (Hp.old hV1 (View.le_refl _) (.cons _ (.cons_cons _ List.Sublist.slnil)) (OldAll.box OldAll.nil)) (by kernel_rfl) (fun _ _ => by kernel_rfl) ?_
      refine TA.done (by kernel_rfl) ?_
      exact fun a w' hf hh => Exists.intro V1 (And.intro hV1 (And.intro ((Fr.nil hf).pick hf 4 rfl) (hh.sub (.cons _ (.cons _ List.Sublist.slnil)))))
    ·
     rintro a w' ⟨V2, hV2, hf, hh⟩
     refine (?_ : T 35 w V2 [] [(4, .string s2)] _) a w' hf hh
     clear hf hh
     refine T.seq ?_
     refine T.region ?_
     refine T.pure (.string s2) (by kernel_rfl) (fun _ => by kernel_rfl) ?_
     refine T.pure (.string s2) (by kernel_rfl) (fun _ => by kernel_rfl) ?_
     obtain ⟨r2, hb4, hF⟩ := Option.bind_eq_some_iff.1 hF
     refine T.step (W1.call (vSc eInt) r2 42 #[.string s2] (by kernel_rfl) (fun _ => by kernel_rfl) (fun w' hh => sum_Of_l F s2 r2 hb4 w' ) ?_)
     intro u V3 hV3 hu
     obtain rfl := sureInt _ _ _ hu
     obtain ⟨r3, hb5, hF⟩ := Option.bind_eq_some_iff.1 hF
     refine T.step (W1.call (vSc eStr) r3 44 #[.int .i64 r2] (by kernel_rfl) (fun _ => by kernel_rfl) (fun w' hh => frame_two_l r2 r3 hb5 w' ) ?_)
     intro u V4 hV4 hu
     obtain rfl := sureStr _ _ _ hu
     obtain ⟨s3, hb6, hF⟩ := Option.bind_eq_some_iff.1 hF
     refine T.look (.string s3) (by kernel_rfl) (fun w' hh => exec_scat rfl rfl rfl hb6) ?_
     refine T.pure (.string s3) (by kernel_rfl) (fun _ => by kernel_rfl) ?_
     refine T.pure (.int .i64 0) (by kernel_rfl) (fun _ => by kernel_rfl) ?_
     refine T.nil ?_
     cases hF
     refine T.ret rfl ?_
     exact T.ret2 rfl (ResIs.tmp rfl) (ResIs.tmp rfl) fun w' hh => ⟨_, rfl, hh.below, (vT2.mk (show _ from rfl) (show _ from rfl))⟩

set_option maxRecDepth 100000 in
set_option maxHeartbeats 4000000 in
theorem frame_Get_l (F : Nat) (p0 : ByteArray) (r : DFrame × Int × Int) (hF : frame_Get F p0 = some r) (w : World)  :
    Calls Try.prog 28 #[.string p0] w (Post (vT3 (vAg eFrame) (vSc eInt) (vSc eInt)) r w) := by
 unfold frame_Get at hF
 refine T.start (l := [.string p0]) Try.func28 rfl rfl rfl ?_
 refine T.seq ?_
 refine T.region ?_
 refine T.step (W1.new 58 [.int .i64 0, .string (ByteArray.mk #[])] (fun b => .pointer (some ⟨b, 0, none⟩)) (by kernel_rfl) (fun _ => by kernel_rfl) (fun b1 => ?_))
 refine T.pure (.int .i64 0) (by kernel_rfl) (fun _ => by kernel_rfl) ?_
 refine T.pure (.int .i64 0) (by kernel_rfl) (fun _ => by kernel_rfl) ?_
 refine T.nil ?_
 refine T.seq ?_
 refine T.seq ?_
 refine T.region ?_
 refine T.pure (.string p0) (by kernel_rfl) (fun _ => by kernel_rfl) ?_
 refine T.pure (.int .i64 (p0.size : Int)) (by kernel_rfl) (fun _ => by kernel_rfl) ?_
 refine T.pure (.bool (decide ((p0.size : Int) < 5))) (by kernel_rfl) (fun _ => by kernel_rfl) ?_
 refine T.nil ?_
 refine T.cond (decide ((p0.size : Int) < 5)) (by kernel_rfl) (by kernel_rfl) (fun hc1 => ?_) (fun hc1 => ?_)
 ·
  rw [hc1, cond_true] at hF
  refine T.seq ?_
  refine T.region ?_
  refine T.pure (.agg #[.int .i64 0, .string (ByteArray.mk #[])]) (by kernel_rfl) (fun _ => by kernel_rfl) ?_
  refine T.step (W1.store 0 [.int .i64 0, .string (ByteArray.mk #[])] [box b1 58 [.int .i64 0, .string (ByteArray.mk #[])]] (by rfl) rfl (by kernel_rfl) (fun w' hw => exec_store (vs := [.int .i64 0, .string (ByteArray.mk #[])]) rfl rfl rfl rfl (by kernel_rfl) (one_of rfl) (by simp) rfl hw) ?_)
  refine T.pure (.int .i64 0) (by kernel_rfl) (fun _ => by kernel_rfl) ?_
  refine T.pure (.int .i64 7) (by kernel_rfl) (fun _ => by kernel_rfl) ?_
  refine T.nil ?_
  cases hF
  refine T.ret rfl ?_
  exact T.ret3 rfl (ResIs.cellN 0 rfl (by rfl) (fun _ => by kernel_rfl) (fun _ => by kernel_rfl)) (ResIs.tmp rfl) (ResIs.tmp rfl) fun w' hh => ⟨_, rfl, hh.below, (vT3.mk (vAg.mk rfl) (show _ from rfl) (show _ from rfl))⟩
 ·
  rw [hc1, cond_false] at hF
  refine T.skip_code ?_
  refine T.seq ?_
  refine T.region ?_
  refine T.pure (.string p0) (by kernel_rfl) (fun _ => by kernel_rfl) ?_
  obtain ⟨s1, hb1, hF⟩ := Option.bind_eq_some_iff.1 hF
  refine T.look (.string s1) (by kernel_rfl) (fun w' hh => exec_slice_str_lo rfl rfl rfl (by kernel_rfl) hb1) ?_
  obtain ⟨r1, hb2, hF⟩ := Option.bind_eq_some_iff.1 hF
  refine T.step (W1.call (vSc eInt) r1 41 #[.string s1] (by kernel_rfl) (fun _ => by kernel_rfl) (fun w' hh => frame_number_l s1 r1 hb2 w' ) ?_)
  intro u V1 hV1 hu
  obtain rfl := sureInt _ _ _ hu
  refine T.pure (.int .i64 r1) (by kernel_rfl) (fun _ => by kernel_rfl) ?_
  refine T.nil ?_
  refine T.seq ?_
  obtain ⟨z1, hX1, hF⟩ := Option.bind_eq_some_iff.1 hF
  refine T.cut (fun a w' => Fr 49 [(0, .string p0), (2, .pointer (some ⟨b1, 0, none⟩)), (5, .int .i64 r1), (19, .bool z1)] a ∧ Hp w V1 [box b1 58 [.int .i64 0, .string (ByteArray.mk #[])]] w') ?_ ?_
  ·
   refine T.region ?_
   refine T.pure (.string p0) (by kernel_rfl) (fun _ => by kernel_rfl) ?_
   obtain ⟨b2, hb3, hX1⟩ := Option.bind_eq_some_iff.1 hX1
   refine T.look (.int .u8 (b2.toNat : Int)) (by kernel_rfl) (fun w' hh => exec_index_str rfl rfl rfl (by kernel_rfl) hb3) ?_
   refine T.pure (.bool ((b2.toNat : Int) == 0)) (by kernel_rfl) (fun _ => by kernel_rfl) ?_
   refine T.pure (.bool ((b2.toNat : Int) == 0)) (by kernel_rfl) (fun _ => by kernel_rfl) ?_
   cases hg1 : ((b2.toNat : Int) == 0)
   ·
    skip
    rw [hg1, cond_false] at hX1
    refine T.pure (.int .i64 r1) (by kernel_rfl) (fun _ => by kernel_rfl) ?_
    refine T.pure (.bool (decide ((3000 : Int) < r1))) (by kernel_rfl) (fun _ => by kernel_rfl) ?_
    refine T.pure (.bool (decide ((3000 : Int) < r1))) (by kernel_rfl) (fun _ => by kernel_rfl) ?_
    refine T.nil ?_
    cases hX1
    exact fun a w' hf hh => And.intro (((((Fr.nil hf).pick hf 19 rfl).pick hf 5 rfl).pick hf 2 rfl).pick hf 0 rfl) (hh.sub (.cons_cons _ List.Sublist.slnil))
   ·
    skip
    rw [hg1, cond_true] at hX1
    refine T.pass (by kernel_rfl) (by kernel_rfl) ?_
    refine T.pass (by kernel_rfl) (by kernel_rfl) ?_
    refine T.pure (.bool true) (by kernel_rfl) (fun _ => by kernel_rfl) ?_
    refine T.nil ?_
    cases hX1
    exact fun a w' hf hh => And.intro (((((Fr.nil hf).pick hf 19 rfl).pick hf 5 rfl).pick hf 2 rfl).pick hf 0 rfl) (hh.sub (.cons_cons _ List.Sublist.slnil))
  ·
   rintro a w' ⟨hf, hh⟩
   refine (?_ : T 49 w V1 [box b1 58 [.int .i64 0, .string (ByteArray.mk #[])]] [(0, .string p0), (2, .pointer (some ⟨b1, 0, none⟩)), (5, .int .i64 r1), (19, .bool z1)] _) a w' hf hh
   clear hf hh
   refine T.cond z1 (by kernel_rfl) (by kernel_rfl) (fun hc2 => ?_) (fun hc2 => ?_)
   ·
    rw [hc2, cond_true] at hF
    refine T.seq ?_
    refine T.region ?_
    refine T.pure (.agg #[.int .i64 0, .string (ByteArray.mk #[])]) (by kernel_rfl) (fun _ => by kernel_rfl) ?_
    refine T.step (W1.store 0 [.int .i64 0, .string (ByteArray.mk #[])] [box b1 58 [.int .i64 0, .string (ByteArray.mk #[])]] (by rfl) rfl (by kernel_rfl) (fun w' hw => exec_store (vs := [.int .i64 0, .string (ByteArray.mk #[])]) rfl rfl rfl rfl (by kernel_rfl) (one_of rfl) (by simp) rfl hw) ?_)
    refine T.pure (.int .i64 0) (by kernel_rfl) (fun _ => by kernel_rfl) ?_
    refine T.pure (.int .i64 3) (by kernel_rfl) (fun _ => by kernel_rfl) ?_
    refine T.nil ?_
    cases hF
    refine T.ret rfl ?_
    exact T.ret3 rfl (ResIs.cellN 0 rfl (by rfl) (fun _ => by kernel_rfl) (fun _ => by kernel_rfl)) (ResIs.tmp rfl) (ResIs.tmp rfl) fun w' hh => ⟨_, rfl, hh.below, (vT3.mk (vAg.mk rfl) (show _ from rfl) (show _ from rfl))⟩
   ·
    rw [hc2, cond_false] at hF
    refine T.skip_code ?_
    refine T.seq ?_
    refine T.seq ?_
    refine T.region ?_
    refine T.pure (.string p0) (by kernel_rfl) (fun _ => by kernel_rfl) ?_
    refine T.pure (.int .i64 (p0.size : Int)) (by kernel_rfl) (fun _ => by kernel_rfl) ?_
    refine T.pure (.int .i64 r1) (by kernel_rfl) (fun _ => by kernel_rfl) ?_
    refine T.pure (.int .i64 (IntKind.i64.wrap (r1 + 5))) (by kernel_rfl) (fun _ => by kernel_rfl) ?_
    refine T.pure (.bool (decide ((p0.size : Int) < (IntKind.i64.wrap (r1 + 5))))) (by kernel_rfl) (fun _ => by kernel_rfl) ?_
    refine T.nil ?_
    refine T.cond (decide ((p0.size : Int) < (IntKind.i64.wrap (r1 + 5)))) (by kernel_rfl) (by kernel_rfl) (fun hc3 => ?_) (fun hc3 => ?_)
    ·
     rw [hc3, cond_true] at hF
     refine T.seq ?_
     refine T.region ?_
     refine T.pure (.agg #[.int .i64 0, .string (ByteArray.mk #[])]) (by kernel_rfl) (fun _ => by kernel_rfl) ?_
     refine T.step (W1.store 0 [.int .i64 0, .string (ByteArray.mk #[])] [box b1 58 [.int .i64 0, .string (ByteArray.mk #[])]] (by rfl) rfl (by kernel_rfl) (fun w' hw => exec_store (vs := [.int .i64 0, .string (ByteArray.mk #[])]) rfl rfl rfl rfl (by kernel_rfl) (one_of rfl) (by simp) rfl hw) ?_)
     refine T.pure (.int .i64 0) (by kernel_rfl) (fun _ => by kernel_rfl) ?_
     refine T.pure (.int .i64 7) (by kernel_rfl) (fun _ => by kernel_rfl) ?_
     refine T.nil ?_
     cases hF
     refine T.ret rfl ?_
     exact T.ret3 rfl (ResIs.cellN 0 rfl (by rfl) (fun _ => by kernel_rfl) (fun _ => by kernel_rfl)) (ResIs.tmp rfl) (ResIs.tmp rfl) fun w' hh => ⟨_, rfl, hh.below, (vT3.mk (vAg.mk rfl) (show _ from rfl) (show _ from rfl))⟩
    ·
     rw [hc3, cond_false] at hF
     refine T.skip_code ?_
     refine T.seq ?_
     refine T.seq ?_
     refine T.quiet (by kernel_rfl) (by kernel_rfl) ?_
     refine TQ.pure (.string p0) (by kernel_rfl) (fun _ => by kernel_rfl) ?_
     refine TQ.pure (.int .i64 r1) (by kernel_rfl) (fun _ => by kernel_rfl) ?_
     refine TQ.pure (.int .i64 (IntKind.i64.wrap (r1 + 3))) (by kernel_rfl) (fun _ => by kernel_rfl) ?_
     obtain ⟨s2, hb4, hF⟩ := Option.bind_eq_some_iff.1 hF
     refine TQ.look (.string s2) (by kernel_rfl) (fun w' hh => exec_slice_str_lo rfl rfl rfl (by kernel_rfl) hb4) ?_
     obtain ⟨r2, hb5, hF⟩ := Option.bind_eq_some_iff.1 hF
     refine TQ.call (vSc eInt) r2 41 #[.string s2] (.int .i64 r2) (fun V u hu => sureInt V u _ hu) (by kernel_rfl) (fun _ => by kernel_rfl) (fun w' hh => frame_number_l s2 r2 hb5 w' ) ?_
     refine TQ.pure (.string p0) (by kernel_rfl) (fun _ => by kernel_rfl) ?_
     refine TQ.pure (.int .i64 r1) (by kernel_rfl) (fun _ => by kernel_rfl) ?_
     refine TQ.pure (.int .i64 (IntKind.i64.wrap (r1 + 3))) (by kernel_rfl) (fun _ => by kernel_rfl) ?_
     obtain ⟨s3, hb6, hF⟩ := Option.bind_eq_some_iff.1 hF
     refine TQ.look (.string s3) (by kernel_rfl) (fun w' hh => exec_slice_str_hi rfl rfl rfl (by kernel_rfl) hb6) ?_
     obtain ⟨r3, hb7, hF⟩ := Option.bind_eq_some_iff.1 hF
     refine TQ.call (vSc eInt) r3 42 #[.string s3] (.int .i64 r3) (fun V u hu => sureInt V u _ hu) (by kernel_rfl) (fun _ => by kernel_rfl) (fun w' hh => sum_Of_l F s3 r3 hb7 w' ) ?_
     refine TQ.pure (.bool (r2 != r3)) (by kernel_rfl) (fun _ => by kernel_rfl) ?_
     refine TQ.nil ?_
     refine T.cond (r2 != r3) (by kernel_rfl) (by kernel_rfl) (fun hc4 => ?_) (fun hc4 => ?_)
     ·
      rw [hc4, cond_true] at hF
      refine T.seq ?_
      refine T.region ?_
      refine T.pure (.agg #[.int .i64 0, .string (ByteArray.mk #[])]) (by kernel_rfl) (fun _ => by kernel_rfl) ?_
      refine T.step (W1.store 0 [.int .i64 0, .string (ByteArray.mk #[])] [box b1 58 [.int .i64 0, .string (ByteArray.mk #[])]] (by rfl) rfl (by kernel_rfl) (fun w' hw => exec_store (vs := [.int .i64 0, .string (ByteArray.mk #[])]) rfl rfl rfl rfl (by kernel_rfl) (one_of rfl) (by simp) rfl hw) ?_)
      refine T.pure (.int .i64 0) (by kernel_rfl) (fun _ => by kernel_rfl) ?_
      refine T.pure (.int .i64 6) (by kernel_rfl) (fun _ => by kernel_rfl) ?_
      refine T.nil ?_
      cases hF
      refine T.ret rfl ?_
      exact T.ret3 rfl (ResIs.cellN 0 rfl (by rfl) (fun _ => by kernel_rfl) (fun _ => by kernel_rfl)) (ResIs.tmp rfl) (ResIs.tmp rfl) fun w' hh => ⟨_, rfl, hh.below, (vT3.mk (vAg.mk rfl) (show _ from rfl) (show _ from rfl))⟩
     ·
      rw [hc4, cond_false] at hF
      refine T.skip_code ?_
      refine T.seq ?_
      refine T.held [] (by kernel_rfl) ?_
      refine TA.take 0 (.string p0) rfl (by kernel_rfl) (by kernel_rfl) (by kernel_rfl) (fun _ _ _ h => h) (Hp.old (View.le_refl _) hV1 (.cons _ List.Sublist.slnil) OldAll.nil) (by kernel_rfl) (fun _ _ => by kernel_rfl) ?_
      obtain ⟨b3, hb8, hF⟩ := Option.bind_eq_some_iff.1 hF
      refine TA.take 1 (.int .u8 (b3.toNat : Int)) rfl (by kernel_rfl) (by kernel_rfl) (by kernel_rfl) (fun _ _ _ h => h) (Hp.old (View.le_refl _) hV1 (.cons _ List.Sublist.slnil) OldAll.nil) (by kernel_rfl) (fun w' hh => exec_index_str rfl rfl rfl (by kernel_rfl) hb8) ?_
      refine TA.take 2 (.int .i64 (IntKind.i64.wrap (b3.toNat : Int))) rfl (by kernel_rfl) (by kernel_rfl) (by kernel_rfl) (fun _ _ _ h => h) (Hp.old (View.le_refl _) hV1 (.cons _ List.Sublist.slnil) OldAll.nil) (by kernel_rfl) (fun _ _ => by kernel_rfl) ?_
      refine TA.take 3 (.string p0) rfl (by kernel_rfl) (by kernel_rfl) (by kernel_rfl) (fun _ _ _ h => h) (Hp.old (View.le_refl _) hV1 (.cons _ List.Sublist.slnil) OldAll.nil) (by kernel_rfl) (fun _ _ => by kernel_rfl) ?_
      refine TA.take 4 (.int .i64 r1) rfl (by kernel_rfl) (by kernel_rfl) (by kernel_rfl) (fun _ _ _ h => h) (Hp.old (View.le_refl _) hV1 (.cons _ List.Sublist.slnil) OldAll.nil) (by kernel_rfl) (fun _ _ => by kernel_rfl) ?_
      refine TA.take 5 (.int .i64 (IntKind.i64.wrap (r1 + 3))) rfl (by kernel_rfl) (by kernel_rfl) (by kernel_rfl) (fun _ _ _ h => h) (Hp.old (View.le_refl _) hV1 (.cons _ List.Sublist.slnil) OldAll.nil) (by kernel_rfl) (fun _ _ => by kernel_rfl) ?_
      obtain ⟨s4, hb9, hF⟩ := Option.bind_eq_some_iff.1 hF
      refine TA.take 6 (.string s4) rfl (by kernel_rfl) (by kernel_rfl) (by kernel_rfl) (fun _ _ _ h => h) (Hp.old (View.le_refl _) hV1 (.cons _ List.Sublist.slnil) OldAll.nil) (by kernel_rfl) (fun w' hh => exec_slice_str rfl rfl rfl rfl (by kernel_rfl) hb9) ?_
      refine TA.take 7 (.agg #[.int .i64 (IntKind.i64.wrap (b3.toNat : Int)), .string s4]) rfl (by kernel_rfl) (by kernel_rfl) (by kernel_rfl) (fun _ _ _ h => h) (Hp.old (View.le_refl _) hV1 (.cons _ List.Sublist.slnil) OldAll.nil) (by kernel_rfl) (fun _ _ => by kernel_rfl) ?_
      refine TA.take 8 (.int .i64 r1) rfl (by kernel_rfl) (by kernel_rfl) (by kernel_rfl) (fun _ _ _ h => h) (Hp.old (View.le_refl _) hV1 (.cons _ List.Sublist.slnil) OldAll.nil) (by kernel_rfl) (fun _ _ => by kernel_rfl) ?_
      refine TA.take 9 (.int .i64 (IntKind.i64.wrap (r1 + 5))) rfl (by kernel_rfl) (by kernel_rfl) (by kernel_rfl) (fun _ _ _ h => h) (Hp.old (View.le_refl _) hV1 (.cons _ List.Sublist.slnil) OldAll.nil) (by kernel_rfl) (fun _ _ => by kernel_rfl) ?_
      refine TA.all [10] (by kernel_rfl) rfl ⟨?_, trivial⟩
      refine TA.br rfl (W1.store 0 [.int .i64 (IntKind.i64.wrap (b3.toNat : Int)), .string s4] [box b1 58 [.int .i64 (IntKind.i64.wrap (b3.toNat : Int)), .string s4]] (by rfl) rfl (by kernel_rfl) (fun w' hw => exec_store (vs := [.int .i64 (IntKind.i64.wrap (b3.toNat : Int)), .string s4]) rfl rfl rfl rfl (by kernel_rfl) (one_of rfl) (by simp) rfl hw) ?_)
      refine TA.on (Hp.old (View.le_refl _) hV1 (.cons _ List.Sublist.slnil) OldAll.nil) ?_
      refine TA.take 11 (.int .i64 (IntKind.i64.wrap (r1 + 5))) rfl (by kernel_rfl) (by kernel_rfl) (by kernel_rfl) (fun _ _ _ h => h) (Hp.old (View.le_refl _) hV1 (.cons _ List.Sublist.slnil) OldAll.nil) (by kernel_rfl) (fun _ _ => by kernel_rfl) ?_
      refine TA.take 12 (.int .i64 0) rfl (by kernel_rfl) (by kernel_rfl) (by kernel_rfl) (fun _ _ _ h => h) (Hp.old (View.le_refl _) hV1 (.cons _ List.Sublist.slnil) OldAll.nil) (by kernel_rfl) (fun _ _ => by kernel_rfl) ?_
      refine TA.done (by kernel_rfl) ?_
      cases hF
      refine T.ret rfl ?_
      exact T.ret3 rfl (ResIs.cellN 0 rfl (by rfl) (fun _ => by kernel_rfl) (fun _ => by kernel_rfl)) (ResIs.tmp rfl) (ResIs.tmp rfl) fun w' hh => ⟨_, rfl, hh.below, (vT3.mk (vAg.mk rfl) (show _ from rfl) (show _ from rfl))⟩

set_option maxRecDepth 100000 in
set_option maxHeartbeats 4000000 in
theorem big_Put_l (F : Nat) (p0 : Int) (p1 : Int) (r : ByteArray) (hF : big_Put F p0 p1 = some r) (w : World)  :
    Calls Try.prog 45 #[.int .i64 p0, .int .i64 p1] w (Post (vSc eStr) r w) := by
 unfold big_Put at hF
 refine T.start (l := [.int .i64 p0, .int .i64 p1]) Try.func45 rfl rfl rfl ?_
 refine T.seq ?_
 refine T.region ?_
 refine T.pure (.string (ByteArray.mk #[])) (by kernel_rfl) (fun _ => by kernel_rfl) ?_
 refine T.nil ?_
 refine T.seq ?_
 refine T.region ?_
 refine T.pure (.int .i64 p1) (by kernel_rfl) (fun _ => by kernel_rfl) ?_
 obtain ⟨u1, hb1, hF⟩ := Option.bind_eq_some_iff.1 hF
 obtain ⟨ti, hti, hz1, hz2, hz3⟩ := info_parts (P := Try.prog) (e := 5) (z := .int .u8 0) (size := 1) (bytes := 1) (by kernel_rfl)
 obtain ⟨hb1_n, hb1_r, hb1_m⟩ := makes_some hb1
 refine T.step (W1.make (E := (eK .u8)) p1.toNat (0 : Int) _ _ .i64 .i64 1 ti _ (by kernel_rfl) rfl (by kernel_rfl) hti hz1 hz2 hz3 (congrArg (Value.int _) hb1_n.symm) (congrArg (Value.int _) hb1_n.symm) (fun _ => rfl) rfl hb1_r hb1_m (fun A1 => ?_))
 refine T.pure (.slice A1 ((List.replicate p1.toNat (0 : Int)).length) p1.toNat) (by kernel_rfl) (fun _ => by kernel_rfl) ?_
 refine T.nil ?_
 refine T.seq ?_
 refine T.seq ?_
 refine T.region ?_
 refine T.pure (.slice A1 ((List.replicate p1.toNat (0 : Int)).length) p1.toNat) (by kernel_rfl) (fun _ => by kernel_rfl) ?_
 refine T.pure (.int .i64 ((List.replicate p1.toNat (0 : Int)).length : Int)) (by kernel_rfl) (fun _ => by kernel_rfl) ?_
 refine T.pure (.int .i64 0) (by kernel_rfl) (fun _ => by kernel_rfl) ?_
 refine T.nil ?_
 obtain ⟨z1, hz1, hF⟩ := Option.bind_eq_some_iff.1 hF
 refine T.mid (fun a w' => Fr 27 [(5, .slice A1 z1.length p1.toNat)] a ∧ Hp w (vw w) [row 5 (eK .u8) A1 p1.toNat z1] w') ?_ ?_
 ·
  refine T.block ?_
  refine T.iter (fun s1 a w' => ∃ (x1 : List Int) (x2 : Int) (x3 : Int), s1 = (x1, x2, x3) ∧ Fr 27 [(0, .int .i64 x2), (1, .int .i64 p1), (5, .slice A1 x1.length p1.toNat), (10, .int .i64 ((List.replicate p1.toNat (0 : Int)).length : Int)), (11, .int .i64 x3)] a ∧ Hp w (vw w) [row 5 (eK .u8) A1 p1.toNat x1] w') hz1 ?_ ?_
  ·
   exact fun a w' hf hh => Exists.intro (List.replicate p1.toNat (0 : Int)) (Exists.intro p0 (Exists.intro 0 (And.intro rfl (And.intro ((((((Fr.nil hf).pick hf 11 rfl).pick hf 10 rfl).pick hf 5 rfl).pick hf 1 rfl).pick hf 0 rfl) (hh.sub (.cons_cons _ List.Sublist.slnil))))))
  ·
   rintro s1 y1 hY1 hr1 a w' ⟨x1, x2, x3, rfl, hf, hh⟩
   refine (?_ : T 27 w (vw w) [row 5 (eK .u8) A1 p1.toNat x1] [(0, .int .i64 x2), (1, .int .i64 p1), (5, .slice A1 x1.length p1.toNat), (10, .int .i64 ((List.replicate p1.toNat (0 : Int)).length : Int)), (11, .int .i64 x3)] _) a w' hf hh
   clear hf hh
   try dsimp only at hY1
   refine T.seq ?_
   refine T.region ?_
   refine T.pure (.bool (decide (x3 < ((List.replicate p1.toNat (0 : Int)).length : Int)))) (by kernel_rfl) (fun _ => by kernel_rfl) ?_
   refine T.nil ?_
   refine T.seq ?_
   refine T.cond (decide (x3 < ((List.replicate p1.toNat (0 : Int)).length : Int))) (by kernel_rfl) (by kernel_rfl) (fun hc1 => ?_) (fun hc1 => ?_)
   ·
    rw [hc1, cond_true] at hY1
    refine T.skip_code ?_
    refine T.seq ?_
    refine T.block ?_
    refine T.seq ?_
    refine T.region ?_
    refine T.pure (.int .i64 x3) (by kernel_rfl) (fun _ => by kernel_rfl) ?_
    refine T.pure (.int .i64 x3) (by kernel_rfl) (fun _ => by kernel_rfl) ?_
    refine T.nil ?_
    refine T.seq ?_
    refine T.region ?_
    refine T.pure (.slice A1 x1.length p1.toNat) (by kernel_rfl) (fun _ => by kernel_rfl) ?_
    refine T.pure (.int .i64 p1) (by kernel_rfl) (fun _ => by kernel_rfl) ?_
    refine T.pure (.int .i64 (IntKind.i64.wrap (p1 - 1))) (by kernel_rfl) (fun _ => by kernel_rfl) ?_
    refine T.pure (.int .i64 x3) (by kernel_rfl) (fun _ => by kernel_rfl) ?_
    refine T.pure (.int .i64 (IntKind.i64.wrap ((IntKind.i64.wrap (p1 - 1)) - x3))) (by kernel_rfl) (fun _ => by kernel_rfl) ?_
    refine T.pure (.int .i64 x2) (by kernel_rfl) (fun _ => by kernel_rfl) ?_
    refine T.pure (.int .u8 (IntKind.u8.wrap x2)) (by kernel_rfl) (fun _ => by kernel_rfl) ?_
    obtain ⟨e1, hb2, hY1⟩ := Option.bind_eq_some_iff.1 hY1
    obtain ⟨hi1, hi2, hi3⟩ := idx_some hb2
    refine T.look (.pointer (some ((sadr A1).add (((IntKind.i64.wrap ((IntKind.i64.wrap (p1 - 1)) - x3)).toNat) * 1)))) (by kernel_rfl) (fun w' hh => exec_indexAddr (e := 5) (s := 1) rfl rfl rfl (by kernel_rfl) (by kernel_rfl) hi1 hi2 ((hh.row_slOk (i := 0) (by rfl)).some_ hi3 (by decide))) ?_
    refine T.step (W1.storeRow (E := (eK .u8)) 0 ((IntKind.i64.wrap ((IntKind.i64.wrap (p1 - 1)) - x3)).toNat) 0 e1 (IntKind.u8.wrap x2) _ (vs := [.int .u8 (IntKind.u8.wrap x2)]) (by rfl) (by kernel_rfl) rfl rfl (addr_add0 _).symm rfl rfl (fun _ => by kernel_rfl) (one_of rfl) hi3 (Nat.le_of_ble_eq_true (by kernel_rfl)) (fun _ _ h => by cases h; rfl) ?_)
    refine T.reslot 5 (.slice A1 ((x1.set ((IntKind.i64.wrap ((IntKind.i64.wrap (p1 - 1)) - x3)).toNat) (IntKind.u8.wrap x2)).length) p1.toNat) rfl (by simp only [List.length_set]) ?_
    refine T.reslot 14 (.slice A1 ((x1.set ((IntKind.i64.wrap ((IntKind.i64.wrap (p1 - 1)) - x3)).toNat) (IntKind.u8.wrap x2)).length) p1.toNat) rfl (by simp only [List.length_set]) ?_
    refine T.nil ?_
    refine T.region ?_
    refine T.pure (.int .i64 x2) (by kernel_rfl) (fun _ => by kernel_rfl) ?_
    refine T.pure (.int .i64 (shr .i64 x2 8)) (by kernel_rfl) (fun _ => by kernel_rfl) ?_
    refine T.pure (.int .i64 (shr .i64 x2 8)) (by kernel_rfl) (fun _ => by kernel_rfl) ?_
    refine T.nil ?_
    refine T.region ?_
    refine T.pure (.int .i64 (IntKind.i64.wrap (x3 + 1))) (by kernel_rfl) (fun _ => by kernel_rfl) ?_
    refine T.pure (.int .i64 (IntKind.i64.wrap (x3 + 1))) (by kernel_rfl) (fun _ => by kernel_rfl) ?_
    refine T.nil ?_
    cases hY1
    exact fun a w' hf hh => Exists.intro ((x1.set ((IntKind.i64.wrap ((IntKind.i64.wrap (p1 - 1)) - x3)).toNat) (IntKind.u8.wrap x2)), shr .i64 x2 8, IntKind.i64.wrap (x3 + 1)) (And.intro rfl (Exists.intro (x1.set ((IntKind.i64.wrap ((IntKind.i64.wrap (p1 - 1)) - x3)).toNat) (IntKind.u8.wrap x2)) (Exists.intro (shr .i64 x2 8) (Exists.intro (IntKind.i64.wrap (x3 + 1)) (And.intro rfl (And.intro ((((((Fr.nil hf).pick hf 11 rfl).pick hf 10 rfl).pick hf 5 rfl).pick hf 1 rfl).pick hf 0 rfl) (hh.sub (.cons_cons _ List.Sublist.slnil))))))))
   ·
    rw [hc1, cond_false] at hY1
    refine T.exit ?_
    cases hY1
    cases (hr1 _ rfl)
    exact fun a w' hf hh => And.intro ((Fr.nil hf).pick hf 5 rfl) (hh.sub (.cons_cons _ List.Sublist.slnil))
 ·
  rintro a w' ⟨hf, hh⟩
  refine (?_ : T 27 w (vw w) [row 5 (eK .u8) A1 p1.toNat z1] [(5, .slice A1 z1.length p1.toNat)] _) a w' hf hh
  clear hf hh
  refine T.seq ?_
  refine T.region ?_
  refine T.pure (.slice A1 z1.length p1.toNat) (by kernel_rfl) (fun _ => by kernel_rfl) ?_
  refine T.look (.string (bytesOf z1)) (by kernel_rfl) (fun w' hh => exec_bytes_str (e := 5) rfl rfl (by kernel_rfl) (by kernel_rfl) (by kernel_rfl) (hh.row_slOk (i := 0) (by rfl))) ?_
  refine T.pure (.string (bytesOf z1)) (by kernel_rfl) (fun _ => by kernel_rfl) ?_
  refine T.nil ?_
  cases hF
  refine T.ret rfl ?_
  exact T.ret1 rfl (ResIs.tmp rfl) fun w' hh => ⟨_, rfl, hh.below, (show _ from rfl)⟩

set_option maxRecDepth 100000 in
set_option maxHeartbeats 4000000 in
theorem big_Get_l (F : Nat) (p0 : ByteArray) (r : Int) (hF : big_Get F p0 = some r) (w : World)  :
    Calls Try.prog 43 #[.string p0] w (Post (vSc eInt) r w) := by
 unfold big_Get at hF
 refine T.start (l := [.string p0]) Try.func43 rfl rfl rfl ?_
 refine T.seq ?_
 refine T.region ?_
 refine T.pure (.int .i64 0) (by kernel_rfl) (fun _ => by kernel_rfl) ?_
 refine T.nil ?_
 refine T.seq ?_
 refine T.region ?_
 refine T.pure (.int .i64 0) (by kernel_rfl) (fun _ => by kernel_rfl) ?_
 refine T.nil ?_
 refine T.seq ?_
 refine T.seq ?_
 refine T.region ?_
 refine T.pure (.string p0) (by kernel_rfl) (fun _ => by kernel_rfl) ?_
 refine T.pure (.int .i64 (p0.size : Int)) (by kernel_rfl) (fun _ => by kernel_rfl) ?_
 refine T.pure (.int .i64 0) (by kernel_rfl) (fun _ => by kernel_rfl) ?_
 refine T.nil ?_
 obtain ⟨z1, hz1, hF⟩ := Option.bind_eq_some_iff.1 hF
 refine T.mid (fun a w' => Fr 19 [(3, .int .i64 z1)] a ∧ Hp w (vw w) [] w') ?_ ?_
 ·
  refine T.block ?_
  refine T.iter (fun s1 a w' => ∃ (x1 : Int) (x2 : Int), s1 = (x1, x2) ∧ Fr 19 [(0, .string p0), (3, .int .i64 x1), (6, .int .i64 (p0.size : Int)), (7, .int .i64 x2)] a ∧ Hp w (vw w) [] w') hz1 ?_ ?_
  ·
   exact fun a w' hf hh => Exists.intro 0 (Exists.intro 0 (And.intro rfl (And.intro (((((Fr.nil hf).pick hf 7 rfl).pick hf 6 rfl).pick hf 3 rfl).pick hf 0 rfl) (hh.sub List.Sublist.slnil))))
  ·
   rintro s1 y1 hY1 hr1 a w' ⟨x1, x2, rfl, hf, hh⟩
   refine (?_ : T 19 w (vw w) [] [(0, .string p0), (3, .int .i64 x1), (6, .int .i64 (p0.size : Int)), (7, .int .i64 x2)] _) a w' hf hh
   clear hf hh
   try dsimp only at hY1
   refine T.seq ?_
   refine T.region ?_
   refine T.pure (.bool (decide (x2 < (p0.size : Int)))) (by kernel_rfl) (fun _ => by kernel_rfl) ?_
   refine T.nil ?_
   refine T.seq ?_
   refine T.cond (decide (x2 < (p0.size : Int))) (by kernel_rfl) (by kernel_rfl) (fun hc1 => ?_) (fun hc1 => ?_)
   ·
    rw [hc1, cond_true] at hY1
    refine T.skip_code ?_
    refine T.seq ?_
    refine T.block ?_
    refine T.seq ?_
    refine T.region ?_
    refine T.pure (.int .i64 x2) (by kernel_rfl) (fun _ => by kernel_rfl) ?_
    refine T.pure (.int .i64 x2) (by kernel_rfl) (fun _ => by kernel_rfl) ?_
    refine T.nil ?_
    refine T.region ?_
    refine T.pure (.int .i64 x1) (by kernel_rfl) (fun _ => by kernel_rfl) ?_
    refine T.pure (.int .i64 (shl .i64 x1 8)) (by kernel_rfl) (fun _ => by kernel_rfl) ?_
    refine T.pure (.string p0) (by kernel_rfl) (fun _ => by kernel_rfl) ?_
    refine T.pure (.int .i64 x2) (by kernel_rfl) (fun _ => by kernel_rfl) ?_
    obtain ⟨b1, hb1, hY1⟩ := Option.bind_eq_some_iff.1 hY1
    refine T.look (.int .u8 (b1.toNat : Int)) (by kernel_rfl) (fun w' hh => exec_index_str rfl rfl rfl (by kernel_rfl) hb1) ?_
    refine T.pure (.int .i64 (IntKind.i64.wrap (b1.toNat : Int))) (by kernel_rfl) (fun _ => by kernel_rfl) ?_
    refine T.pure (.int .i64 (bor .i64 (shl .i64 x1 8) (IntKind.i64.wrap (b1.toNat : Int)))) (by kernel_rfl) (fun _ => by kernel_rfl) ?_
    refine T.pure (.int .i64 (bor .i64 (shl .i64 x1 8) (IntKind.i64.wrap (b1.toNat : Int)))) (by kernel_rfl) (fun _ => by kernel_rfl) ?_
    refine T.nil ?_
    refine T.region ?_
    refine T.pure (.int .i64 (IntKind.i64.wrap (x2 + 1))) (by kernel_rfl) (fun _ => by kernel_rfl) ?_
    refine T.pure (.int .i64 (IntKind.i64.wrap (x2 + 1))) (by kernel_rfl) (fun _ => by kernel_rfl) ?_
    refine T.nil ?_
    cases hY1
    exact fun a w' hf hh => Exists.intro (bor .i64 (shl .i64 x1 8) (IntKind.i64.wrap (b1.toNat : Int)), IntKind.i64.wrap (x2 + 1)) (And.intro rfl (Exists.intro (bor .i64 (shl .i64 x1 8) (IntKind.i64.wrap (b1.toNat : Int))) (Exists.intro (IntKind.i64.wrap (x2 + 1)) (And.intro rfl (And.intro (((((Fr.nil hf).pick hf 7 rfl).pick hf 6 rfl).pick hf 3 rfl).pick hf 0 rfl) (hh.sub List.Sublist.slnil))))))
   ·
    rw [hc1, cond_false] at hY1
    refine T.exit ?_
    cases hY1
    cases (hr1 _ rfl)
    exact fun a w' hf hh => And.intro ((Fr.nil hf).pick hf 3 rfl) (hh.sub List.Sublist.slnil)
 ·
  rintro a w' ⟨hf, hh⟩
  refine (?_ : T 19 w (vw w) [] [(3, .int .i64 z1)] _) a w' hf hh
  clear hf hh
  refine T.seq ?_
  refine T.region ?_
  refine T.pure (.int .i64 z1) (by kernel_rfl) (fun _ => by kernel_rfl) ?_
  refine T.pure (.int .i64 z1) (by kernel_rfl) (fun _ => by kernel_rfl) ?_
  refine T.nil ?_
  cases hF
  refine T.ret rfl ?_
  exact T.ret1 rfl (ResIs.tmp rfl) fun w' hh => ⟨_, rfl, hh.below, (show _ from rfl)⟩

end Go.Proofs.Ytjhkfonoobmecaa
