/- The Go functions of group Dir compute the pure functions of that group: written by walkgen.py. Condition of each: the pure function yields a result. -/
import Derived.Test.YtaccejbajgmdnaaDoorRunL
import Derived.Test.YtaccejbajgmdnaaDoorCodeL
import Derived.Test.YtaccejbajgmdnaaDoorLibL
import Derived.Test.YtaccejbajgmdnaaDoorDirF
import Derived.Test.YtaccejbajgmdnaaDoorEqL
namespace Go.Proofs.YtaccejbajgmdnaaDoor
set_option linter.unusedVariables false

set_option maxRecDepth 100000 in
set_option maxHeartbeats 4000000 in
theorem dir_Name_l (F : Nat) (p0 : ByteArray) (r : Bool) (hF : dir_Name F p0 = some r) (w : World)  :
    Calls Tryd.prog 21 #[.string p0] w (Post (vSc eBool) r w) := by
 unfold dir_Name at hF
 refine T.start (l := [.string p0]) Tryd.func21 rfl rfl rfl ?_
 refine T.seq ?_
 refine T.region ?_
 refine T.pure (.bool false) (by kernel_rfl) (fun _ => by kernel_rfl) ?_
 refine T.nil ?_
 refine T.seq ?_
 refine T.cut (fun a w' => Fr 47 [(0, .string p0), (18, .bool ((seq p0 (ByteArray.mk #[])) || ((decide ((12 : Int) < (p0.size : Int))) || ((seq p0 (ByteArray.mk #[46])) || (seq p0 (ByteArray.mk #[46, 46]))))))] a ∧ Hp w (vw w) [] w') ?_ ?_
 ·
  refine T.region ?_
  refine T.pure (.string p0) (by kernel_rfl) (fun _ => by kernel_rfl) ?_
  refine T.pure (.bool (seq p0 (ByteArray.mk #[]))) (by kernel_rfl) (fun _ => by kernel_rfl) ?_
  refine T.pure (.bool (seq p0 (ByteArray.mk #[]))) (by kernel_rfl) (fun _ => by kernel_rfl) ?_
  cases hg1 : (seq p0 (ByteArray.mk #[]))
  ·
   skip
   refine T.pure (.string p0) (by kernel_rfl) (fun _ => by kernel_rfl) ?_
   refine T.pure (.int .i64 (p0.size : Int)) (by kernel_rfl) (fun _ => by kernel_rfl) ?_
   refine T.pure (.bool (decide ((12 : Int) < (p0.size : Int)))) (by kernel_rfl) (fun _ => by kernel_rfl) ?_
   refine T.pure (.bool (decide ((12 : Int) < (p0.size : Int)))) (by kernel_rfl) (fun _ => by kernel_rfl) ?_
   refine T.pure (.bool (decide ((12 : Int) < (p0.size : Int)))) (by kernel_rfl) (fun _ => by kernel_rfl) ?_
   cases hg2 : decide ((12 : Int) < (p0.size : Int))
   ·
    skip
    refine T.pure (.string p0) (by kernel_rfl) (fun _ => by kernel_rfl) ?_
    refine T.pure (.bool (seq p0 (ByteArray.mk #[46]))) (by kernel_rfl) (fun _ => by kernel_rfl) ?_
    refine T.pure (.bool (seq p0 (ByteArray.mk #[46]))) (by kernel_rfl) (fun _ => by kernel_rfl) ?_
    refine T.pure (.bool (seq p0 (ByteArray.mk #[46]))) (by kernel_rfl) (fun _ => by kernel_rfl) ?_
    cases hg3 : (seq p0 (ByteArray.mk #[46]))
    ·
     skip
     refine T.pure (.string p0) (by kernel_rfl) (fun _ => by kernel_rfl) ?_
     refine T.pure (.bool (seq p0 (ByteArray.mk #[46, 46]))) (by kernel_rfl) (fun _ => by kernel_rfl) ?_
     refine T.pure (.bool (seq p0 (ByteArray.mk #[46, 46]))) (by kernel_rfl) (fun _ => by kernel_rfl) ?_
     refine T.nil ?_
     exact fun a w' hf hh => And.intro (((Fr.nil hf).pick hf 18 rfl).pick hf 0 rfl) (hh.sub List.Sublist.slnil)
    ·
     skip
     refine T.pass (by kernel_rfl) (by kernel_rfl) ?_
     refine T.pass (by kernel_rfl) (by kernel_rfl) ?_
     refine T.pure (.bool true) (by kernel_rfl) (fun _ => by kernel_rfl) ?_
     refine T.nil ?_
     exact fun a w' hf hh => And.intro (((Fr.nil hf).pick hf 18 rfl).pick hf 0 rfl) (hh.sub List.Sublist.slnil)
   ·
    skip
    refine T.pass (by kernel_rfl) (by kernel_rfl) ?_
    refine T.pass (by kernel_rfl) (by kernel_rfl) ?_
    refine T.pure (.bool true) (by kernel_rfl) (fun _ => by kernel_rfl) ?_
    refine T.pure (.bool true) (by kernel_rfl) (fun _ => by kernel_rfl) ?_
    refine T.pass (by kernel_rfl) (by kernel_rfl) ?_
    refine T.pass (by kernel_rfl) (by kernel_rfl) ?_
    refine T.pure (.bool true) (by kernel_rfl) (fun _ => by kernel_rfl) ?_
    refine T.nil ?_
    exact fun a w' hf hh => And.intro (((Fr.nil hf).pick hf 18 rfl).pick hf 0 rfl) (hh.sub List.Sublist.slnil)
  ·
   skip
   refine T.pass (by kernel_rfl) (by kernel_rfl) ?_
   refine T.pass (by kernel_rfl) (by kernel_rfl) ?_
   refine T.pass (by kernel_rfl) (by kernel_rfl) ?_
   refine T.pure (.bool true) (by kernel_rfl) (fun _ => by kernel_rfl) ?_
   refine T.pure (.bool true) (by kernel_rfl) (fun _ => by kernel_rfl) ?_
   refine T.pass (by kernel_rfl) (by kernel_rfl) ?_
   refine T.pass (by kernel_rfl) (by kernel_rfl) ?_
   refine T.pure (.bool true) (by kernel_rfl) (fun _ => by kernel_rfl) ?_
   refine T.pure (.bool true) (by kernel_rfl) (fun _ => by kernel_rfl) ?_
   refine T.pass (by kernel_rfl) (by kernel_rfl) ?_
   refine T.pass (by kernel_rfl) (by kernel_rfl) ?_
   refine T.pure (.bool true) (by kernel_rfl) (fun _ => by kernel_rfl) ?_
   refine T.nil ?_
   exact fun a w' hf hh => And.intro (((Fr.nil hf).pick hf 18 rfl).pick hf 0 rfl) (hh.sub List.Sublist.slnil)
 ·
  rintro a w' ⟨hf, hh⟩
  refine (?_ : T 47 w (vw w) [] [(0, .string p0), (18, .bool ((seq p0 (ByteArray.mk #[])) || ((decide ((12 : Int) < (p0.size : Int))) || ((seq p0 (ByteArray.mk #[46])) || (seq p0 (ByteArray.mk #[46, 46]))))))] _) a w' hf hh
  clear hf hh
  refine T.cond ((seq p0 (ByteArray.mk #[])) || ((decide ((12 : Int) < (p0.size : Int))) || ((seq p0 (ByteArray.mk #[46])) || (seq p0 (ByteArray.mk #[46, 46]))))) (by kernel_rfl) (by kernel_rfl) (fun hc1 => ?_) (fun hc1 => ?_)
  ·
   rw [hc1, cond_true] at hF
   refine T.seq ?_
   refine T.region ?_
   refine T.pure (.bool false) (by kernel_rfl) (fun _ => by kernel_rfl) ?_
   refine T.nil ?_
   cases hF
   refine T.ret rfl ?_
   exact T.ret1 rfl (ResIs.tmp rfl) fun w' hh => ⟨_, rfl, hh.below, (show _ from rfl)⟩
  ·
   rw [hc1, cond_false] at hF
   refine T.skip_code ?_
   refine T.seq ?_
   refine T.seq ?_
   refine T.region ?_
   refine T.pure (.string p0) (by kernel_rfl) (fun _ => by kernel_rfl) ?_
   refine T.pure (.int .i64 (p0.size : Int)) (by kernel_rfl) (fun _ => by kernel_rfl) ?_
   refine T.pure (.int .i64 0) (by kernel_rfl) (fun _ => by kernel_rfl) ?_
   refine T.nil ?_
   obtain ⟨q1, hz1, hF⟩ := Option.bind_eq_some_iff.1 hF
   refine T.mid (fun a w' => q1 = Sum.inl () ∧ Fr 47 [] a ∧ Hp w (vw w) [] w') ?_ ?_
   ·
    refine T.block ?_
    refine T.iter (fun x1 a w' => Fr 47 [(0, .string p0), (20, .int .i64 (p0.size : Int)), (21, .int .i64 x1)] a ∧ Hp w (vw w) [] w') hz1 ?_ ?_
    ·
     exact fun a w' hf hh => And.intro ((((Fr.nil hf).pick hf 21 rfl).pick hf 20 rfl).pick hf 0 rfl) (hh.sub List.Sublist.slnil)
    ·
     rintro x1 y1 hY1 hr1 a w' ⟨hf, hh⟩
     refine (?_ : T 47 w (vw w) [] [(0, .string p0), (20, .int .i64 (p0.size : Int)), (21, .int .i64 x1)] _) a w' hf hh
     clear hf hh
     try dsimp only at hY1
     refine T.seq ?_
     refine T.region ?_
     refine T.pure (.bool (decide (x1 < (p0.size : Int)))) (by kernel_rfl) (fun _ => by kernel_rfl) ?_
     refine T.nil ?_
     refine T.seq ?_
     refine T.cond (decide (x1 < (p0.size : Int))) (by kernel_rfl) (by kernel_rfl) (fun hc2 => ?_) (fun hc2 => ?_)
     ·
      rw [hc2, cond_true] at hY1
      refine T.skip_code ?_
      refine T.seq ?_
      refine T.block ?_
      refine T.seq ?_
      refine T.region ?_
      refine T.pure (.int .i64 x1) (by kernel_rfl) (fun _ => by kernel_rfl) ?_
      refine T.pure (.int .i64 x1) (by kernel_rfl) (fun _ => by kernel_rfl) ?_
      refine T.nil ?_
      obtain ⟨z1, hX1, hY1⟩ := Option.bind_eq_some_iff.1 hY1
      refine T.cut (fun a w' => Fr 47 [(0, .string p0), (20, .int .i64 (p0.size : Int)), (21, .int .i64 x1), (45, .bool z1)] a ∧ Hp w (vw w) [] w') ?_ ?_
      ·
       refine T.region ?_
       refine T.pure (.string p0) (by kernel_rfl) (fun _ => by kernel_rfl) ?_
       refine T.pure (.int .i64 x1) (by kernel_rfl) (fun _ => by kernel_rfl) ?_
       obtain ⟨b1, hb1, hX1⟩ := Option.bind_eq_some_iff.1 hX1
       refine T.look (.int .u8 (b1.toNat : Int)) (by kernel_rfl) (fun w' hh => exec_index_str rfl rfl rfl (by kernel_rfl) hb1) ?_
       refine T.pure (.bool (decide ((b1.toNat : Int) ≤ 32))) (by kernel_rfl) (fun _ => by kernel_rfl) ?_
       refine T.pure (.bool (decide ((b1.toNat : Int) ≤ 32))) (by kernel_rfl) (fun _ => by kernel_rfl) ?_
       cases hg4 : decide ((b1.toNat : Int) ≤ 32)
       ·
        skip
        rw [hg4, cond_false] at hX1
        refine T.pure (.string p0) (by kernel_rfl) (fun _ => by kernel_rfl) ?_
        refine T.pure (.int .i64 x1) (by kernel_rfl) (fun _ => by kernel_rfl) ?_
        obtain ⟨b2, hb2, hX1⟩ := Option.bind_eq_some_iff.1 hX1
        refine T.look (.int .u8 (b2.toNat : Int)) (by kernel_rfl) (fun w' hh => exec_index_str rfl rfl rfl (by kernel_rfl) hb2) ?_
        refine T.pure (.bool (decide ((127 : Int) ≤ (b2.toNat : Int)))) (by kernel_rfl) (fun _ => by kernel_rfl) ?_
        refine T.pure (.bool (decide ((127 : Int) ≤ (b2.toNat : Int)))) (by kernel_rfl) (fun _ => by kernel_rfl) ?_
        refine T.pure (.bool (decide ((127 : Int) ≤ (b2.toNat : Int)))) (by kernel_rfl) (fun _ => by kernel_rfl) ?_
        cases hg5 : decide ((127 : Int) ≤ (b2.toNat : Int))
        ·
         skip
         rw [hg5, cond_false] at hX1
         refine T.pure (.string p0) (by kernel_rfl) (fun _ => by kernel_rfl) ?_
         refine T.pure (.int .i64 x1) (by kernel_rfl) (fun _ => by kernel_rfl) ?_
         obtain ⟨b3, hb3, hX1⟩ := Option.bind_eq_some_iff.1 hX1
         refine T.look (.int .u8 (b3.toNat : Int)) (by kernel_rfl) (fun w' hh => exec_index_str rfl rfl rfl (by kernel_rfl) hb3) ?_
         refine T.pure (.bool ((b3.toNat : Int) == 47)) (by kernel_rfl) (fun _ => by kernel_rfl) ?_
         refine T.pure (.bool ((b3.toNat : Int) == 47)) (by kernel_rfl) (fun _ => by kernel_rfl) ?_
         refine T.pure (.bool ((b3.toNat : Int) == 47)) (by kernel_rfl) (fun _ => by kernel_rfl) ?_
         cases hg6 : ((b3.toNat : Int) == 47)
         ·
          skip
          rw [hg6, cond_false] at hX1
          refine T.pure (.string p0) (by kernel_rfl) (fun _ => by kernel_rfl) ?_
          refine T.pure (.int .i64 x1) (by kernel_rfl) (fun _ => by kernel_rfl) ?_
          obtain ⟨b4, hb4, hX1⟩ := Option.bind_eq_some_iff.1 hX1
          refine T.look (.int .u8 (b4.toNat : Int)) (by kernel_rfl) (fun w' hh => exec_index_str rfl rfl rfl (by kernel_rfl) hb4) ?_
          refine T.pure (.bool ((b4.toNat : Int) == 64)) (by kernel_rfl) (fun _ => by kernel_rfl) ?_
          refine T.pure (.bool ((b4.toNat : Int) == 64)) (by kernel_rfl) (fun _ => by kernel_rfl) ?_
          refine T.nil ?_
          cases hX1
          exact fun a w' hf hh => And.intro (((((Fr.nil hf).pick hf 45 rfl).pick hf 21 rfl).pick hf 20 rfl).pick hf 0 rfl) (hh.sub List.Sublist.slnil)
         ·
          skip
          rw [hg6, cond_true] at hX1
          refine T.pass (by kernel_rfl) (by kernel_rfl) ?_
          refine T.pass (by kernel_rfl) (by kernel_rfl) ?_
          refine T.pass (by kernel_rfl) (by kernel_rfl) ?_
          refine T.pass (by kernel_rfl) (by kernel_rfl) ?_
          refine T.pure (.bool true) (by kernel_rfl) (fun _ => by kernel_rfl) ?_
          refine T.nil ?_
          cases hX1
          exact fun a w' hf hh => And.intro (((((Fr.nil hf).pick hf 45 rfl).pick hf 21 rfl).pick hf 20 rfl).pick hf 0 rfl) (hh.sub List.Sublist.slnil)
        ·
         skip
         rw [hg5, cond_true] at hX1
         refine T.pass (by kernel_rfl) (by kernel_rfl) ?_
         refine T.pass (by kernel_rfl) (by kernel_rfl) ?_
         refine T.pass (by kernel_rfl) (by kernel_rfl) ?_
         refine T.pass (by kernel_rfl) (by kernel_rfl) ?_
         refine T.pure (.bool true) (by kernel_rfl) (fun _ => by kernel_rfl) ?_
         refine T.pure (.bool true) (by kernel_rfl) (fun _ => by kernel_rfl) ?_
         refine T.pass (by kernel_rfl) (by kernel_rfl) ?_
         refine T.pass (by kernel_rfl) (by kernel_rfl) ?_
         refine T.pass (by kernel_rfl) (by kernel_rfl) ?_
         refine T.pass (by kernel_rfl) (by kernel_rfl) ?_
         refine T.pure (.bool true) (by kernel_rfl) (fun _ => by kernel_rfl) ?_
         refine T.nil ?_
         cases hX1
         exact fun a w' hf hh => And.intro (((((Fr.nil hf).pick hf 45 rfl).pick hf 21 rfl).pick hf 20 rfl).pick hf 0 rfl) (hh.sub List.Sublist.slnil)
       ·
        skip
        rw [hg4, cond_true] at hX1
        refine T.pass (by kernel_rfl) (by kernel_rfl) ?_
        refine T.pass (by kernel_rfl) (by kernel_rfl) ?_
        refine T.pass (by kernel_rfl) (by kernel_rfl) ?_
        refine T.pass (by kernel_rfl) (by kernel_rfl) ?_
        refine T.pure (.bool true) (by kernel_rfl) (fun _ => by kernel_rfl) ?_
        refine T.pure (.bool true) (by kernel_rfl) (fun _ => by kernel_rfl) ?_
        refine T.pass (by kernel_rfl) (by kernel_rfl) ?_
        refine T.pass (by kernel_rfl) (by kernel_rfl) ?_
        refine T.pass (by kernel_rfl) (by kernel_rfl) ?_
        refine T.pass (by kernel_rfl) (by kernel_rfl) ?_
        refine T.pure (.bool true) (by kernel_rfl) (fun _ => by kernel_rfl) ?_
        refine T.pure (.bool true) (by kernel_rfl) (fun _ => by kernel_rfl) ?_
        refine T.pass (by kernel_rfl) (by kernel_rfl) ?_
        refine T.pass (by kernel_rfl) (by kernel_rfl) ?_
        refine T.pass (by kernel_rfl) (by kernel_rfl) ?_
        refine T.pass (by kernel_rfl) (by kernel_rfl) ?_
        refine T.pure (.bool true) (by kernel_rfl) (fun _ => by kernel_rfl) ?_
        refine T.nil ?_
        cases hX1
        exact fun a w' hf hh => And.intro (((((Fr.nil hf).pick hf 45 rfl).pick hf 21 rfl).pick hf 20 rfl).pick hf 0 rfl) (hh.sub List.Sublist.slnil)
      ·
       rintro a w' ⟨hf, hh⟩
       refine (?_ : T 47 w (vw w) [] [(0, .string p0), (20, .int .i64 (p0.size : Int)), (21, .int .i64 x1), (45, .bool z1)] _) a w' hf hh
       clear hf hh
       refine T.cond z1 (by kernel_rfl) (by kernel_rfl) (fun hc3 => ?_) (fun hc3 => ?_)
       ·
        rw [hc3, cond_true] at hY1
        refine T.seq ?_
        refine T.region ?_
        refine T.pure (.bool false) (by kernel_rfl) (fun _ => by kernel_rfl) ?_
        refine T.nil ?_
        cases hY1
        cases (hr1 _ rfl)
        try dsimp only at hF
        cases hF
        refine T.ret rfl ?_
        exact T.ret1 rfl (ResIs.tmp rfl) fun w' hh => ⟨_, rfl, hh.below, (show _ from rfl)⟩
       ·
        rw [hc3, cond_false] at hY1
        refine T.skip_code ?_
        refine T.region ?_
        refine T.pure (.int .i64 (IntKind.i64.wrap (x1 + 1))) (by kernel_rfl) (fun _ => by kernel_rfl) ?_
        refine T.pure (.int .i64 (IntKind.i64.wrap (x1 + 1))) (by kernel_rfl) (fun _ => by kernel_rfl) ?_
        refine T.nil ?_
        cases hY1
        exact fun a w' hf hh => Exists.intro (IntKind.i64.wrap (x1 + 1)) (And.intro rfl (And.intro ((((Fr.nil hf).pick hf 21 rfl).pick hf 20 rfl).pick hf 0 rfl) (hh.sub List.Sublist.slnil)))
     ·
      rw [hc2, cond_false] at hY1
      refine T.exit ?_
      cases hY1
      cases (hr1 _ rfl)
      exact fun a w' hf hh => And.intro rfl (And.intro (Fr.nil hf) (hh.sub List.Sublist.slnil))
   ·
    rintro a w' ⟨rfl, hf, hh⟩
    try dsimp only at hF
    refine (?_ : T 47 w (vw w) [] [] _) a w' hf hh
    clear hf hh
    refine T.seq ?_
    refine T.region ?_
    refine T.pure (.bool true) (by kernel_rfl) (fun _ => by kernel_rfl) ?_
    refine T.nil ?_
    cases hF
    refine T.ret rfl ?_
    exact T.ret1 rfl (ResIs.tmp rfl) fun w' hh => ⟨_, rfl, hh.below, (show _ from rfl)⟩

set_option maxRecDepth 100000 in
set_option maxHeartbeats 4000000 in
theorem dir_slot_l (F : Nat) (p0 : Int) (p1 : Int) (p2 : ByteArray) (p3 : Int) (r : DKey) (hF : dir_slot F p0 p1 p2 p3 = some r) (w : World)  :
    Calls Tryd.prog 27 #[.int .i64 p0, .int .i64 p1, .string p2, .int .i64 p3] w (Post (vAg eKey) r w) := by
 unfold dir_slot at hF
 refine T.start (l := [.int .i64 p0, .int .i64 p1, .string p2, .int .i64 p3]) Tryd.func27 rfl rfl rfl ?_
 refine T.seq ?_
 refine T.region ?_
 refine T.step (W1.new 34 [.int .i64 0, .int .i64 0, .int .i64 0] (fun b => .pointer (some ⟨b, 0, none⟩)) (by kernel_rfl) (fun _ => by kernel_rfl) (fun b1 => ?_))
 refine T.nil ?_
 refine T.seq ?_
 refine T.region ?_
 refine T.pure (.int .i64 p0) (by kernel_rfl) (fun _ => by kernel_rfl) ?_
 refine T.pure (.int .i64 p1) (by kernel_rfl) (fun _ => by kernel_rfl) ?_
 refine T.pure (.string p2) (by kernel_rfl) (fun _ => by kernel_rfl) ?_
 obtain ⟨r1, hb1, hF⟩ := Option.bind_eq_some_iff.1 hF
 refine T.step (W1.call (vSc eInt) r1 52 #[.string p2] (by kernel_rfl) (fun _ => by kernel_rfl) (fun w' hh => sum_Of_l F p2 r1 hb1 w' ) ?_)
 intro u V1 hV1 hu
 obtain rfl := sureInt _ _ _ hu
 refine T.pure (.int .i64 ((r1 : Int).tmod 1000)) (by kernel_rfl) (fun _ => by kernel_rfl) ?_
 refine T.pure (.int .i64 (IntKind.i64.wrap (((r1 : Int).tmod 1000) * 8))) (by kernel_rfl) (fun _ => by kernel_rfl) ?_
 refine T.pure (.int .i64 (IntKind.i64.wrap (1000000 + (IntKind.i64.wrap (((r1 : Int).tmod 1000) * 8))))) (by kernel_rfl) (fun _ => by kernel_rfl) ?_
 refine T.pure (.int .i64 p3) (by kernel_rfl) (fun _ => by kernel_rfl) ?_
 refine T.pure (.int .i64 (IntKind.i64.wrap ((IntKind.i64.wrap (1000000 + (IntKind.i64.wrap (((r1 : Int).tmod 1000) * 8)))) + p3))) (by kernel_rfl) (fun _ => by kernel_rfl) ?_
 refine T.pure (.agg #[.int .i64 p0, .int .i64 p1, .int .i64 (IntKind.i64.wrap ((IntKind.i64.wrap (1000000 + (IntKind.i64.wrap (((r1 : Int).tmod 1000) * 8)))) + p3))]) (by kernel_rfl) (fun _ => by kernel_rfl) ?_
 refine T.step (W1.store 0 [.int .i64 p0, .int .i64 p1, .int .i64 (IntKind.i64.wrap ((IntKind.i64.wrap (1000000 + (IntKind.i64.wrap (((r1 : Int).tmod 1000) * 8)))) + p3))] [box b1 34 [.int .i64 p0, .int .i64 p1, .int .i64 (IntKind.i64.wrap ((IntKind.i64.wrap (1000000 + (IntKind.i64.wrap (((r1 : Int).tmod 1000) * 8)))) + p3))]] (by rfl) rfl (by kernel_rfl) (fun w' hw => exec_store (vs := [.int .i64 p0, .int .i64 p1, .int .i64 (IntKind.i64.wrap ((IntKind.i64.wrap (1000000 + (IntKind.i64.wrap (((r1 : Int).tmod 1000) * 8)))) + p3))]) rfl rfl rfl rfl (by kernel_rfl) (one_of rfl) (by simp) rfl hw) ?_)
 refine T.nil ?_
 cases hF
 refine T.ret rfl ?_
 exact T.ret1 rfl (ResIs.cellN 0 rfl (by rfl) (fun _ => by kernel_rfl) (fun _ => by kernel_rfl)) fun w' hh => ⟨_, rfl, hh.below, (vAg.mk rfl)⟩

set_option maxRecDepth 100000 in
set_option maxHeartbeats 4000000 in
theorem dir_entry_l (F : Nat) (p0 : DElem) (r : ByteArray × Int × Bool) (hF : dir_entry F p0 = some r) (w : World) (hGl : Glob w) :
    Calls Tryd.prog 45 #[.agg #[.int .i64 p0.key.pfs, .int .i64 p0.key.obj, .int .i64 p0.key.off, .int .i64 p0.made, .int .i64 p0.gone, .string p0.val]] w (Post (vT3 (vSc eStr) (vSc eInt) (vSc eBool)) r w) := by
 unfold dir_entry at hF
 refine T.start (l := [.agg #[.int .i64 p0.key.pfs, .int .i64 p0.key.obj, .int .i64 p0.key.off, .int .i64 p0.made, .int .i64 p0.gone, .string p0.val]]) Tryd.func45 rfl rfl rfl ?_
 refine T.seq ?_
 refine T.region ?_
 refine T.step (W1.new 36 [.int .i64 p0.key.pfs, .int .i64 p0.key.obj, .int .i64 p0.key.off, .int .i64 p0.made, .int .i64 p0.gone, .string p0.val] (fun b => .pointer (some ⟨b, 0, none⟩)) (by kernel_rfl) (fun _ => by kernel_rfl) (fun b1 => ?_))
 refine T.pure (.string (ByteArray.mk #[])) (by kernel_rfl) (fun _ => by kernel_rfl) ?_
 refine T.pure (.int .i64 0) (by kernel_rfl) (fun _ => by kernel_rfl) ?_
 refine T.pure (.bool false) (by kernel_rfl) (fun _ => by kernel_rfl) ?_
 refine T.nil ?_
 refine T.seq ?_
 refine T.region ?_
 refine T.pure (.pointer (some ⟨b1, 5, none⟩)) (by kernel_rfl) (fun _ => by kernel_rfl) ?_
 refine T.look (.string p0.val) (by kernel_rfl) (fun w' hh => exec_load1 rfl rfl (by kernel_rfl) (hh.cellBox (i := 0) (by rfl) 5)) ?_
 obtain ⟨r1, hb1, hF⟩ := Option.bind_eq_some_iff.1 hF
 refine T.step (W1.call (vT3 (vSc eStr) (vSc eStr) (vSc eBool)) r1 32 #[.string p0.val, .string (ByteArray.mk #[58])] (by kernel_rfl) (fun _ => by kernel_rfl) (fun w' hh => strings_Cut_l p0.val (ByteArray.mk #[58]) r1 hb1 w' (Glob.mono hGl (View.le_trans hh.base hh.view))) ?_)
 intro u V1 hV1 hu
 obtain rfl := (Sure.t3 sureStr sureStr sureBool) _ _ _ hu
 refine T.pure (.tuple #[.string r1.1, .string r1.2.1, .bool r1.2.2]) (by kernel_rfl) (fun _ => by kernel_rfl) ?_
 refine T.pure (.string r1.1) (by kernel_rfl) (fun _ => by kernel_rfl) ?_
 refine T.pure (.string r1.2.1) (by kernel_rfl) (fun _ => by kernel_rfl) ?_
 refine T.pure (.bool r1.2.2) (by kernel_rfl) (fun _ => by kernel_rfl) ?_
 refine T.pure (.string r1.1) (by kernel_rfl) (fun _ => by kernel_rfl) ?_
 refine T.pure (.string r1.2.1) (by kernel_rfl) (fun _ => by kernel_rfl) ?_
 refine T.pure (.bool r1.2.2) (by kernel_rfl) (fun _ => by kernel_rfl) ?_
 refine T.nil ?_
 refine T.seq ?_
 refine T.region ?_
 refine T.pure (.string r1.1) (by kernel_rfl) (fun _ => by kernel_rfl) ?_
 obtain ⟨r2, hb2, hF⟩ := Option.bind_eq_some_iff.1 hF
 refine T.step (W1.call (vT2 (vSc eInt) vErr) r2 59 #[.string r1.1] (by kernel_rfl) (fun _ => by kernel_rfl) (fun w' hh => strconv_Atoi_l r1.1 r2 hb2 w' (Glob.mono hGl (View.le_trans hh.base hh.view))) ?_)
 intro u V2 hV2 hu
 obtain ⟨u1, u2, rfl, hu1, hu2⟩ := vT2_elim hu
 obtain rfl := sureInt _ _ _ hu1
 obtain ⟨t1, p1, rfl⟩ := hu2
 refine T.pure (.tuple #[.int .i64 r2.1, errV r2.2 t1 p1]) (by kernel_rfl) (fun _ => by kernel_rfl) ?_
 refine T.pure (.int .i64 r2.1) (by kernel_rfl) (fun _ => by kernel_rfl) ?_
 refine T.pure (errV r2.2 t1 p1) (by kernel_rfl) (fun _ => by kernel_rfl) ?_
 refine T.pure (.int .i64 r2.1) (by kernel_rfl) (fun _ => by kernel_rfl) ?_
 refine T.pure (errV r2.2 t1 p1) (by kernel_rfl) (fun _ => by kernel_rfl) ?_
 refine T.nil ?_
 refine T.seq ?_
 obtain ⟨z1, hX1, hF⟩ := Option.bind_eq_some_iff.1 hF
 refine T.cut (fun a w' => ∃ (V3 : View), View.le V2 V3 ∧ Fr 73 [(1, .pointer (some ⟨b1, 0, none⟩)), (6, .string r1.2.1), (8, .int .i64 r2.1), (47, .bool z1)] a ∧ Hp w V3 [box b1 36 [.int .i64 p0.key.pfs, .int .i64 p0.key.obj, .int .i64 p0.key.off, .int .i64 p0.made, .int .i64 p0.gone, .string p0.val]] w') ?_ ?_
 ·
  refine T.region ?_
  refine T.pure (.bool r1.2.2) (by kernel_rfl) (fun _ => by kernel_rfl) ?_
  refine T.pure (.bool (!r1.2.2)) (by kernel_rfl) (fun _ => by kernel_rfl) ?_
  refine T.pure (.bool (!r1.2.2)) (by kernel_rfl) (fun _ => by kernel_rfl) ?_
  cases hg1 : (!r1.2.2)
  ·
   skip
   rw [hg1, cond_false] at hX1
   refine T.pure (errV r2.2 t1 p1) (by kernel_rfl) (fun _ => by kernel_rfl) ?_
   refine T.look (.bool r2.2) (by kernel_rfl) (fun w' hh => exec_err_neq rfl rfl (fun _ => by kernel_rfl) (fun _ _ _ => by kernel_rfl)) ?_
   refine T.pure (.bool r2.2) (by kernel_rfl) (fun _ => by kernel_rfl) ?_
   refine T.pure (.bool r2.2) (by kernel_rfl) (fun _ => by kernel_rfl) ?_
   cases hg2 : r2.2
   ·
    skip
    rw [hg2, cond_false] at hX1
    refine T.pure (.int .i64 r2.1) (by kernel_rfl) (fun _ => by kernel_rfl) ?_
    obtain ⟨r3, hb3, hX1⟩ := Option.bind_eq_some_iff.1 hX1
    refine T.step (W1.call (vSc eStr) r3 30 #[.int .i64 r2.1] (by kernel_rfl) (fun _ => by kernel_rfl) (fun w' hh => strconv_Itoa_l r2.1 r3 hb3 w' (Glob.mono hGl (View.le_trans hh.base hh.view))) ?_)
    intro u V4 hV4 hu
    obtain rfl := sureStr _ _ _ hu
    refine T.pure (.string r1.1) (by kernel_rfl) (fun _ => by kernel_rfl) ?_
    refine T.pure (.bool (!(seq r3 r1.1))) (by kernel_rfl) (fun _ => by kernel_rfl) ?_
    refine T.pure (.bool (!(seq r3 r1.1))) (by kernel_rfl) (fun _ => by kernel_rfl) ?_
    refine T.pure (.bool (!(seq r3 r1.1))) (by kernel_rfl) (fun _ => by kernel_rfl) ?_
    cases hg3 : (!(seq r3 r1.1))
    ·
     skip
     rw [hg3, cond_false] at hX1
     refine T.pure (.int .i64 r2.1) (by kernel_rfl) (fun _ => by kernel_rfl) ?_
     refine T.pure (.bool (decide (r2.1 < 0))) (by kernel_rfl) (fun _ => by kernel_rfl) ?_
     refine T.pure (.bool (decide (r2.1 < 0))) (by kernel_rfl) (fun _ => by kernel_rfl) ?_
     refine T.pure (.bool (decide (r2.1 < 0))) (by kernel_rfl) (fun _ => by kernel_rfl) ?_
     cases hg4 : decide (r2.1 < 0)
     ·
      skip
      rw [hg4, cond_false] at hX1
      refine T.pure (.int .i64 r2.1) (by kernel_rfl) (fun _ => by kernel_rfl) ?_
      refine T.pure (.bool (decide ((1048576 : Int) < r2.1))) (by kernel_rfl) (fun _ => by kernel_rfl) ?_
      refine T.pure (.bool (decide ((1048576 : Int) < r2.1))) (by kernel_rfl) (fun _ => by kernel_rfl) ?_
      refine T.pure (.bool (decide ((1048576 : Int) < r2.1))) (by kernel_rfl) (fun _ => by kernel_rfl) ?_
      cases hg5 : decide ((1048576 : Int) < r2.1)
      ·
       skip
       rw [hg5, cond_false] at hX1
       refine T.pure (.string r1.2.1) (by kernel_rfl) (fun _ => by kernel_rfl) ?_
       obtain ⟨r4, hb4, hX1⟩ := Option.bind_eq_some_iff.1 hX1
       refine T.step (W1.call (vSc eBool) r4 21 #[.string r1.2.1] (by kernel_rfl) (fun _ => by kernel_rfl) (fun w' hh => dir_Name_l F r1.2.1 r4 hb4 w' ) ?_)
       intro u V5 hV5 hu
       obtain rfl := sureBool _ _ _ hu
       refine T.pure (.bool (!r4)) (by kernel_rfl) (fun _ => by kernel_rfl) ?_
       refine T.pure (.bool (!r4)) (by kernel_rfl) (fun _ => by kernel_rfl) ?_
       refine T.nil ?_
       cases hX1
       exact fun a w' hf hh => Exists.intro V5 (And.intro (View.le_trans hV4 hV5) (And.intro (((((Fr.nil hf).pick hf 47 rfl).pick hf 8 rfl).pick hf 6 rfl).pick hf 1 rfl) (hh.sub (.cons_cons _ List.Sublist.slnil))))
      ·
       skip
       rw [hg5, cond_true] at hX1
       refine T.pass (by kernel_rfl) (by kernel_rfl) ?_
       refine T.pass (by kernel_rfl) (by kernel_rfl) ?_
       refine T.pass (by kernel_rfl) (by kernel_rfl) ?_
       refine T.pure (.bool true) (by kernel_rfl) (fun _ => by kernel_rfl) ?_
       refine T.nil ?_
       cases hX1
       exact fun a w' hf hh => Exists.intro V4 (And.intro hV4 (And.intro (((((Fr.nil hf).pick hf 47 rfl).pick hf 8 rfl).pick hf 6 rfl).pick hf 1 rfl) (hh.sub (.cons_cons _ List.Sublist.slnil))))
     ·
      skip
      rw [hg4, cond_true] at hX1
      refine T.pass (by kernel_rfl) (by kernel_rfl) ?_
      refine T.pass (by kernel_rfl) (by kernel_rfl) ?_
      refine T.pure (.bool true) (by kernel_rfl) (fun _ => by kernel_rfl) ?_
      refine T.pure (.bool true) (by kernel_rfl) (fun _ => by kernel_rfl) ?_
      refine T.pass (by kernel_rfl) (by kernel_rfl) ?_
      refine T.pass (by kernel_rfl) (by kernel_rfl) ?_
      refine T.pass (by kernel_rfl) (by kernel_rfl) ?_
      refine T.pure (.bool true) (by kernel_rfl) (fun _ => by kernel_rfl) ?_
      refine T.nil ?_
      cases hX1
      exact fun a w' hf hh => Exists.intro V4 (And.intro hV4 (And.intro (((((Fr.nil hf).pick hf 47 rfl).pick hf 8 rfl).pick hf 6 rfl).pick hf 1 rfl) (hh.sub (.cons_cons _ List.Sublist.slnil))))
    ·
     skip
     rw [hg3, cond_true] at hX1
     refine T.pass (by kernel_rfl) (by kernel_rfl) ?_
     refine T.pass (by kernel_rfl) (by kernel_rfl) ?_
     refine T.pure (.bool true) (by kernel_rfl) (fun _ => by kernel_rfl) ?_
     refine T.pure (.bool true) (by kernel_rfl) (fun _ => by kernel_rfl) ?_
     refine T.pass (by kernel_rfl) (by kernel_rfl) ?_
     refine T.pass (by kernel_rfl) (by kernel_rfl) ?_
     refine T.pure (.bool true) (by kernel_rfl) (fun _ => by kernel_rfl) ?_
     refine T.pure (.bool true) (by kernel_rfl) (fun _ => by kernel_rfl) ?_
     refine T.pass (by kernel_rfl) (by kernel_rfl) ?_
     refine T.pass (by kernel_rfl) (by kernel_rfl) ?_
     refine T.pass (by kernel_rfl) (by kernel_rfl) ?_
     refine T.pure (.bool true) (by kernel_rfl) (fun _ => by kernel_rfl) ?_
     refine T.nil ?_
     cases hX1
     exact fun a w' hf hh => Exists.intro V4 (And.intro hV4 (And.intro (((((Fr.nil hf).pick hf 47 rfl).pick hf 8 rfl).pick hf 6 rfl).pick hf 1 rfl) (hh.sub (.cons_cons _ List.Sublist.slnil))))
   ·
    skip
    rw [hg2, cond_true] at hX1
    refine T.pass (by kernel_rfl) (by kernel_rfl) ?_
    refine T.pass (by kernel_rfl) (by kernel_rfl) ?_
    refine T.pass (by kernel_rfl) (by kernel_rfl) ?_
    refine T.pass (by kernel_rfl) (by kernel_rfl) ?_
    refine T.pure (.bool true) (by kernel_rfl) (fun _ => by kernel_rfl) ?_
    refine T.pure (.bool true) (by kernel_rfl) (fun _ => by kernel_rfl) ?_
    refine T.pass (by kernel_rfl) (by kernel_rfl) ?_
    refine T.pass (by kernel_rfl) (by kernel_rfl) ?_
    refine T.pure (.bool true) (by kernel_rfl) (fun _ => by kernel_rfl) ?_
    refine T.pure (.bool true) (by kernel_rfl) (fun _ => by kernel_rfl) ?_
    refine T.pass (by kernel_rfl) (by kernel_rfl) ?_
    refine T.pass (by kernel_rfl) (by kernel_rfl) ?_
    refine T.pure (.bool true) (by kernel_rfl) (fun _ => by kernel_rfl) ?_
    refine T.pure (.bool true) (by kernel_rfl) (fun _ => by kernel_rfl) ?_
    refine T.pass (by kernel_rfl) (by kernel_rfl) ?_
    refine T.pass (by kernel_rfl) (by kernel_rfl) ?_
    refine T.pass (by kernel_rfl) (by kernel_rfl) ?_
    refine T.pure (.bool true) (by kernel_rfl) (fun _ => by kernel_rfl) ?_
    refine T.nil ?_
    cases hX1
    exact fun a w' hf hh => Exists.intro V2 (And.intro (View.le_refl _) (And.intro (((((Fr.nil hf).pick hf 47 rfl).pick hf 8 rfl).pick hf 6 rfl).pick hf 1 rfl) (hh.sub (.cons_cons _ List.Sublist.slnil))))
  ·
   skip
   rw [hg1, cond_true] at hX1
   refine T.pass (by kernel_rfl) (by kernel_rfl) ?_
   refine T.pass (by kernel_rfl) (by kernel_rfl) ?_
   refine T.pure (.bool true) (by kernel_rfl) (fun _ => by kernel_rfl) ?_
   refine T.pure (.bool true) (by kernel_rfl) (fun _ => by kernel_rfl) ?_
   refine T.pass (by kernel_rfl) (by kernel_rfl) ?_
   refine T.pass (by kernel_rfl) (by kernel_rfl) ?_
   refine T.pass (by kernel_rfl) (by kernel_rfl) ?_
   refine T.pass (by kernel_rfl) (by kernel_rfl) ?_
   refine T.pure (.bool true) (by kernel_rfl) (fun _ => by kernel_rfl) ?_
   refine T.pure (.bool true) (by kernel_rfl) (fun _ => by kernel_rfl) ?_
   refine T.pass (by kernel_rfl) (by kernel_rfl) ?_
   refine T.pass (by kernel_rfl) (by kernel_rfl) ?_
   refine T.pure (.bool true) (by kernel_rfl) (fun _ => by kernel_rfl) ?_
   refine T.pure (.bool true) (by kernel_rfl) (fun _ => by kernel_rfl) ?_
   refine T.pass (by kernel_rfl) (by kernel_rfl) ?_
   refine T.pass (by kernel_rfl) (by kernel_rfl) ?_
   refine T.pure (.bool true) (by kernel_rfl) (fun _ => by kernel_rfl) ?_
   refine T.pure (.bool true) (by kernel_rfl) (fun _ => by kernel_rfl) ?_
   refine T.pass (by kernel_rfl) (by kernel_rfl) ?_
   refine T.pass (by kernel_rfl) (by kernel_rfl) ?_
   refine T.pass (by kernel_rfl) (by kernel_rfl) ?_
   refine T.pure (.bool true) (by kernel_rfl) (fun _ => by kernel_rfl) ?_
   refine T.nil ?_
   cases hX1
   exact fun a w' hf hh => Exists.intro V2 (And.intro (View.le_refl _) (And.intro (((((Fr.nil hf).pick hf 47 rfl).pick hf 8 rfl).pick hf 6 rfl).pick hf 1 rfl) (hh.sub (.cons_cons _ List.Sublist.slnil))))
 ·
  rintro a w' ⟨V3, hV3, hf, hh⟩
  refine (?_ : T 73 w V3 [box b1 36 [.int .i64 p0.key.pfs, .int .i64 p0.key.obj, .int .i64 p0.key.off, .int .i64 p0.made, .int .i64 p0.gone, .string p0.val]] [(1, .pointer (some ⟨b1, 0, none⟩)), (6, .string r1.2.1), (8, .int .i64 r2.1), (47, .bool z1)] _) a w' hf hh
  clear hf hh
  refine T.cond z1 (by kernel_rfl) (by kernel_rfl) (fun hc1 => ?_) (fun hc1 => ?_)
  ·
   rw [hc1, cond_true] at hF
   refine T.seq ?_
   refine T.region ?_
   refine T.pure (.string (ByteArray.mk #[])) (by kernel_rfl) (fun _ => by kernel_rfl) ?_
   refine T.pure (.int .i64 0) (by kernel_rfl) (fun _ => by kernel_rfl) ?_
   refine T.pure (.bool false) (by kernel_rfl) (fun _ => by kernel_rfl) ?_
   refine T.nil ?_
   cases hF
   refine T.ret rfl ?_
   exact T.ret3 rfl (ResIs.tmp rfl) (ResIs.tmp rfl) (ResIs.tmp rfl) fun w' hh => ⟨_, rfl, hh.below, (vT3.mk (show _ from rfl) (show _ from rfl) (show _ from rfl))⟩
  ·
   rw [hc1, cond_false] at hF
   refine T.skip_code ?_
   refine T.seq ?_
   refine T.region ?_
   refine T.pure (.pointer (some ⟨b1, 0, none⟩)) (by kernel_rfl) (fun _ => by kernel_rfl) ?_
   refine T.pure (.pointer (some ⟨b1, 0, none⟩)) (by kernel_rfl) (fun _ => by kernel_rfl) ?_
   refine T.look (.int .i64 p0.key.pfs) (by kernel_rfl) (fun w' hh => exec_load1 rfl rfl (by kernel_rfl) (hh.cellBox (i := 0) (by rfl) 0)) ?_
   refine T.pure (.pointer (some ⟨b1, 0, none⟩)) (by kernel_rfl) (fun _ => by kernel_rfl) ?_
   refine T.pure (.pointer (some ⟨b1, 1, none⟩)) (by kernel_rfl) (fun _ => by kernel_rfl) ?_
   refine T.look (.int .i64 p0.key.obj) (by kernel_rfl) (fun w' hh => exec_load1 rfl rfl (by kernel_rfl) (hh.cellBox (i := 0) (by rfl) 1)) ?_
   refine T.pure (.string r1.2.1) (by kernel_rfl) (fun _ => by kernel_rfl) ?_
   obtain ⟨r5, hb5, hF⟩ := Option.bind_eq_some_iff.1 hF
   refine T.step (W1.call (vAg eKey) r5 27 #[.int .i64 p0.key.pfs, .int .i64 p0.key.obj, .string r1.2.1, .int .i64 0] (by kernel_rfl) (fun _ => by kernel_rfl) (fun w' hh => dir_slot_l F p0.key.pfs p0.key.obj r1.2.1 0 r5 hb5 w' ) ?_)
   intro u V6 hV6 hu
   obtain rfl := sureKey _ _ _ hu
   refine T.step (W1.new 34 [.int .i64 0, .int .i64 0, .int .i64 0] (fun b => .pointer (some ⟨b, 0, none⟩)) (by kernel_rfl) (fun _ => by kernel_rfl) (fun b2 => ?_))
   refine T.step (W1.store 0 [.int .i64 r5.pfs, .int .i64 r5.obj, .int .i64 r5.off] [box b2 34 [.int .i64 r5.pfs, .int .i64 r5.obj, .int .i64 r5.off], box b1 36 [.int .i64 p0.key.pfs, .int .i64 p0.key.obj, .int .i64 p0.key.off, .int .i64 p0.made, .int .i64 p0.gone, .string p0.val]] (by rfl) rfl (by kernel_rfl) (fun w' hw => exec_store (vs := [.int .i64 r5.pfs, .int .i64 r5.obj, .int .i64 r5.off]) rfl rfl rfl rfl (by kernel_rfl) (one_of rfl) (by simp) rfl hw) ?_)
   refine T.nil ?_
   refine T.cut (fun a w' => Fr 73 [(2, .string r1.2.1), (3, .int .i64 r2.1), (4, .bool ((decide (r5.off ≤ p0.key.off)) && (decide (p0.key.off < (IntKind.i64.wrap (r5.off + 8))))))] a ∧ Hp w V6 [] w') ?_ ?_
   ·
    refine T.quiet (by kernel_rfl) (by kernel_rfl) ?_
    refine TQ.pure (.string r1.2.1) (by kernel_rfl) (fun _ => by kernel_rfl) ?_
    refine TQ.pure (.int .i64 r2.1) (by kernel_rfl) (fun _ => by kernel_rfl) ?_
    refine TQ.pure (.pointer (some ⟨b1, 0, none⟩)) (by kernel_rfl) (fun _ => by kernel_rfl) ?_
    refine TQ.pure (.pointer (some ⟨b1, 2, none⟩)) (by kernel_rfl) (fun _ => by kernel_rfl) ?_
    refine TQ.look (.int .i64 p0.key.off) (by kernel_rfl) (fun w' hh => exec_load1 rfl rfl (by kernel_rfl) (hh.cellBox (i := 1) (by rfl) 2)) ?_
    refine TQ.pure (.pointer (some ⟨b2, 2, none⟩)) (by kernel_rfl) (fun _ => by kernel_rfl) ?_
    refine TQ.look (.int .i64 r5.off) (by kernel_rfl) (fun w' hh => exec_load1 rfl rfl (by kernel_rfl) (hh.cellBox (i := 0) (by rfl) 2)) ?_
    refine TQ.pure (.bool (decide (r5.off ≤ p0.key.off))) (by kernel_rfl) (fun _ => by kernel_rfl) ?_
    refine TQ.pure (.bool (decide (r5.off ≤ p0.key.off))) (by kernel_rfl) (fun _ => by kernel_rfl) ?_
    cases hg6 : decide (r5.off ≤ p0.key.off)
    ·
     skip
     refine TQ.pass (by kernel_rfl) (by kernel_rfl) ?_
     refine TQ.pass (by kernel_rfl) (by kernel_rfl) ?_
     refine TQ.pass (by kernel_rfl) (by kernel_rfl) ?_
     refine TQ.pass (by kernel_rfl) (by kernel_rfl) ?_
     refine TQ.pass (by kernel_rfl) (by kernel_rfl) ?_
     refine TQ.pass (by kernel_rfl) (by kernel_rfl) ?_
     refine TQ.pass (by kernel_rfl) (by kernel_rfl) ?_
     refine TQ.pure (.bool false) (by kernel_rfl) (fun _ => by kernel_rfl) ?_
     refine TQ.pure (.string r1.2.1) (by kernel_rfl) (fun _ => by kernel_rfl) ?_
     refine TQ.pure (.int .i64 r2.1) (by kernel_rfl) (fun _ => by kernel_rfl) ?_
     refine TQ.pure (.bool false) (by kernel_rfl) (fun _ => by kernel_rfl) ?_
     refine TQ.nil ?_
     exact fun a w' hf hh => And.intro ((((Fr.nil hf).pick hf 4 rfl).pick hf 3 rfl).pick hf 2 rfl) (hh.sub (.cons _ (.cons _ List.Sublist.slnil)))
    ·
     skip
     refine TQ.pure (.pointer (some ⟨b1, 0, none⟩)) (by kernel_rfl) (fun _ => by kernel_rfl) ?_
     refine TQ.pure (.pointer (some ⟨b1, 2, none⟩)) (by kernel_rfl) (fun _ => by kernel_rfl) ?_
     refine TQ.look (.int .i64 p0.key.off) (by kernel_rfl) (fun w' hh => exec_load1 rfl rfl (by kernel_rfl) (hh.cellBox (i := 1) (by rfl) 2)) ?_
     refine TQ.pure (.pointer (some ⟨b2, 2, none⟩)) (by kernel_rfl) (fun _ => by kernel_rfl) ?_
     refine TQ.look (.int .i64 r5.off) (by kernel_rfl) (fun w' hh => exec_load1 rfl rfl (by kernel_rfl) (hh.cellBox (i := 0) (by rfl) 2)) ?_
     refine TQ.pure (.int .i64 (IntKind.i64.wrap (r5.off + 8))) (by kernel_rfl) (fun _ => by kernel_rfl) ?_
     refine TQ.pure (.bool (decide (p0.key.off < (IntKind.i64.wrap (r5.off + 8))))) (by kernel_rfl) (fun _ => by kernel_rfl) ?_
     refine TQ.pure (.bool (decide (p0.key.off < (IntKind.i64.wrap (r5.off + 8))))) (by kernel_rfl) (fun _ => by kernel_rfl) ?_
     refine TQ.pure (.string r1.2.1) (by kernel_rfl) (fun _ => by kernel_rfl) ?_
     refine TQ.pure (.int .i64 r2.1) (by kernel_rfl) (fun _ => by kernel_rfl) ?_
     refine TQ.pure (.bool (decide (p0.key.off < (IntKind.i64.wrap (r5.off + 8))))) (by kernel_rfl) (fun _ => by kernel_rfl) ?_
     refine TQ.nil ?_
     exact fun a w' hf hh => And.intro ((((Fr.nil hf).pick hf 4 rfl).pick hf 3 rfl).pick hf 2 rfl) (hh.sub (.cons _ (.cons _ List.Sublist.slnil)))
   ·
    rintro a w' ⟨hf, hh⟩
    refine (?_ : T 73 w V6 [] [(2, .string r1.2.1), (3, .int .i64 r2.1), (4, .bool ((decide (r5.off ≤ p0.key.off)) && (decide (p0.key.off < (IntKind.i64.wrap (r5.off + 8))))))] _) a w' hf hh
    clear hf hh
    cases hF
    refine T.ret rfl ?_
    exact T.ret3 rfl (ResIs.tmp rfl) (ResIs.tmp rfl) (ResIs.tmp rfl) fun w' hh => ⟨_, rfl, hh.below, (vT3.mk (show _ from rfl) (show _ from rfl) (show _ from rfl))⟩

set_option maxRecDepth 100000 in
set_option maxHeartbeats 4000000 in
theorem dir_look_l (F : Nat) (p0 : (List DElem)) (p1 : Int) (p2 : Int) (r : Int) (hF : dir_look F p0 p1 p2 = some r) (w : World) (A1 : Option Addr) (c1 : Nat) (hs1 : SlOk (vw w) eElem A1 c1 p0) :
    Calls Tryd.prog 25 #[.slice A1 p0.length c1, .int .i64 p1, .int .i64 p2] w (Post (vSc eInt) r w) := by
 unfold dir_look at hF
 refine T.start (l := [.slice A1 p0.length c1, .int .i64 p1, .int .i64 p2]) Tryd.func25 rfl rfl rfl ?_
 refine T.seq ?_
 refine T.region ?_
 refine T.pure (.int .i64 0) (by kernel_rfl) (fun _ => by kernel_rfl) ?_
 refine T.nil ?_
 refine T.seq ?_
 refine T.seq ?_
 refine T.region ?_
 refine T.pure (.slice A1 p0.length c1) (by kernel_rfl) (fun _ => by kernel_rfl) ?_
 obtain ⟨r1, hb1, hF⟩ := Option.bind_eq_some_iff.1 hF
 refine T.step (W1.call (vSc eInt) r1 15 #[.slice A1 p0.length c1] (by kernel_rfl) (fun _ => by kernel_rfl) (fun w' hh => run_Check_l F p0 r1 hb1 w' A1 c1 (SlOk.mono hs1 hh.view)) ?_)
 intro u V1 hV1 hu
 obtain rfl := sureInt _ _ _ hu
 refine T.pure (.int .i64 r1) (by kernel_rfl) (fun _ => by kernel_rfl) ?_
 refine T.nil ?_
 refine T.seq ?_
 refine T.region ?_
 refine T.pure (.int .i64 r1) (by kernel_rfl) (fun _ => by kernel_rfl) ?_
 refine T.pure (.bool (r1 != 0)) (by kernel_rfl) (fun _ => by kernel_rfl) ?_
 refine T.nil ?_
 refine T.cond (r1 != 0) (by kernel_rfl) (by kernel_rfl) (fun hc1 => ?_) (fun hc1 => ?_)
 ·
  rw [hc1, cond_true] at hF
  refine T.seq ?_
  refine T.region ?_
  refine T.pure (.int .i64 r1) (by kernel_rfl) (fun _ => by kernel_rfl) ?_
  refine T.pure (.int .i64 r1) (by kernel_rfl) (fun _ => by kernel_rfl) ?_
  refine T.nil ?_
  cases hF
  refine T.ret rfl ?_
  exact T.ret1 rfl (ResIs.tmp rfl) fun w' hh => ⟨_, rfl, hh.below, (show _ from rfl)⟩
 ·
  rw [hc1, cond_false] at hF
  refine T.skip_code ?_
  refine T.seq ?_
  refine T.region ?_
  refine T.pure (.int .i64 p1) (by kernel_rfl) (fun _ => by kernel_rfl) ?_
  refine T.pure (.int .i64 p2) (by kernel_rfl) (fun _ => by kernel_rfl) ?_
  refine T.pure (.agg #[.int .i64 p1, .int .i64 p2, .int .i64 0]) (by kernel_rfl) (fun _ => by kernel_rfl) ?_
  obtain ⟨r2, hb2, hF⟩ := Option.bind_eq_some_iff.1 hF
  refine T.step (W1.call (vSc eInt) r2 51 #[.agg #[.int .i64 p1, .int .i64 p2, .int .i64 0]] (by kernel_rfl) (fun _ => by kernel_rfl) (fun w' hh => key_Check_l (DKey.mk p1 p2 0) r2 hb2 w' ) ?_)
  intro u V2 hV2 hu
  obtain rfl := sureInt _ _ _ hu
  refine T.pure (.int .i64 r2) (by kernel_rfl) (fun _ => by kernel_rfl) ?_
  refine T.nil ?_
  cases hF
  refine T.ret rfl ?_
  exact T.ret1 rfl (ResIs.tmp rfl) fun w' hh => ⟨_, rfl, hh.below, (show _ from rfl)⟩

set_option maxRecDepth 100000 in
set_option maxHeartbeats 4000000 in
theorem dir_find_l (F : Nat) (p0 : (List DElem)) (p1 : Int) (p2 : Int) (p3 : ByteArray) (p4 : Int) (r : DElem × Int × Bool) (hF : dir_find F p0 p1 p2 p3 p4 = some r) (w : World) (hGl : Glob w) (A1 : Option Addr) (c1 : Nat) (hs1 : SlOk (vw w) eElem A1 c1 p0) :
    Calls Tryd.prog 26 #[.slice A1 p0.length c1, .int .i64 p1, .int .i64 p2, .string p3, .int .i64 p4] w (Post (vT3 (vAg eElem) (vSc eInt) (vSc eBool)) r w) := by
 unfold dir_find at hF
 refine T.start (l := [.slice A1 p0.length c1, .int .i64 p1, .int .i64 p2, .string p3, .int .i64 p4]) Tryd.func26 rfl rfl rfl ?_
 refine T.seq ?_
 refine T.region ?_
 refine T.step (W1.new 36 [.int .i64 0, .int .i64 0, .int .i64 0, .int .i64 0, .int .i64 0, .string (ByteArray.mk #[])] (fun b => .pointer (some ⟨b, 0, none⟩)) (by kernel_rfl) (fun _ => by kernel_rfl) (fun b1 => ?_))
 refine T.pure (.int .i64 0) (by kernel_rfl) (fun _ => by kernel_rfl) ?_
 refine T.pure (.bool false) (by kernel_rfl) (fun _ => by kernel_rfl) ?_
 refine T.nil ?_
 refine T.seq ?_
 refine T.seq ?_
 refine T.region ?_
 refine T.pure (.slice A1 p0.length c1) (by kernel_rfl) (fun _ => by kernel_rfl) ?_
 refine T.pure (.int .i64 (p0.length : Int)) (by kernel_rfl) (fun _ => by kernel_rfl) ?_
 refine T.pure (.int .i64 0) (by kernel_rfl) (fun _ => by kernel_rfl) ?_
 refine T.nil ?_
 obtain ⟨q1, hz1, hF⟩ := Option.bind_eq_some_iff.1 hF
 refine T.mid (fun a w' => q1 = Sum.inl () ∧ ∃ (V2 : View), View.le (vw w) V2 ∧ Fr 58 [(10, .pointer (some ⟨b1, 0, none⟩))] a ∧ Hp w V2 [box b1 36 [.int .i64 0, .int .i64 0, .int .i64 0, .int .i64 0, .int .i64 0, .string (ByteArray.mk #[])]] w') ?_ ?_
 ·
  refine T.block ?_
  refine T.iter (fun x1 a w' => ∃ (V1 : View), View.le (vw w) V1 ∧ Fr 58 [(1, .int .i64 p1), (2, .int .i64 p2), (3, .string p3), (4, .int .i64 p4), (10, .pointer (some ⟨b1, 0, none⟩)), (18, .slice A1 p0.length c1), (19, .int .i64 (p0.length : Int)), (20, .int .i64 x1)] a ∧ Hp w V1 [box b1 36 [.int .i64 0, .int .i64 0, .int .i64 0, .int .i64 0, .int .i64 0, .string (ByteArray.mk #[])]] w') hz1 ?_ ?_
  ·
   exact fun a w' hf hh => Exists.intro (vw w) (And.intro (View.le_refl _) (And.intro (((((((((Fr.nil hf).pick hf 20 rfl).pick hf 19 rfl).pick hf 18 rfl).pick hf 10 rfl).pick hf 4 rfl).pick hf 3 rfl).pick hf 2 rfl).pick hf 1 rfl) (hh.sub (.cons_cons _ List.Sublist.slnil))))
  ·
   rintro x1 y1 hY1 hr1 a w' ⟨V1, hV1, hf, hh⟩
   refine (?_ : T 58 w V1 [box b1 36 [.int .i64 0, .int .i64 0, .int .i64 0, .int .i64 0, .int .i64 0, .string (ByteArray.mk #[])]] [(1, .int .i64 p1), (2, .int .i64 p2), (3, .string p3), (4, .int .i64 p4), (10, .pointer (some ⟨b1, 0, none⟩)), (18, .slice A1 p0.length c1), (19, .int .i64 (p0.length : Int)), (20, .int .i64 x1)] _) a w' hf hh
   clear hf hh
   try dsimp only at hY1
   refine T.seq ?_
   refine T.region ?_
   refine T.pure (.bool (decide (x1 < (p0.length : Int)))) (by kernel_rfl) (fun _ => by kernel_rfl) ?_
   refine T.nil ?_
   refine T.seq ?_
   refine T.cond (decide (x1 < (p0.length : Int))) (by kernel_rfl) (by kernel_rfl) (fun hc1 => ?_) (fun hc1 => ?_)
   ·
    rw [hc1, cond_true] at hY1
    refine T.skip_code ?_
    obtain ⟨q2, hX1, hY1⟩ := Option.bind_eq_some_iff.1 hY1
    refine T.cut (fun a w' => q2 = Sum.inl () ∧ ∃ (V3 : View), View.le V1 V3 ∧ Fr 58 [(1, .int .i64 p1), (2, .int .i64 p2), (3, .string p3), (4, .int .i64 p4), (10, .pointer (some ⟨b1, 0, none⟩)), (18, .slice A1 p0.length c1), (19, .int .i64 (p0.length : Int)), (20, .int .i64 x1)] a ∧ Hp w V3 [box b1 36 [.int .i64 0, .int .i64 0, .int .i64 0, .int .i64 0, .int .i64 0, .string (ByteArray.mk #[])]] w') ?_ ?_
    ·
     refine T.block ?_
     refine T.seq ?_
     refine T.region ?_
     obtain ⟨e1, hb1, hX1⟩ := Option.bind_eq_some_iff.1 hX1
     obtain ⟨hi1, hi2, hi3⟩ := idx_some hb1
     refine T.look (.pointer (some ((sadr A1).add (x1.toNat * 6)))) (by kernel_rfl) (fun w' hh => exec_indexAddr (e := 36) (s := 6) rfl rfl rfl (by kernel_rfl) (by kernel_rfl) hi1 hi2 ((SlOk.mono hs1 hV1).some_ hi3 (by decide))) ?_
     refine T.look (.agg #[.int .i64 e1.key.pfs, .int .i64 e1.key.obj, .int .i64 e1.key.off, .int .i64 e1.made, .int .i64 e1.gone, .string e1.val]) (by kernel_rfl) (fun w' hh => exec_loadN (cs := [.int .i64 e1.key.pfs, .int .i64 e1.key.obj, .int .i64 e1.key.off, .int .i64 e1.made, .int .i64 e1.gone, .string e1.val]) rfl rfl (by kernel_rfl) (by kernel_rfl) (fun j u hj => (hh.cell_view (SlOk.cellF (E := eElem) (SlOk.mono hs1 hV1) hi3 j (fun _ _ _ h => h) hj)))) ?_
     refine T.step (W1.new 36 [.int .i64 0, .int .i64 0, .int .i64 0, .int .i64 0, .int .i64 0, .string (ByteArray.mk #[])] (fun b => .pointer (some ⟨b, 0, none⟩)) (by kernel_rfl) (fun _ => by kernel_rfl) (fun b2 => ?_))
     refine T.step (W1.store 0 [.int .i64 e1.key.pfs, .int .i64 e1.key.obj, .int .i64 e1.key.off, .int .i64 e1.made, .int .i64 e1.gone, .string e1.val] [box b2 36 [.int .i64 e1.key.pfs, .int .i64 e1.key.obj, .int .i64 e1.key.off, .int .i64 e1.made, .int .i64 e1.gone, .string e1.val], box b1 36 [.int .i64 0, .int .i64 0, .int .i64 0, .int .i64 0, .int .i64 0, .string (ByteArray.mk #[])]] (by rfl) rfl (by kernel_rfl) (fun w' hw => exec_store (vs := [.int .i64 e1.key.pfs, .int .i64 e1.key.obj, .int .i64 e1.key.off, .int .i64 e1.made, .int .i64 e1.gone, .string e1.val]) rfl rfl rfl rfl (by kernel_rfl) (one_of rfl) (by simp) rfl hw) ?_)
     refine T.nil ?_
     refine T.seq ?_
     obtain ⟨z1, hX2, hX1⟩ := Option.bind_eq_some_iff.1 hX1
     refine T.cut (fun a w' => ∃ (V4 : View), View.le V1 V4 ∧ Fr 58 [(1, .int .i64 p1), (2, .int .i64 p2), (3, .string p3), (4, .int .i64 p4), (10, .pointer (some ⟨b1, 0, none⟩)), (14, .pointer (some ⟨b2, 0, none⟩)), (18, .slice A1 p0.length c1), (19, .int .i64 (p0.length : Int)), (20, .int .i64 x1), (41, .bool z1)] a ∧ Hp w V4 [box b2 36 [.int .i64 e1.key.pfs, .int .i64 e1.key.obj, .int .i64 e1.key.off, .int .i64 e1.made, .int .i64 e1.gone, .string e1.val], box b1 36 [.int .i64 0, .int .i64 0, .int .i64 0, .int .i64 0, .int .i64 0, .string (ByteArray.mk #[])]] w') ?_ ?_
     ·
      refine T.region ?_
      refine T.pure (.pointer (some ⟨b2, 0, none⟩)) (by kernel_rfl) (fun _ => by kernel_rfl) ?_
      refine T.pure (.pointer (some ⟨b2, 0, none⟩)) (by kernel_rfl) (fun _ => by kernel_rfl) ?_
      refine T.look (.int .i64 e1.key.pfs) (by kernel_rfl) (fun w' hh => exec_load1 rfl rfl (by kernel_rfl) (hh.cellBox (i := 0) (by rfl) 0)) ?_
      refine T.pure (.int .i64 p1) (by kernel_rfl) (fun _ => by kernel_rfl) ?_
      refine T.pure (.bool (e1.key.pfs != p1)) (by kernel_rfl) (fun _ => by kernel_rfl) ?_
      refine T.pure (.bool (e1.key.pfs != p1)) (by kernel_rfl) (fun _ => by kernel_rfl) ?_
      cases hg1 : (e1.key.pfs != p1)
      ·
       skip
       rw [hg1, cond_false] at hX2
       refine T.pure (.pointer (some ⟨b2, 0, none⟩)) (by kernel_rfl) (fun _ => by kernel_rfl) ?_
       refine T.pure (.pointer (some ⟨b2, 1, none⟩)) (by kernel_rfl) (fun _ => by kernel_rfl) ?_
       refine T.look (.int .i64 e1.key.obj) (by kernel_rfl) (fun w' hh => exec_load1 rfl rfl (by kernel_rfl) (hh.cellBox (i := 0) (by rfl) 1)) ?_
       refine T.pure (.int .i64 p2) (by kernel_rfl) (fun _ => by kernel_rfl) ?_
       refine T.pure (.bool (e1.key.obj != p2)) (by kernel_rfl) (fun _ => by kernel_rfl) ?_
       refine T.pure (.bool (e1.key.obj != p2)) (by kernel_rfl) (fun _ => by kernel_rfl) ?_
       refine T.pure (.bool (e1.key.obj != p2)) (by kernel_rfl) (fun _ => by kernel_rfl) ?_
       cases hg2 : (e1.key.obj != p2)
       ·
        skip
        rw [hg2, cond_false] at hX2
        refine T.look (.agg #[.int .i64 e1.key.pfs, .int .i64 e1.key.obj, .int .i64 e1.key.off, .int .i64 e1.made, .int .i64 e1.gone, .string e1.val]) (by kernel_rfl) (fun w' hh => exec_loadN (cs := [.int .i64 e1.key.pfs, .int .i64 e1.key.obj, .int .i64 e1.key.off, .int .i64 e1.made, .int .i64 e1.gone, .string e1.val]) rfl rfl (by kernel_rfl) (by kernel_rfl) (fun j u hj => (hh.box_at (i := 0) (cs := [.int .i64 e1.key.pfs, .int .i64 e1.key.obj, .int .i64 e1.key.off, .int .i64 e1.made, .int .i64 e1.gone, .string e1.val]) (by rfl) 0 j).trans (seg_at (n := 6) (by rfl) hj))) ?_
        refine T.pure (.int .i64 p4) (by kernel_rfl) (fun _ => by kernel_rfl) ?_
        obtain ⟨r1, hb2, hX2⟩ := Option.bind_eq_some_iff.1 hX2
        refine T.step (W1.call (vSc eBool) r1 44 #[.agg #[.int .i64 e1.key.pfs, .int .i64 e1.key.obj, .int .i64 e1.key.off, .int .i64 e1.made, .int .i64 e1.gone, .string e1.val], .int .i64 p4] (by kernel_rfl) (fun _ => by kernel_rfl) (fun w' hh => elem_Live_l e1 p4 r1 hb2 w' ) ?_)
        intro u V5 hV5 hu
        obtain rfl := sureBool _ _ _ hu
        refine T.pure (.bool (!r1)) (by kernel_rfl) (fun _ => by kernel_rfl) ?_
        refine T.pure (.bool (!r1)) (by kernel_rfl) (fun _ => by kernel_rfl) ?_
        refine T.nil ?_
        cases hX2
        exact fun a w' hf hh => Exists.intro V5 (And.intro hV5 (And.intro (((((((((((Fr.nil hf).pick hf 41 rfl).pick hf 20 rfl).pick hf 19 rfl).pick hf 18 rfl).pick hf 14 rfl).pick hf 10 rfl).pick hf 4 rfl).pick hf 3 rfl).pick hf 2 rfl).pick hf 1 rfl) (hh.sub (.cons_cons _ (.cons_cons _ List.Sublist.slnil)))))
       ·
        skip
        rw [hg2, cond_true] at hX2
        refine T.pass (by kernel_rfl) (by kernel_rfl) ?_
        refine T.pass (by kernel_rfl) (by kernel_rfl) ?_
        refine T.pass (by kernel_rfl) (by kernel_rfl) ?_
        refine T.pass (by kernel_rfl) (by kernel_rfl) ?_
        refine T.pure (.bool true) (by kernel_rfl) (fun _ => by kernel_rfl) ?_
        refine T.nil ?_
        cases hX2
        exact fun a w' hf hh => Exists.intro V1 (And.intro (View.le_refl _) (And.intro (((((((((((Fr.nil hf).pick hf 41 rfl).pick hf 20 rfl).pick hf 19 rfl).pick hf 18 rfl).pick hf 14 rfl).pick hf 10 rfl).pick hf 4 rfl).pick hf 3 rfl).pick hf 2 rfl).pick hf 1 rfl) (hh.sub (.cons_cons _ (.cons_cons _ List.Sublist.slnil)))))
      ·
       skip
       rw [hg1, cond_true] at hX2
       refine T.pass (by kernel_rfl) (by kernel_rfl) ?_
       refine T.pass (by kernel_rfl) (by kernel_rfl) ?_
       refine T.pass (by kernel_rfl) (by kernel_rfl) ?_
       refine T.pass (by kernel_rfl) (by kernel_rfl) ?_
       refine T.pass (by kernel_rfl) (by kernel_rfl) ?_
       refine T.pure (.bool true) (by kernel_rfl) (fun _ => by kernel_rfl) ?_
       refine T.pure (.bool true) (by kernel_rfl) (fun _ => by kernel_rfl) ?_
       refine T.pass (by kernel_rfl) (by kernel_rfl) ?_
       refine T.pass (by kernel_rfl) (by kernel_rfl) ?_
       refine T.pass (by kernel_rfl) (by kernel_rfl) ?_
       refine T.pass (by kernel_rfl) (by kernel_rfl) ?_
       refine T.pure (.bool true) (by kernel_rfl) (fun _ => by kernel_rfl) ?_
       refine T.nil ?_
       cases hX2
       exact fun a w' hf hh => Exists.intro V1 (And.intro (View.le_refl _) (And.intro (((((((((((Fr.nil hf).pick hf 41 rfl).pick hf 20 rfl).pick hf 19 rfl).pick hf 18 rfl).pick hf 14 rfl).pick hf 10 rfl).pick hf 4 rfl).pick hf 3 rfl).pick hf 2 rfl).pick hf 1 rfl) (hh.sub (.cons_cons _ (.cons_cons _ List.Sublist.slnil)))))
     ·
      rintro a w' ⟨V4, hV4, hf, hh⟩
      refine (?_ : T 58 w V4 [box b2 36 [.int .i64 e1.key.pfs, .int .i64 e1.key.obj, .int .i64 e1.key.off, .int .i64 e1.made, .int .i64 e1.gone, .string e1.val], box b1 36 [.int .i64 0, .int .i64 0, .int .i64 0, .int .i64 0, .int .i64 0, .string (ByteArray.mk #[])]] [(1, .int .i64 p1), (2, .int .i64 p2), (3, .string p3), (4, .int .i64 p4), (10, .pointer (some ⟨b1, 0, none⟩)), (14, .pointer (some ⟨b2, 0, none⟩)), (18, .slice A1 p0.length c1), (19, .int .i64 (p0.length : Int)), (20, .int .i64 x1), (41, .bool z1)] _) a w' hf hh
      clear hf hh
      refine T.cond z1 (by kernel_rfl) (by kernel_rfl) (fun hc2 => ?_) (fun hc2 => ?_)
      ·
       rw [hc2, cond_true] at hX1
       refine T.exit ?_
       cases hX1
       exact fun a w' hf hh => And.intro rfl (Exists.intro V4 (And.intro hV4 (And.intro (((((((((Fr.nil hf).pick hf 20 rfl).pick hf 19 rfl).pick hf 18 rfl).pick hf 10 rfl).pick hf 4 rfl).pick hf 3 rfl).pick hf 2 rfl).pick hf 1 rfl) (hh.sub (.cons _ (.cons_cons _ List.Sublist.slnil))))))
      ·
       rw [hc2, cond_false] at hX1
       refine T.skip_code ?_
       refine T.seq ?_
       refine T.region ?_
       refine T.look (.agg #[.int .i64 e1.key.pfs, .int .i64 e1.key.obj, .int .i64 e1.key.off, .int .i64 e1.made, .int .i64 e1.gone, .string e1.val]) (by kernel_rfl) (fun w' hh => exec_loadN (cs := [.int .i64 e1.key.pfs, .int .i64 e1.key.obj, .int .i64 e1.key.off, .int .i64 e1.made, .int .i64 e1.gone, .string e1.val]) rfl rfl (by kernel_rfl) (by kernel_rfl) (fun j u hj => (hh.box_at (i := 0) (cs := [.int .i64 e1.key.pfs, .int .i64 e1.key.obj, .int .i64 e1.key.off, .int .i64 e1.made, .int .i64 e1.gone, .string e1.val]) (by rfl) 0 j).trans (seg_at (n := 6) (by rfl) hj))) ?_
       obtain ⟨r2, hb3, hX1⟩ := Option.bind_eq_some_iff.1 hX1
       refine T.step (W1.call (vT3 (vSc eStr) (vSc eInt) (vSc eBool)) r2 45 #[.agg #[.int .i64 e1.key.pfs, .int .i64 e1.key.obj, .int .i64 e1.key.off, .int .i64 e1.made, .int .i64 e1.gone, .string e1.val]] (by kernel_rfl) (fun _ => by kernel_rfl) (fun w' hh => dir_entry_l F e1 r2 hb3 w' (Glob.mono hGl (View.le_trans hh.base hh.view))) ?_)
       intro u V6 hV6 hu
       obtain rfl := (Sure.t3 sureStr sureInt sureBool) _ _ _ hu
       refine T.pure (.tuple #[.string r2.1, .int .i64 r2.2.1, .bool r2.2.2]) (by kernel_rfl) (fun _ => by kernel_rfl) ?_
       refine T.pure (.string r2.1) (by kernel_rfl) (fun _ => by kernel_rfl) ?_
       refine T.pure (.int .i64 r2.2.1) (by kernel_rfl) (fun _ => by kernel_rfl) ?_
       refine T.pure (.bool r2.2.2) (by kernel_rfl) (fun _ => by kernel_rfl) ?_
       refine T.pure (.string r2.1) (by kernel_rfl) (fun _ => by kernel_rfl) ?_
       refine T.pure (.int .i64 r2.2.1) (by kernel_rfl) (fun _ => by kernel_rfl) ?_
       refine T.pure (.bool r2.2.2) (by kernel_rfl) (fun _ => by kernel_rfl) ?_
       refine T.nil ?_
       refine T.cut (fun a w' => Fr 58 [(1, .int .i64 p1), (2, .int .i64 p2), (3, .string p3), (4, .int .i64 p4), (10, .pointer (some ⟨b1, 0, none⟩)), (14, .pointer (some ⟨b2, 0, none⟩)), (16, .int .i64 r2.2.1), (18, .slice A1 p0.length c1), (19, .int .i64 (p0.length : Int)), (20, .int .i64 x1), (53, .bool (r2.2.2 && (seq r2.1 p3)))] a ∧ Hp w V6 [box b2 36 [.int .i64 e1.key.pfs, .int .i64 e1.key.obj, .int .i64 e1.key.off, .int .i64 e1.made, .int .i64 e1.gone, .string e1.val], box b1 36 [.int .i64 0, .int .i64 0, .int .i64 0, .int .i64 0, .int .i64 0, .string (ByteArray.mk #[])]] w') ?_ ?_
       ·
        refine T.region ?_
        refine T.pure (.bool r2.2.2) (by kernel_rfl) (fun _ => by kernel_rfl) ?_
        refine T.pure (.bool r2.2.2) (by kernel_rfl) (fun _ => by kernel_rfl) ?_
        cases hg3 : r2.2.2
        ·
         skip
         refine T.pass (by kernel_rfl) (by kernel_rfl) ?_
         refine T.pass (by kernel_rfl) (by kernel_rfl) ?_
         refine T.pass (by kernel_rfl) (by kernel_rfl) ?_
         refine T.pure (.bool false) (by kernel_rfl) (fun _ => by kernel_rfl) ?_
         refine T.nil ?_
         exact fun a w' hf hh => And.intro ((((((((((((Fr.nil hf).pick hf 53 rfl).pick hf 20 rfl).pick hf 19 rfl).pick hf 18 rfl).pick hf 16 rfl).pick hf 14 rfl).pick hf 10 rfl).pick hf 4 rfl).pick hf 3 rfl).pick hf 2 rfl).pick hf 1 rfl) (hh.sub (.cons_cons _ (.cons_cons _ List.Sublist.slnil)))
        ·
         skip
         refine T.pure (.string r2.1) (by kernel_rfl) (fun _ => by kernel_rfl) ?_
         refine T.pure (.string p3) (by kernel_rfl) (fun _ => by kernel_rfl) ?_
         refine T.pure (.bool (seq r2.1 p3)) (by kernel_rfl) (fun _ => by kernel_rfl) ?_
         refine T.pure (.bool (seq r2.1 p3)) (by kernel_rfl) (fun _ => by kernel_rfl) ?_
         refine T.nil ?_
         exact fun a w' hf hh => And.intro ((((((((((((Fr.nil hf).pick hf 53 rfl).pick hf 20 rfl).pick hf 19 rfl).pick hf 18 rfl).pick hf 16 rfl).pick hf 14 rfl).pick hf 10 rfl).pick hf 4 rfl).pick hf 3 rfl).pick hf 2 rfl).pick hf 1 rfl) (hh.sub (.cons_cons _ (.cons_cons _ List.Sublist.slnil)))
       ·
        rintro a w' ⟨hf, hh⟩
        refine (?_ : T 58 w V6 [box b2 36 [.int .i64 e1.key.pfs, .int .i64 e1.key.obj, .int .i64 e1.key.off, .int .i64 e1.made, .int .i64 e1.gone, .string e1.val], box b1 36 [.int .i64 0, .int .i64 0, .int .i64 0, .int .i64 0, .int .i64 0, .string (ByteArray.mk #[])]] [(1, .int .i64 p1), (2, .int .i64 p2), (3, .string p3), (4, .int .i64 p4), (10, .pointer (some ⟨b1, 0, none⟩)), (14, .pointer (some ⟨b2, 0, none⟩)), (16, .int .i64 r2.2.1), (18, .slice A1 p0.length c1), (19, .int .i64 (p0.length : Int)), (20, .int .i64 x1), (53, .bool (r2.2.2 && (seq r2.1 p3)))] _) a w' hf hh
        clear hf hh
        refine T.cond (r2.2.2 && (seq r2.1 p3)) (by kernel_rfl) (by kernel_rfl) (fun hc3 => ?_) (fun hc3 => ?_)
        ·
         rw [hc3, cond_true] at hX1
         refine T.seq ?_
         refine T.region ?_
         refine T.look (.agg #[.int .i64 e1.key.pfs, .int .i64 e1.key.obj, .int .i64 e1.key.off, .int .i64 e1.made, .int .i64 e1.gone, .string e1.val]) (by kernel_rfl) (fun w' hh => exec_loadN (cs := [.int .i64 e1.key.pfs, .int .i64 e1.key.obj, .int .i64 e1.key.off, .int .i64 e1.made, .int .i64 e1.gone, .string e1.val]) rfl rfl (by kernel_rfl) (by kernel_rfl) (fun j u hj => (hh.box_at (i := 0) (cs := [.int .i64 e1.key.pfs, .int .i64 e1.key.obj, .int .i64 e1.key.off, .int .i64 e1.made, .int .i64 e1.gone, .string e1.val]) (by rfl) 0 j).trans (seg_at (n := 6) (by rfl) hj))) ?_
         refine T.pure (.int .i64 r2.2.1) (by kernel_rfl) (fun _ => by kernel_rfl) ?_
         refine T.step (W1.store 1 [.int .i64 e1.key.pfs, .int .i64 e1.key.obj, .int .i64 e1.key.off, .int .i64 e1.made, .int .i64 e1.gone, .string e1.val] [box b2 36 [.int .i64 e1.key.pfs, .int .i64 e1.key.obj, .int .i64 e1.key.off, .int .i64 e1.made, .int .i64 e1.gone, .string e1.val], box b1 36 [.int .i64 e1.key.pfs, .int .i64 e1.key.obj, .int .i64 e1.key.off, .int .i64 e1.made, .int .i64 e1.gone, .string e1.val]] (by rfl) rfl (by kernel_rfl) (fun w' hw => exec_store (vs := [.int .i64 e1.key.pfs, .int .i64 e1.key.obj, .int .i64 e1.key.off, .int .i64 e1.made, .int .i64 e1.gone, .string e1.val]) rfl rfl rfl rfl (by kernel_rfl) (one_of rfl) (by simp) rfl hw) ?_)
         refine T.pure (.int .i64 r2.2.1) (by kernel_rfl) (fun _ => by kernel_rfl) ?_
         refine T.pure (.bool true) (by kernel_rfl) (fun _ => by kernel_rfl) ?_
         refine T.nil ?_
         cases hX1
         try dsimp only at hY1
         cases hY1
         cases (hr1 _ rfl)
         try dsimp only at hF
         cases hF
         refine T.ret rfl ?_
         exact T.ret3 rfl (ResIs.cellN 1 rfl (by rfl) (fun _ => by kernel_rfl) (fun _ => by kernel_rfl)) (ResIs.tmp rfl) (ResIs.tmp rfl) fun w' hh => ⟨_, rfl, hh.below, (vT3.mk (vAg.mk rfl) (show _ from rfl) (show _ from rfl))⟩
        ·
         rw [hc3, cond_false] at hX1
         refine T.skip_code ?_
         cases hX1
         exact fun a w' hf hh => And.intro rfl (Exists.intro V6 (And.intro (View.le_trans hV4 hV6) (And.intro (((((((((Fr.nil hf).pick hf 20 rfl).pick hf 19 rfl).pick hf 18 rfl).pick hf 10 rfl).pick hf 4 rfl).pick hf 3 rfl).pick hf 2 rfl).pick hf 1 rfl) (hh.sub (.cons _ (.cons_cons _ List.Sublist.slnil))))))
    ·
     rintro a w' ⟨rfl, V3, hV3, hf, hh⟩
     try dsimp only at hY1
     refine (?_ : T 58 w V3 [box b1 36 [.int .i64 0, .int .i64 0, .int .i64 0, .int .i64 0, .int .i64 0, .string (ByteArray.mk #[])]] [(1, .int .i64 p1), (2, .int .i64 p2), (3, .string p3), (4, .int .i64 p4), (10, .pointer (some ⟨b1, 0, none⟩)), (18, .slice A1 p0.length c1), (19, .int .i64 (p0.length : Int)), (20, .int .i64 x1)] _) a w' hf hh
     clear hf hh
     refine T.region ?_
     refine T.pure (.int .i64 (IntKind.i64.wrap (x1 + 1))) (by kernel_rfl) (fun _ => by kernel_rfl) ?_
     refine T.pure (.int .i64 (IntKind.i64.wrap (x1 + 1))) (by kernel_rfl) (fun _ => by kernel_rfl) ?_
     refine T.nil ?_
     cases hY1
     exact fun a w' hf hh => Exists.intro (IntKind.i64.wrap (x1 + 1)) (And.intro rfl (Exists.intro V3 (And.intro (View.le_trans hV1 hV3) (And.intro (((((((((Fr.nil hf).pick hf 20 rfl).pick hf 19 rfl).pick hf 18 rfl).pick hf 10 rfl).pick hf 4 rfl).pick hf 3 rfl).pick hf 2 rfl).pick hf 1 rfl) (hh.sub (.cons_cons _ List.Sublist.slnil))))))
   ·
    rw [hc1, cond_false] at hY1
    refine T.exit ?_
    cases hY1
    cases (hr1 _ rfl)
    exact fun a w' hf hh => And.intro rfl (Exists.intro V1 (And.intro hV1 (And.intro ((Fr.nil hf).pick hf 10 rfl) (hh.sub (.cons_cons _ List.Sublist.slnil)))))
 ·
  rintro a w' ⟨rfl, V2, hV2, hf, hh⟩
  try dsimp only at hF
  refine (?_ : T 58 w V2 [box b1 36 [.int .i64 0, .int .i64 0, .int .i64 0, .int .i64 0, .int .i64 0, .string (ByteArray.mk #[])]] [(10, .pointer (some ⟨b1, 0, none⟩))] _) a w' hf hh
  clear hf hh
  refine T.seq ?_
  refine T.region ?_
  refine T.pure (.agg #[.int .i64 0, .int .i64 0, .int .i64 0, .int .i64 0, .int .i64 0, .string (ByteArray.mk #[])]) (by kernel_rfl) (fun _ => by kernel_rfl) ?_
  refine T.step (W1.store 0 [.int .i64 0, .int .i64 0, .int .i64 0, .int .i64 0, .int .i64 0, .string (ByteArray.mk #[])] [box b1 36 [.int .i64 0, .int .i64 0, .int .i64 0, .int .i64 0, .int .i64 0, .string (ByteArray.mk #[])]] (by rfl) rfl (by kernel_rfl) (fun w' hw => exec_store (vs := [.int .i64 0, .int .i64 0, .int .i64 0, .int .i64 0, .int .i64 0, .string (ByteArray.mk #[])]) rfl rfl rfl rfl (by kernel_rfl) (one_of rfl) (by simp) rfl hw) ?_)
  refine T.pure (.int .i64 0) (by kernel_rfl) (fun _ => by kernel_rfl) ?_
  refine T.pure (.bool false) (by kernel_rfl) (fun _ => by kernel_rfl) ?_
  refine T.nil ?_
  cases hF
  refine T.ret rfl ?_
  exact T.ret3 rfl (ResIs.cellN 0 rfl (by rfl) (fun _ => by kernel_rfl) (fun _ => by kernel_rfl)) (ResIs.tmp rfl) (ResIs.tmp rfl) fun w' hh => ⟨_, rfl, hh.below, (vT3.mk (vAg.mk rfl) (show _ from rfl) (show _ from rfl))⟩

set_option maxRecDepth 100000 in
set_option maxHeartbeats 4000000 in
theorem dir_Find_l (F : Nat) (p0 : (List DElem)) (p1 : Int) (p2 : Int) (p3 : ByteArray) (p4 : Int) (r : Int × Int) (hF : dir_Find F p0 p1 p2 p3 p4 = some r) (w : World) (hGl : Glob w) (A1 : Option Addr) (c1 : Nat) (hs1 : SlOk (vw w) eElem A1 c1 p0) :
    Calls Tryd.prog 11 #[.slice A1 p0.length c1, .int .i64 p1, .int .i64 p2, .string p3, .int .i64 p4] w (Post (vT2 (vSc eInt) (vSc eInt)) r w) := by
 unfold dir_Find at hF
 refine T.start (l := [.slice A1 p0.length c1, .int .i64 p1, .int .i64 p2, .string p3, .int .i64 p4]) Tryd.func11 rfl rfl rfl ?_
 refine T.seq ?_
 refine T.region ?_
 refine T.pure (.int .i64 0) (by kernel_rfl) (fun _ => by kernel_rfl) ?_
 refine T.pure (.int .i64 0) (by kernel_rfl) (fun _ => by kernel_rfl) ?_
 refine T.nil ?_
 refine T.seq ?_
 refine T.seq ?_
 refine T.region ?_
 refine T.pure (.slice A1 p0.length c1) (by kernel_rfl) (fun _ => by kernel_rfl) ?_
 refine T.pure (.int .i64 p1) (by kernel_rfl) (fun _ => by kernel_rfl) ?_
 refine T.pure (.int .i64 p2) (by kernel_rfl) (fun _ => by kernel_rfl) ?_
 obtain ⟨r1, hb1, hF⟩ := Option.bind_eq_some_iff.1 hF
 refine T.step (W1.call (vSc eInt) r1 25 #[.slice A1 p0.length c1, .int .i64 p1, .int .i64 p2] (by kernel_rfl) (fun _ => by kernel_rfl) (fun w' hh => dir_look_l F p0 p1 p2 r1 hb1 w' A1 c1 (SlOk.mono hs1 hh.view)) ?_)
 intro u V1 hV1 hu
 obtain rfl := sureInt _ _ _ hu
 refine T.pure (.int .i64 r1) (by kernel_rfl) (fun _ => by kernel_rfl) ?_
 refine T.nil ?_
 refine T.seq ?_
 refine T.region ?_
 refine T.pure (.int .i64 r1) (by kernel_rfl) (fun _ => by kernel_rfl) ?_
 refine T.pure (.bool (r1 != 0)) (by kernel_rfl) (fun _ => by kernel_rfl) ?_
 refine T.nil ?_
 refine T.cond (r1 != 0) (by kernel_rfl) (by kernel_rfl) (fun hc1 => ?_) (fun hc1 => ?_)
 ·
  rw [hc1, cond_true] at hF
  refine T.seq ?_
  refine T.region ?_
  refine T.pure (.int .i64 r1) (by kernel_rfl) (fun _ => by kernel_rfl) ?_
  refine T.pure (.int .i64 0) (by kernel_rfl) (fun _ => by kernel_rfl) ?_
  refine T.pure (.int .i64 r1) (by kernel_rfl) (fun _ => by kernel_rfl) ?_
  refine T.nil ?_
  cases hF
  refine T.ret rfl ?_
  exact T.ret2 rfl (ResIs.tmp rfl) (ResIs.tmp rfl) fun w' hh => ⟨_, rfl, hh.below, (vT2.mk (show _ from rfl) (show _ from rfl))⟩
 ·
  rw [hc1, cond_false] at hF
  refine T.skip_code ?_
  refine T.seq ?_
  refine T.seq ?_
  refine T.region ?_
  refine T.pure (.string p3) (by kernel_rfl) (fun _ => by kernel_rfl) ?_
  obtain ⟨r2, hb2, hF⟩ := Option.bind_eq_some_iff.1 hF
  refine T.step (W1.call (vSc eBool) r2 21 #[.string p3] (by kernel_rfl) (fun _ => by kernel_rfl) (fun w' hh => dir_Name_l F p3 r2 hb2 w' ) ?_)
  intro u V2 hV2 hu
  obtain rfl := sureBool _ _ _ hu
  refine T.pure (.bool (!r2)) (by kernel_rfl) (fun _ => by kernel_rfl) ?_
  refine T.nil ?_
  refine T.cond (!r2) (by kernel_rfl) (by kernel_rfl) (fun hc2 => ?_) (fun hc2 => ?_)
  ·
   rw [hc2, cond_true] at hF
   refine T.seq ?_
   refine T.region ?_
   refine T.pure (.int .i64 0) (by kernel_rfl) (fun _ => by kernel_rfl) ?_
   refine T.pure (.int .i64 3) (by kernel_rfl) (fun _ => by kernel_rfl) ?_
   refine T.nil ?_
   cases hF
   refine T.ret rfl ?_
   exact T.ret2 rfl (ResIs.tmp rfl) (ResIs.tmp rfl) fun w' hh => ⟨_, rfl, hh.below, (vT2.mk (show _ from rfl) (show _ from rfl))⟩
  ·
   rw [hc2, cond_false] at hF
   refine T.skip_code ?_
   refine T.seq ?_
   refine T.region ?_
   refine T.pure (.slice A1 p0.length c1) (by kernel_rfl) (fun _ => by kernel_rfl) ?_
   refine T.pure (.int .i64 p1) (by kernel_rfl) (fun _ => by kernel_rfl) ?_
   refine T.pure (.int .i64 p2) (by kernel_rfl) (fun _ => by kernel_rfl) ?_
   refine T.pure (.string p3) (by kernel_rfl) (fun _ => by kernel_rfl) ?_
   refine T.pure (.int .i64 p4) (by kernel_rfl) (fun _ => by kernel_rfl) ?_
   obtain ⟨r3, hb3, hF⟩ := Option.bind_eq_some_iff.1 hF
   refine T.step (W1.call (vT3 (vAg eElem) (vSc eInt) (vSc eBool)) r3 26 #[.slice A1 p0.length c1, .int .i64 p1, .int .i64 p2, .string p3, .int .i64 p4] (by kernel_rfl) (fun _ => by kernel_rfl) (fun w' hh => dir_find_l F p0 p1 p2 p3 p4 r3 hb3 w' (Glob.mono hGl (View.le_trans hh.base hh.view)) A1 c1 (SlOk.mono (SlOk.mono hs1 (View.le_trans hV1 hV2)) hh.view)) ?_)
   intro u V3 hV3 hu
   obtain rfl := (Sure.t3 sureElem sureInt sureBool) _ _ _ hu
   refine T.pure (.tuple #[.agg #[.int .i64 r3.1.key.pfs, .int .i64 r3.1.key.obj, .int .i64 r3.1.key.off, .int .i64 r3.1.made, .int .i64 r3.1.gone, .string r3.1.val], .int .i64 r3.2.1, .bool r3.2.2]) (by kernel_rfl) (fun _ => by kernel_rfl) ?_
   refine T.pure (.agg #[.int .i64 r3.1.key.pfs, .int .i64 r3.1.key.obj, .int .i64 r3.1.key.off, .int .i64 r3.1.made, .int .i64 r3.1.gone, .string r3.1.val]) (by kernel_rfl) (fun _ => by kernel_rfl) ?_
   refine T.pure (.int .i64 r3.2.1) (by kernel_rfl) (fun _ => by kernel_rfl) ?_
   refine T.pure (.bool r3.2.2) (by kernel_rfl) (fun _ => by kernel_rfl) ?_
   refine T.step (W1.new 36 [.int .i64 0, .int .i64 0, .int .i64 0, .int .i64 0, .int .i64 0, .string (ByteArray.mk #[])] (fun b => .pointer (some ⟨b, 0, none⟩)) (by kernel_rfl) (fun _ => by kernel_rfl) (fun b1 => ?_))
   refine T.step (W1.store 0 [.int .i64 r3.1.key.pfs, .int .i64 r3.1.key.obj, .int .i64 r3.1.key.off, .int .i64 r3.1.made, .int .i64 r3.1.gone, .string r3.1.val] [box b1 36 [.int .i64 r3.1.key.pfs, .int .i64 r3.1.key.obj, .int .i64 r3.1.key.off, .int .i64 r3.1.made, .int .i64 r3.1.gone, .string r3.1.val]] (by rfl) rfl (by kernel_rfl) (fun w' hw => exec_store (vs := [.int .i64 r3.1.key.pfs, .int .i64 r3.1.key.obj, .int .i64 r3.1.key.off, .int .i64 r3.1.made, .int .i64 r3.1.gone, .string r3.1.val]) rfl rfl rfl rfl (by kernel_rfl) (one_of rfl) (by simp) rfl hw) ?_)
   refine T.pure (.int .i64 r3.2.1) (by kernel_rfl) (fun _ => by kernel_rfl) ?_
   refine T.pure (.bool r3.2.2) (by kernel_rfl) (fun _ => by kernel_rfl) ?_
   refine T.nil ?_
   refine T.seq ?_
   refine T.seq ?_
   refine T.region ?_
   refine T.pure (.bool r3.2.2) (by kernel_rfl) (fun _ => by kernel_rfl) ?_
   refine T.pure (.bool (!r3.2.2)) (by kernel_rfl) (fun _ => by kernel_rfl) ?_
   refine T.nil ?_
   refine T.cond (!r3.2.2) (by kernel_rfl) (by kernel_rfl) (fun hc3 => ?_) (fun hc3 => ?_)
   ·
    rw [hc3, cond_true] at hF
    refine T.seq ?_
    refine T.region ?_
    refine T.pure (.int .i64 0) (by kernel_rfl) (fun _ => by kernel_rfl) ?_
    refine T.pure (.int .i64 4) (by kernel_rfl) (fun _ => by kernel_rfl) ?_
    refine T.nil ?_
    cases hF
    refine T.ret rfl ?_
    exact T.ret2 rfl (ResIs.tmp rfl) (ResIs.tmp rfl) fun w' hh => ⟨_, rfl, hh.below, (vT2.mk (show _ from rfl) (show _ from rfl))⟩
   ·
    rw [hc3, cond_false] at hF
    refine T.skip_code ?_
    refine T.seq ?_
    refine T.region ?_
    refine T.pure (.int .i64 r3.2.1) (by kernel_rfl) (fun _ => by kernel_rfl) ?_
    refine T.pure (.int .i64 r3.2.1) (by kernel_rfl) (fun _ => by kernel_rfl) ?_
    refine T.pure (.int .i64 0) (by kernel_rfl) (fun _ => by kernel_rfl) ?_
    refine T.nil ?_
    cases hF
    refine T.ret rfl ?_
    exact T.ret2 rfl (ResIs.tmp rfl) (ResIs.tmp rfl) fun w' hh => ⟨_, rfl, hh.below, (vT2.mk (show _ from rfl) (show _ from rfl))⟩

set_option maxRecDepth 100000 in
set_option maxHeartbeats 4000000 in
theorem dir_Add_l (F : Nat) (p0 : (List DElem)) (p1 : Int) (p2 : Int) (p3 : ByteArray) (p4 : Int) (p5 : Int) (r : ((List DElem)) × Int) (hF : dir_Add F p0 p1 p2 p3 p4 p5 = some r) (w : World) (hGl : Glob w) (A1 : Option Addr) (c1 : Nat) (hs1 : SlOk (vw w) eElem A1 c1 p0) :
    Calls Tryd.prog 9 #[.slice A1 p0.length c1, .int .i64 p1, .int .i64 p2, .string p3, .int .i64 p4, .int .i64 p5] w (Post (vT2 (vSc (eList eElem)) (vSc eInt)) r w) := by
 unfold dir_Add at hF
 refine T.start (l := [.slice A1 p0.length c1, .int .i64 p1, .int .i64 p2, .string p3, .int .i64 p4, .int .i64 p5]) Tryd.func9 rfl rfl rfl ?_
 refine T.seq ?_
 refine T.region ?_
 refine T.pure (.slice none 0 0) (by kernel_rfl) (fun _ => by kernel_rfl) ?_
 refine T.pure (.int .i64 0) (by kernel_rfl) (fun _ => by kernel_rfl) ?_
 refine T.nil ?_
 refine T.seq ?_
 refine T.seq ?_
 refine T.region ?_
 refine T.pure (.slice A1 p0.length c1) (by kernel_rfl) (fun _ => by kernel_rfl) ?_
 refine T.pure (.int .i64 p1) (by kernel_rfl) (fun _ => by kernel_rfl) ?_
 refine T.pure (.int .i64 p2) (by kernel_rfl) (fun _ => by kernel_rfl) ?_
 obtain ⟨r1, hb1, hF⟩ := Option.bind_eq_some_iff.1 hF
 refine T.step (W1.call (vSc eInt) r1 25 #[.slice A1 p0.length c1, .int .i64 p1, .int .i64 p2] (by kernel_rfl) (fun _ => by kernel_rfl) (fun w' hh => dir_look_l F p0 p1 p2 r1 hb1 w' A1 c1 (SlOk.mono hs1 hh.view)) ?_)
 intro u V1 hV1 hu
 obtain rfl := sureInt _ _ _ hu
 refine T.pure (.int .i64 r1) (by kernel_rfl) (fun _ => by kernel_rfl) ?_
 refine T.nil ?_
 refine T.seq ?_
 refine T.region ?_
 refine T.pure (.int .i64 r1) (by kernel_rfl) (fun _ => by kernel_rfl) ?_
 refine T.pure (.bool (r1 != 0)) (by kernel_rfl) (fun _ => by kernel_rfl) ?_
 refine T.nil ?_
 refine T.cond (r1 != 0) (by kernel_rfl) (by kernel_rfl) (fun hc1 => ?_) (fun hc1 => ?_)
 ·
  rw [hc1, cond_true] at hF
  refine T.seq ?_
  refine T.region ?_
  refine T.pure (.int .i64 r1) (by kernel_rfl) (fun _ => by kernel_rfl) ?_
  refine T.pure (.slice none 0 0) (by kernel_rfl) (fun _ => by kernel_rfl) ?_
  refine T.pure (.int .i64 r1) (by kernel_rfl) (fun _ => by kernel_rfl) ?_
  refine T.nil ?_
  cases hF
  refine T.ret rfl ?_
  exact T.ret2 rfl (ResIs.tmp rfl) (ResIs.tmp rfl) fun w' hh => ⟨_, rfl, hh.below, (vT2.mk ⟨_, _, rfl, (SlOk.nil _ _)⟩ (show _ from rfl))⟩
 ·
  rw [hc1, cond_false] at hF
  refine T.skip_code ?_
  refine T.seq ?_
  refine T.seq ?_
  refine T.region ?_
  refine T.pure (.string p3) (by kernel_rfl) (fun _ => by kernel_rfl) ?_
  obtain ⟨r2, hb2, hF⟩ := Option.bind_eq_some_iff.1 hF
  refine T.step (W1.call (vSc eBool) r2 21 #[.string p3] (by kernel_rfl) (fun _ => by kernel_rfl) (fun w' hh => dir_Name_l F p3 r2 hb2 w' ) ?_)
  intro u V2 hV2 hu
  obtain rfl := sureBool _ _ _ hu
  refine T.pure (.bool (!r2)) (by kernel_rfl) (fun _ => by kernel_rfl) ?_
  refine T.nil ?_
  refine T.cond (!r2) (by kernel_rfl) (by kernel_rfl) (fun hc2 => ?_) (fun hc2 => ?_)
  ·
   rw [hc2, cond_true] at hF
   refine T.seq ?_
   refine T.region ?_
   refine T.pure (.slice none 0 0) (by kernel_rfl) (fun _ => by kernel_rfl) ?_
   refine T.pure (.int .i64 3) (by kernel_rfl) (fun _ => by kernel_rfl) ?_
   refine T.nil ?_
   cases hF
   refine T.ret rfl ?_
   exact T.ret2 rfl (ResIs.tmp rfl) (ResIs.tmp rfl) fun w' hh => ⟨_, rfl, hh.below, (vT2.mk ⟨_, _, rfl, (SlOk.nil _ _)⟩ (show _ from rfl))⟩
  ·
   rw [hc2, cond_false] at hF
   refine T.skip_code ?_
   refine T.seq ?_
   refine T.cut (fun a w' => Fr 76 [(0, .slice A1 p0.length c1), (1, .int .i64 p1), (2, .int .i64 p2), (3, .string p3), (4, .int .i64 p4), (5, .int .i64 p5), (37, .bool ((decide (p4 < 0)) || (decide ((1048576 : Int) < p4))))] a ∧ Hp w V2 [] w') ?_ ?_
   ·
    refine T.region ?_
    refine T.pure (.int .i64 p4) (by kernel_rfl) (fun _ => by kernel_rfl) ?_
    refine T.pure (.bool (decide (p4 < 0))) (by kernel_rfl) (fun _ => by kernel_rfl) ?_
    refine T.pure (.bool (decide (p4 < 0))) (by kernel_rfl) (fun _ => by kernel_rfl) ?_
    cases hg1 : decide (p4 < 0)
    ·
     skip
     refine T.pure (.int .i64 p4) (by kernel_rfl) (fun _ => by kernel_rfl) ?_
     refine T.pure (.bool (decide ((1048576 : Int) < p4))) (by kernel_rfl) (fun _ => by kernel_rfl) ?_
     refine T.pure (.bool (decide ((1048576 : Int) < p4))) (by kernel_rfl) (fun _ => by kernel_rfl) ?_
     refine T.nil ?_
     exact fun a w' hf hh => And.intro ((((((((Fr.nil hf).pick hf 37 rfl).pick hf 5 rfl).pick hf 4 rfl).pick hf 3 rfl).pick hf 2 rfl).pick hf 1 rfl).pick hf 0 rfl) (hh.sub List.Sublist.slnil)
    ·
     skip
     refine T.pass (by kernel_rfl) (by kernel_rfl) ?_
     refine T.pass (by kernel_rfl) (by kernel_rfl) ?_
     refine T.pure (.bool true) (by kernel_rfl) (fun _ => by kernel_rfl) ?_
     refine T.nil ?_
     exact fun a w' hf hh => And.intro ((((((((Fr.nil hf).pick hf 37 rfl).pick hf 5 rfl).pick hf 4 rfl).pick hf 3 rfl).pick hf 2 rfl).pick hf 1 rfl).pick hf 0 rfl) (hh.sub List.Sublist.slnil)
   ·
    rintro a w' ⟨hf, hh⟩
    refine (?_ : T 76 w V2 [] [(0, .slice A1 p0.length c1), (1, .int .i64 p1), (2, .int .i64 p2), (3, .string p3), (4, .int .i64 p4), (5, .int .i64 p5), (37, .bool ((decide (p4 < 0)) || (decide ((1048576 : Int) < p4))))] _) a w' hf hh
    clear hf hh
    refine T.cond ((decide (p4 < 0)) || (decide ((1048576 : Int) < p4))) (by kernel_rfl) (by kernel_rfl) (fun hc3 => ?_) (fun hc3 => ?_)
    ·
     rw [hc3, cond_true] at hF
     refine T.seq ?_
     refine T.region ?_
     refine T.pure (.slice none 0 0) (by kernel_rfl) (fun _ => by kernel_rfl) ?_
     refine T.pure (.int .i64 1) (by kernel_rfl) (fun _ => by kernel_rfl) ?_
     refine T.nil ?_
     cases hF
     refine T.ret rfl ?_
     exact T.ret2 rfl (ResIs.tmp rfl) (ResIs.tmp rfl) fun w' hh => ⟨_, rfl, hh.below, (vT2.mk ⟨_, _, rfl, (SlOk.nil _ _)⟩ (show _ from rfl))⟩
    ·
     rw [hc3, cond_false] at hF
     refine T.skip_code ?_
     refine T.seq ?_
     refine T.seq ?_
     refine T.region ?_
     refine T.pure (.slice A1 p0.length c1) (by kernel_rfl) (fun _ => by kernel_rfl) ?_
     refine T.pure (.int .i64 p1) (by kernel_rfl) (fun _ => by kernel_rfl) ?_
     refine T.pure (.int .i64 p2) (by kernel_rfl) (fun _ => by kernel_rfl) ?_
     refine T.pure (.string p3) (by kernel_rfl) (fun _ => by kernel_rfl) ?_
     obtain ⟨r3, hb3, hF⟩ := Option.bind_eq_some_iff.1 hF
     refine T.step (W1.call (vT3 (vAg eElem) (vSc eInt) (vSc eBool)) r3 26 #[.slice A1 p0.length c1, .int .i64 p1, .int .i64 p2, .string p3, .int .i64 2147483647] (by kernel_rfl) (fun _ => by kernel_rfl) (fun w' hh => dir_find_l F p0 p1 p2 p3 2147483647 r3 hb3 w' (Glob.mono hGl (View.le_trans hh.base hh.view)) A1 c1 (SlOk.mono (SlOk.mono hs1 (View.le_trans hV1 hV2)) hh.view)) ?_)
     intro u V3 hV3 hu
     obtain rfl := (Sure.t3 sureElem sureInt sureBool) _ _ _ hu
     refine T.pure (.tuple #[.agg #[.int .i64 r3.1.key.pfs, .int .i64 r3.1.key.obj, .int .i64 r3.1.key.off, .int .i64 r3.1.made, .int .i64 r3.1.gone, .string r3.1.val], .int .i64 r3.2.1, .bool r3.2.2]) (by kernel_rfl) (fun _ => by kernel_rfl) ?_
     refine T.pure (.agg #[.int .i64 r3.1.key.pfs, .int .i64 r3.1.key.obj, .int .i64 r3.1.key.off, .int .i64 r3.1.made, .int .i64 r3.1.gone, .string r3.1.val]) (by kernel_rfl) (fun _ => by kernel_rfl) ?_
     refine T.pure (.int .i64 r3.2.1) (by kernel_rfl) (fun _ => by kernel_rfl) ?_
     refine T.pure (.bool r3.2.2) (by kernel_rfl) (fun _ => by kernel_rfl) ?_
     refine T.step (W1.new 36 [.int .i64 0, .int .i64 0, .int .i64 0, .int .i64 0, .int .i64 0, .string (ByteArray.mk #[])] (fun b => .pointer (some ⟨b, 0, none⟩)) (by kernel_rfl) (fun _ => by kernel_rfl) (fun b1 => ?_))
     refine T.step (W1.store 0 [.int .i64 r3.1.key.pfs, .int .i64 r3.1.key.obj, .int .i64 r3.1.key.off, .int .i64 r3.1.made, .int .i64 r3.1.gone, .string r3.1.val] [box b1 36 [.int .i64 r3.1.key.pfs, .int .i64 r3.1.key.obj, .int .i64 r3.1.key.off, .int .i64 r3.1.made, .int .i64 r3.1.gone, .string r3.1.val]] (by rfl) rfl (by kernel_rfl) (fun w' hw => exec_store (vs := [.int .i64 r3.1.key.pfs, .int .i64 r3.1.key.obj, .int .i64 r3.1.key.off, .int .i64 r3.1.made, .int .i64 r3.1.gone, .string r3.1.val]) rfl rfl rfl rfl (by kernel_rfl) (one_of rfl) (by simp) rfl hw) ?_)
     refine T.pure (.int .i64 r3.2.1) (by kernel_rfl) (fun _ => by kernel_rfl) ?_
     refine T.pure (.bool r3.2.2) (by kernel_rfl) (fun _ => by kernel_rfl) ?_
     refine T.nil ?_
     refine T.seq ?_
     refine T.region ?_
     refine T.pure (.bool r3.2.2) (by kernel_rfl) (fun _ => by kernel_rfl) ?_
     refine T.nil ?_
     refine T.cond r3.2.2 (by kernel_rfl) (by kernel_rfl) (fun hc4 => ?_) (fun hc4 => ?_)
     ·
      rw [hc4, cond_true] at hF
      refine T.seq ?_
      refine T.region ?_
      refine T.pure (.slice none 0 0) (by kernel_rfl) (fun _ => by kernel_rfl) ?_
      refine T.pure (.int .i64 5) (by kernel_rfl) (fun _ => by kernel_rfl) ?_
      refine T.nil ?_
      cases hF
      refine T.ret rfl ?_
      exact T.ret2 rfl (ResIs.tmp rfl) (ResIs.tmp rfl) fun w' hh => ⟨_, rfl, hh.below, (vT2.mk ⟨_, _, rfl, (SlOk.nil _ _)⟩ (show _ from rfl))⟩
     ·
      rw [hc4, cond_false] at hF
      refine T.skip_code ?_
      refine T.seq ?_
      refine T.seq ?_
      refine T.region ?_
      refine T.pure (.int .i64 0) (by kernel_rfl) (fun _ => by kernel_rfl) ?_
      refine T.nil ?_
      obtain ⟨q1, hz1, hF⟩ := Option.bind_eq_some_iff.1 hF
      refine T.mid (fun a w' => q1 = Sum.inl () ∧ ∃ (V5 : View), View.le V3 V5 ∧ Fr 76 [] a ∧ Hp w V5 [] w') ?_ ?_
      ·
       refine T.block ?_
       refine T.iter (fun x1 a w' => ∃ (V4 : View), View.le V3 V4 ∧ Fr 76 [(0, .slice A1 p0.length c1), (1, .int .i64 p1), (2, .int .i64 p2), (3, .string p3), (4, .int .i64 p4), (5, .int .i64 p5), (48, .int .i64 x1)] a ∧ Hp w V4 [] w') hz1 ?_ ?_
       ·
        exact fun a w' hf hh => Exists.intro V3 (And.intro (View.le_refl _) (And.intro ((((((((Fr.nil hf).pick hf 48 rfl).pick hf 5 rfl).pick hf 4 rfl).pick hf 3 rfl).pick hf 2 rfl).pick hf 1 rfl).pick hf 0 rfl) (hh.sub (.cons _ List.Sublist.slnil))))
       ·
        rintro x1 y1 hY1 hr1 a w' ⟨V4, hV4, hf, hh⟩
        refine (?_ : T 76 w V4 [] [(0, .slice A1 p0.length c1), (1, .int .i64 p1), (2, .int .i64 p2), (3, .string p3), (4, .int .i64 p4), (5, .int .i64 p5), (48, .int .i64 x1)] _) a w' hf hh
        clear hf hh
        try dsimp only at hY1
        refine T.seq ?_
        refine T.region ?_
        refine T.pure (.bool (decide (x1 < 8))) (by kernel_rfl) (fun _ => by kernel_rfl) ?_
        refine T.nil ?_
        refine T.seq ?_
        refine T.cond (decide (x1 < 8)) (by kernel_rfl) (by kernel_rfl) (fun hc5 => ?_) (fun hc5 => ?_)
        ·
         rw [hc5, cond_true] at hY1
         refine T.skip_code ?_
         refine T.seq ?_
         refine T.block ?_
         refine T.seq ?_
         refine T.region ?_
         refine T.pure (.int .i64 x1) (by kernel_rfl) (fun _ => by kernel_rfl) ?_
         refine T.pure (.int .i64 x1) (by kernel_rfl) (fun _ => by kernel_rfl) ?_
         refine T.nil ?_
         refine T.seq ?_
         refine T.region ?_
         refine T.pure (.int .i64 p1) (by kernel_rfl) (fun _ => by kernel_rfl) ?_
         refine T.pure (.int .i64 p2) (by kernel_rfl) (fun _ => by kernel_rfl) ?_
         refine T.pure (.string p3) (by kernel_rfl) (fun _ => by kernel_rfl) ?_
         refine T.pure (.int .i64 x1) (by kernel_rfl) (fun _ => by kernel_rfl) ?_
         obtain ⟨r4, hb4, hY1⟩ := Option.bind_eq_some_iff.1 hY1
         refine T.step (W1.call (vAg eKey) r4 27 #[.int .i64 p1, .int .i64 p2, .string p3, .int .i64 x1] (by kernel_rfl) (fun _ => by kernel_rfl) (fun w' hh => dir_slot_l F p1 p2 p3 x1 r4 hb4 w' ) ?_)
         intro u V6 hV6 hu
         obtain rfl := sureKey _ _ _ hu
         refine T.step (W1.new 34 [.int .i64 0, .int .i64 0, .int .i64 0] (fun b => .pointer (some ⟨b, 0, none⟩)) (by kernel_rfl) (fun _ => by kernel_rfl) (fun b2 => ?_))
         refine T.step (W1.store 0 [.int .i64 r4.pfs, .int .i64 r4.obj, .int .i64 r4.off] [box b2 34 [.int .i64 r4.pfs, .int .i64 r4.obj, .int .i64 r4.off]] (by rfl) rfl (by kernel_rfl) (fun w' hw => exec_store (vs := [.int .i64 r4.pfs, .int .i64 r4.obj, .int .i64 r4.off]) rfl rfl rfl rfl (by kernel_rfl) (one_of rfl) (by simp) rfl hw) ?_)
         refine T.nil ?_
         refine T.seq ?_
         refine T.region ?_
         refine T.pure (.slice A1 p0.length c1) (by kernel_rfl) (fun _ => by kernel_rfl) ?_
         refine T.look (.agg #[.int .i64 r4.pfs, .int .i64 r4.obj, .int .i64 r4.off]) (by kernel_rfl) (fun w' hh => exec_loadN (cs := [.int .i64 r4.pfs, .int .i64 r4.obj, .int .i64 r4.off]) rfl rfl (by kernel_rfl) (by kernel_rfl) (fun j u hj => (hh.box_at (i := 0) (cs := [.int .i64 r4.pfs, .int .i64 r4.obj, .int .i64 r4.off]) (by rfl) 0 j).trans (seg_at (n := 3) (by rfl) hj))) ?_
         obtain ⟨r5, hb5, hY1⟩ := Option.bind_eq_some_iff.1 hY1
         refine T.step (W1.call (vT2 (vAg eElem) (vSc eInt)) r5 28 #[.slice A1 p0.length c1, .agg #[.int .i64 r4.pfs, .int .i64 r4.obj, .int .i64 r4.off], .int .i64 2147483647] (by kernel_rfl) (fun _ => by kernel_rfl) (fun w' hh => run_At_l F p0 r4 2147483647 r5 hb5 w' A1 c1 (SlOk.mono (SlOk.mono hs1 (View.le_trans (View.le_trans (View.le_trans (View.le_trans hV1 hV2) hV3) hV4) hV6)) hh.view)) ?_)
         intro u V7 hV7 hu
         obtain rfl := (Sure.t2 sureElem sureInt) _ _ _ hu
         refine T.pure (.tuple #[.agg #[.int .i64 r5.1.key.pfs, .int .i64 r5.1.key.obj, .int .i64 r5.1.key.off, .int .i64 r5.1.made, .int .i64 r5.1.gone, .string r5.1.val], .int .i64 r5.2]) (by kernel_rfl) (fun _ => by kernel_rfl) ?_
         refine T.pure (.agg #[.int .i64 r5.1.key.pfs, .int .i64 r5.1.key.obj, .int .i64 r5.1.key.off, .int .i64 r5.1.made, .int .i64 r5.1.gone, .string r5.1.val]) (by kernel_rfl) (fun _ => by kernel_rfl) ?_
         refine T.pure (.int .i64 r5.2) (by kernel_rfl) (fun _ => by kernel_rfl) ?_
         refine T.step (W1.new 36 [.int .i64 0, .int .i64 0, .int .i64 0, .int .i64 0, .int .i64 0, .string (ByteArray.mk #[])] (fun b => .pointer (some ⟨b, 0, none⟩)) (by kernel_rfl) (fun _ => by kernel_rfl) (fun b3 => ?_))
         refine T.step (W1.store 0 [.int .i64 r5.1.key.pfs, .int .i64 r5.1.key.obj, .int .i64 r5.1.key.off, .int .i64 r5.1.made, .int .i64 r5.1.gone, .string r5.1.val] [box b3 36 [.int .i64 r5.1.key.pfs, .int .i64 r5.1.key.obj, .int .i64 r5.1.key.off, .int .i64 r5.1.made, .int .i64 r5.1.gone, .string r5.1.val], box b2 34 [.int .i64 r4.pfs, .int .i64 r4.obj, .int .i64 r4.off]] (by rfl) rfl (by kernel_rfl) (fun w' hw => exec_store (vs := [.int .i64 r5.1.key.pfs, .int .i64 r5.1.key.obj, .int .i64 r5.1.key.off, .int .i64 r5.1.made, .int .i64 r5.1.gone, .string r5.1.val]) rfl rfl rfl rfl (by kernel_rfl) (one_of rfl) (by simp) rfl hw) ?_)
         refine T.pure (.int .i64 r5.2) (by kernel_rfl) (fun _ => by kernel_rfl) ?_
         refine T.nil ?_
         refine T.seq ?_
         refine T.region ?_
         refine T.pure (.int .i64 r5.2) (by kernel_rfl) (fun _ => by kernel_rfl) ?_
         refine T.pure (.bool (r5.2 == 4)) (by kernel_rfl) (fun _ => by kernel_rfl) ?_
         refine T.nil ?_
         refine T.cond (r5.2 == 4) (by kernel_rfl) (by kernel_rfl) (fun hc6 => ?_) (fun hc6 => ?_)
         ·
          rw [hc6, cond_true] at hY1
          refine T.seq ?_
          refine T.held [box b3 36 [.int .i64 r5.1.key.pfs, .int .i64 r5.1.key.obj, .int .i64 r5.1.key.off, .int .i64 r5.1.made, .int .i64 r5.1.gone, .string r5.1.val], box b2 34 [.int .i64 r4.pfs, .int .i64 r4.obj, .int .i64 r4.off]] (by kernel_rfl) ?_
          refine TA.take 0 (.slice A1 p0.length c1) rfl (by kernel_rfl) (by kernel_rfl) (by kernel_rfl) (fun _ _ _ h => h) (Hp.old (View.le_refl _) (View.le_trans (View.le_trans (View.le_trans (View.le_trans (View.le_trans hV1 hV2) hV3) hV4) hV6) hV7) (.cons_cons _ (.cons_cons _ List.Sublist.slnil)) (OldAll.box (OldAll.box OldAll.nil))) (by kernel_rfl) (fun _ _ => by kernel_rfl) ?_
          refine TA.take 1 (.agg #[.int .i64 r4.pfs, .int .i64 r4.obj, .int .i64 r4.off]) rfl (by kernel_rfl) (by kernel_rfl) (by kernel_rfl) (fun _ _ _ h => h) (Hp.old (View.le_refl _) (View.le_trans (View.le_trans (View.le_trans (View.le_trans (View.le_trans hV1 hV2) hV3) hV4) hV6) hV7) (.cons_cons _ (.cons_cons _ List.Sublist.slnil)) (OldAll.box (OldAll.box OldAll.nil))) (by kernel_rfl) (fun w' hh => exec_loadN (cs := [.int .i64 r4.pfs, .int .i64 r4.obj, .int .i64 r4.off]) rfl rfl (by kernel_rfl) (by kernel_rfl) (fun j u hj => (hh.box_at (i := 1) (cs := [.int .i64 r4.pfs, .int .i64 r4.obj, .int .i64 r4.off]) (by rfl) 0 j).trans (seg_at (n := 3) (by rfl) hj))) ?_
          refine TA.take 2 (.int .i64 p4) rfl (by kernel_rfl) (by kernel_rfl) (by kernel_rfl) (fun _ _ _ h => h) (Hp.old (View.le_refl _) (View.le_trans (View.le_trans (View.le_trans (View.le_trans (View.le_trans hV1 hV2) hV3) hV4) hV6) hV7) (.cons_cons _ (.cons_cons _ List.Sublist.slnil)) (OldAll.box (OldAll.box OldAll.nil))) (by kernel_rfl) (fun _ _ => by kernel_rfl) ?_
          refine TA.take 5 (.string p3) rfl (by kernel_rfl) (by kernel_rfl) (by kernel_rfl) (fun _ _ _ h => h) (Hp.old (View.le_refl _) (View.le_trans (View.le_trans (View.le_trans (View.le_trans (View.le_trans hV1 hV2) hV3) hV4) hV6) hV7) (.cons_cons _ (.cons_cons _ List.Sublist.slnil)) (OldAll.box (OldAll.box OldAll.nil))) (by kernel_rfl) (fun _ _ => by kernel_rfl) ?_
          refine TA.take 7 (.int .i64 p5) rfl (by kernel_rfl) (by kernel_rfl) (by kernel_rfl) (fun _ _ _ h => h) (Hp.old (View.le_refl _) (View.le_trans (View.le_trans (View.le_trans (View.le_trans (View.le_trans hV1 hV2) hV3) hV4) hV6) hV7) (.cons_cons _ (.cons_cons _ List.Sublist.slnil)) (OldAll.box (OldAll.box OldAll.nil))) (by kernel_rfl) (fun _ _ => by kernel_rfl) ?_
          refine TA.all [3] (by kernel_rfl) rfl ⟨?_, trivial⟩
          obtain ⟨r6, hb6, hY1⟩ := Option.bind_eq_some_iff.1 hY1
          refine TA.br rfl (W1.call (vSc eStr) r6 30 #[.int .i64 p4] (by kernel_rfl) (fun _ => by kernel_rfl) (fun w' hh => strconv_Itoa_l p4 r6 hb6 w' (Glob.mono hGl (View.le_trans hh.base hh.view))) ?_)
          intro u V8 hV8 hu
          obtain rfl := sureStr _ _ _ hu
          refine TA.on (Hp.old hV8 (View.le_trans (View.le_trans (View.le_trans (View.le_trans (View.le_trans hV1 hV2) hV3) hV4) hV6) hV7) (.cons_cons _ (.cons_cons _ List.Sublist.slnil)) (OldAll.box (OldAll.box OldAll.nil))) ?_
          obtain ⟨s1, hb7, hY1⟩ := Option.bind_eq_some_iff.1 hY1
          refine TA.take 4 (.string s1) rfl (by kernel_rfl) (by kernel_rfl) (by kernel_rfl) (fun _ _ _ h => h) (Hp.old hV8 (View.le_trans (View.le_trans (View.le_trans (View.le_trans (View.le_trans hV1 hV2) hV3) hV4) hV6) hV7) (.cons_cons _ (.cons_cons _ List.Sublist.slnil)) (OldAll.box (OldAll.box OldAll.nil))) (by kernel_rfl) (fun w' hh => exec_scat rfl rfl rfl hb7) ?_
          obtain ⟨s2, hb8, hY1⟩ := Option.bind_eq_some_iff.1 hY1
          refine TA.take 6 (.string s2) rfl (by kernel_rfl) (by kernel_rfl) (by kernel_rfl) (fun _ _ _ h => h) (Hp.old hV8 (View.le_trans (View.le_trans (View.le_trans (View.le_trans (View.le_trans hV1 hV2) hV3) hV4) hV6) hV7) (.cons_cons _ (.cons_cons _ List.Sublist.slnil)) (OldAll.box (OldAll.box OldAll.nil))) (by kernel_rfl) (fun w' hh => exec_scat rfl rfl rfl hb8) ?_
          refine TA.all [8] (by kernel_rfl) rfl ⟨?_, trivial⟩
          obtain ⟨r7, hb9, hY1⟩ := Option.bind_eq_some_iff.1 hY1
          refine TA.br rfl (W1.call (vT2 (vSc (eList eElem)) (vSc eInt)) r7 29 #[.slice A1 p0.length c1, .agg #[.int .i64 r4.pfs, .int .i64 r4.obj, .int .i64 r4.off], .string s2, .int .i64 p5] (by kernel_rfl) (fun _ => by kernel_rfl) (fun w' hh => run_Put_l F p0 r4 s2 p5 r7 hb9 w' A1 c1 (SlOk.mono (SlOk.mono hs1 (View.le_trans (View.le_trans (View.le_trans (View.le_trans (View.le_trans (View.le_trans hV1 hV2) hV3) hV4) hV6) hV7) hV8)) hh.view)) ?_)
          intro u V9 hV9 hu
          obtain ⟨u1, u2, rfl, hu1, hu2⟩ := vT2_elim hu
          obtain ⟨A2, c2, rfl, hs2⟩ := vlist_elim hu1
          obtain rfl := sureInt _ _ _ hu2
          refine TA.on (Hp.old (View.le_trans hV8 hV9) (View.le_trans (View.le_trans (View.le_trans (View.le_trans (View.le_trans hV1 hV2) hV3) hV4) hV6) hV7) (.cons_cons _ (.cons_cons _ List.Sublist.slnil)) (OldAll.box (OldAll.box OldAll.nil))) ?_
          refine TA.take 9 (.slice A2 r7.1.length c2) rfl (by kernel_rfl) (by kernel_rfl) (by kernel_rfl) (fun _ _ _ h => h) (Hp.old (View.le_trans hV8 hV9) (View.le_trans (View.le_trans (View.le_trans (View.le_trans (View.le_trans hV1 hV2) hV3) hV4) hV6) hV7) (.cons_cons _ (.cons_cons _ List.Sublist.slnil)) (OldAll.box (OldAll.box OldAll.nil))) (by kernel_rfl) (fun _ _ => by kernel_rfl) ?_
          refine TA.take 10 (.int .i64 r7.2) rfl (by kernel_rfl) (by kernel_rfl) (by kernel_rfl) (fun _ _ _ h => h) (Hp.old (View.le_trans hV8 hV9) (View.le_trans (View.le_trans (View.le_trans (View.le_trans (View.le_trans hV1 hV2) hV3) hV4) hV6) hV7) (.cons_cons _ (.cons_cons _ List.Sublist.slnil)) (OldAll.box (OldAll.box OldAll.nil))) (by kernel_rfl) (fun _ _ => by kernel_rfl) ?_
          refine TA.take 11 (.slice A2 r7.1.length c2) rfl (by kernel_rfl) (by kernel_rfl) (by kernel_rfl) (fun _ _ _ h => h) (Hp.old (View.le_trans hV8 hV9) (View.le_trans (View.le_trans (View.le_trans (View.le_trans (View.le_trans hV1 hV2) hV3) hV4) hV6) hV7) (.cons_cons _ (.cons_cons _ List.Sublist.slnil)) (OldAll.box (OldAll.box OldAll.nil))) (by kernel_rfl) (fun _ _ => by kernel_rfl) ?_
          refine TA.take 12 (.int .i64 r7.2) rfl (by kernel_rfl) (by kernel_rfl) (by kernel_rfl) (fun _ _ _ h => h) (Hp.old (View.le_trans hV8 hV9) (View.le_trans (View.le_trans (View.le_trans (View.le_trans (View.le_trans hV1 hV2) hV3) hV4) hV6) hV7) (.cons_cons _ (.cons_cons _ List.Sublist.slnil)) (OldAll.box (OldAll.box OldAll.nil))) (by kernel_rfl) (fun _ _ => by kernel_rfl) ?_
          refine TA.done (by kernel_rfl) ?_
          cases hY1
          cases (hr1 _ rfl)
          try dsimp only at hF
          cases hF
          refine T.ret rfl ?_
          exact T.ret2 rfl (ResIs.tmp rfl) (ResIs.tmp rfl) fun w' hh => ⟨_, rfl, hh.below, (vT2.mk ⟨_, _, rfl, (SlOk.mono hs2 (View.le_trans (made_mono (View.le_refl _)) (made_fresh hh)))⟩ (show _ from rfl))⟩
         ·
          rw [hc6, cond_false] at hY1
          refine T.skip_code ?_
          refine T.region ?_
          refine T.pure (.int .i64 (IntKind.i64.wrap (x1 + 1))) (by kernel_rfl) (fun _ => by kernel_rfl) ?_
          refine T.pure (.int .i64 (IntKind.i64.wrap (x1 + 1))) (by kernel_rfl) (fun _ => by kernel_rfl) ?_
          refine T.nil ?_
          cases hY1
          exact fun a w' hf hh => Exists.intro (IntKind.i64.wrap (x1 + 1)) (And.intro rfl (Exists.intro V7 (And.intro (View.le_trans (View.le_trans hV4 hV6) hV7) (And.intro ((((((((Fr.nil hf).pick hf 48 rfl).pick hf 5 rfl).pick hf 4 rfl).pick hf 3 rfl).pick hf 2 rfl).pick hf 1 rfl).pick hf 0 rfl) (hh.sub (.cons _ (.cons _ List.Sublist.slnil)))))))
        ·
         rw [hc5, cond_false] at hY1
         refine T.exit ?_
         cases hY1
         cases (hr1 _ rfl)
         exact fun a w' hf hh => And.intro rfl (Exists.intro V4 (And.intro hV4 (And.intro (Fr.nil hf) (hh.sub List.Sublist.slnil))))
      ·
       rintro a w' ⟨rfl, V5, hV5, hf, hh⟩
       try dsimp only at hF
       refine (?_ : T 76 w V5 [] [] _) a w' hf hh
       clear hf hh
       refine T.seq ?_
       refine T.region ?_
       refine T.pure (.slice none 0 0) (by kernel_rfl) (fun _ => by kernel_rfl) ?_
       refine T.pure (.int .i64 8) (by kernel_rfl) (fun _ => by kernel_rfl) ?_
       refine T.nil ?_
       cases hF
       refine T.ret rfl ?_
       exact T.ret2 rfl (ResIs.tmp rfl) (ResIs.tmp rfl) fun w' hh => ⟨_, rfl, hh.below, (vT2.mk ⟨_, _, rfl, (SlOk.nil _ _)⟩ (show _ from rfl))⟩

set_option maxRecDepth 100000 in
set_option maxHeartbeats 4000000 in
theorem dir_Drop_l (F : Nat) (p0 : (List DElem)) (p1 : Int) (p2 : Int) (p3 : ByteArray) (p4 : Int) (r : ((List DElem)) × Int) (hF : dir_Drop F p0 p1 p2 p3 p4 = some r) (w : World) (hGl : Glob w) (A1 : Option Addr) (c1 : Nat) (hs1 : SlOk (vw w) eElem A1 c1 p0) :
    Calls Tryd.prog 10 #[.slice A1 p0.length c1, .int .i64 p1, .int .i64 p2, .string p3, .int .i64 p4] w (Post (vT2 (vSc (eList eElem)) (vSc eInt)) r w) := by
 unfold dir_Drop at hF
 refine T.start (l := [.slice A1 p0.length c1, .int .i64 p1, .int .i64 p2, .string p3, .int .i64 p4]) Tryd.func10 rfl rfl rfl ?_
 refine T.seq ?_
 refine T.region ?_
 refine T.pure (.slice none 0 0) (by kernel_rfl) (fun _ => by kernel_rfl) ?_
 refine T.pure (.int .i64 0) (by kernel_rfl) (fun _ => by kernel_rfl) ?_
 refine T.nil ?_
 refine T.seq ?_
 refine T.seq ?_
 refine T.region ?_
 refine T.pure (.slice A1 p0.length c1) (by kernel_rfl) (fun _ => by kernel_rfl) ?_
 refine T.pure (.int .i64 p1) (by kernel_rfl) (fun _ => by kernel_rfl) ?_
 refine T.pure (.int .i64 p2) (by kernel_rfl) (fun _ => by kernel_rfl) ?_
 obtain ⟨r1, hb1, hF⟩ := Option.bind_eq_some_iff.1 hF
 refine T.step (W1.call (vSc eInt) r1 25 #[.slice A1 p0.length c1, .int .i64 p1, .int .i64 p2] (by kernel_rfl) (fun _ => by kernel_rfl) (fun w' hh => dir_look_l F p0 p1 p2 r1 hb1 w' A1 c1 (SlOk.mono hs1 hh.view)) ?_)
 intro u V1 hV1 hu
 obtain rfl := sureInt _ _ _ hu
 refine T.pure (.int .i64 r1) (by kernel_rfl) (fun _ => by kernel_rfl) ?_
 refine T.nil ?_
 refine T.seq ?_
 refine T.region ?_
 refine T.pure (.int .i64 r1) (by kernel_rfl) (fun _ => by kernel_rfl) ?_
 refine T.pure (.bool (r1 != 0)) (by kernel_rfl) (fun _ => by kernel_rfl) ?_
 refine T.nil ?_
 refine T.cond (r1 != 0) (by kernel_rfl) (by kernel_rfl) (fun hc1 => ?_) (fun hc1 => ?_)
 ·
  rw [hc1, cond_true] at hF
  refine T.seq ?_
  refine T.region ?_
  refine T.pure (.int .i64 r1) (by kernel_rfl) (fun _ => by kernel_rfl) ?_
  refine T.pure (.slice none 0 0) (by kernel_rfl) (fun _ => by kernel_rfl) ?_
  refine T.pure (.int .i64 r1) (by kernel_rfl) (fun _ => by kernel_rfl) ?_
  refine T.nil ?_
  cases hF
  refine T.ret rfl ?_
  exact T.ret2 rfl (ResIs.tmp rfl) (ResIs.tmp rfl) fun w' hh => ⟨_, rfl, hh.below, (vT2.mk ⟨_, _, rfl, (SlOk.nil _ _)⟩ (show _ from rfl))⟩
 ·
  rw [hc1, cond_false] at hF
  refine T.skip_code ?_
  refine T.seq ?_
  refine T.seq ?_
  refine T.region ?_
  refine T.pure (.string p3) (by kernel_rfl) (fun _ => by kernel_rfl) ?_
  obtain ⟨r2, hb2, hF⟩ := Option.bind_eq_some_iff.1 hF
  refine T.step (W1.call (vSc eBool) r2 21 #[.string p3] (by kernel_rfl) (fun _ => by kernel_rfl) (fun w' hh => dir_Name_l F p3 r2 hb2 w' ) ?_)
  intro u V2 hV2 hu
  obtain rfl := sureBool _ _ _ hu
  refine T.pure (.bool (!r2)) (by kernel_rfl) (fun _ => by kernel_rfl) ?_
  refine T.nil ?_
  refine T.cond (!r2) (by kernel_rfl) (by kernel_rfl) (fun hc2 => ?_) (fun hc2 => ?_)
  ·
   rw [hc2, cond_true] at hF
   refine T.seq ?_
   refine T.region ?_
   refine T.pure (.slice none 0 0) (by kernel_rfl) (fun _ => by kernel_rfl) ?_
   refine T.pure (.int .i64 3) (by kernel_rfl) (fun _ => by kernel_rfl) ?_
   refine T.nil ?_
   cases hF
   refine T.ret rfl ?_
   exact T.ret2 rfl (ResIs.tmp rfl) (ResIs.tmp rfl) fun w' hh => ⟨_, rfl, hh.below, (vT2.mk ⟨_, _, rfl, (SlOk.nil _ _)⟩ (show _ from rfl))⟩
  ·
   rw [hc2, cond_false] at hF
   refine T.skip_code ?_
   refine T.seq ?_
   refine T.region ?_
   refine T.pure (.slice A1 p0.length c1) (by kernel_rfl) (fun _ => by kernel_rfl) ?_
   refine T.pure (.int .i64 p1) (by kernel_rfl) (fun _ => by kernel_rfl) ?_
   refine T.pure (.int .i64 p2) (by kernel_rfl) (fun _ => by kernel_rfl) ?_
   refine T.pure (.string p3) (by kernel_rfl) (fun _ => by kernel_rfl) ?_
   obtain ⟨r3, hb3, hF⟩ := Option.bind_eq_some_iff.1 hF
   refine T.step (W1.call (vT3 (vAg eElem) (vSc eInt) (vSc eBool)) r3 26 #[.slice A1 p0.length c1, .int .i64 p1, .int .i64 p2, .string p3, .int .i64 2147483647] (by kernel_rfl) (fun _ => by kernel_rfl) (fun w' hh => dir_find_l F p0 p1 p2 p3 2147483647 r3 hb3 w' (Glob.mono hGl (View.le_trans hh.base hh.view)) A1 c1 (SlOk.mono (SlOk.mono hs1 (View.le_trans hV1 hV2)) hh.view)) ?_)
   intro u V3 hV3 hu
   obtain rfl := (Sure.t3 sureElem sureInt sureBool) _ _ _ hu
   refine T.pure (.tuple #[.agg #[.int .i64 r3.1.key.pfs, .int .i64 r3.1.key.obj, .int .i64 r3.1.key.off, .int .i64 r3.1.made, .int .i64 r3.1.gone, .string r3.1.val], .int .i64 r3.2.1, .bool r3.2.2]) (by kernel_rfl) (fun _ => by kernel_rfl) ?_
   refine T.pure (.agg #[.int .i64 r3.1.key.pfs, .int .i64 r3.1.key.obj, .int .i64 r3.1.key.off, .int .i64 r3.1.made, .int .i64 r3.1.gone, .string r3.1.val]) (by kernel_rfl) (fun _ => by kernel_rfl) ?_
   refine T.pure (.int .i64 r3.2.1) (by kernel_rfl) (fun _ => by kernel_rfl) ?_
   refine T.pure (.bool r3.2.2) (by kernel_rfl) (fun _ => by kernel_rfl) ?_
   refine T.step (W1.new 36 [.int .i64 0, .int .i64 0, .int .i64 0, .int .i64 0, .int .i64 0, .string (ByteArray.mk #[])] (fun b => .pointer (some ⟨b, 0, none⟩)) (by kernel_rfl) (fun _ => by kernel_rfl) (fun b1 => ?_))
   refine T.step (W1.store 0 [.int .i64 r3.1.key.pfs, .int .i64 r3.1.key.obj, .int .i64 r3.1.key.off, .int .i64 r3.1.made, .int .i64 r3.1.gone, .string r3.1.val] [box b1 36 [.int .i64 r3.1.key.pfs, .int .i64 r3.1.key.obj, .int .i64 r3.1.key.off, .int .i64 r3.1.made, .int .i64 r3.1.gone, .string r3.1.val]] (by rfl) rfl (by kernel_rfl) (fun w' hw => exec_store (vs := [.int .i64 r3.1.key.pfs, .int .i64 r3.1.key.obj, .int .i64 r3.1.key.off, .int .i64 r3.1.made, .int .i64 r3.1.gone, .string r3.1.val]) rfl rfl rfl rfl (by kernel_rfl) (one_of rfl) (by simp) rfl hw) ?_)
   refine T.pure (.int .i64 r3.2.1) (by kernel_rfl) (fun _ => by kernel_rfl) ?_
   refine T.pure (.bool r3.2.2) (by kernel_rfl) (fun _ => by kernel_rfl) ?_
   refine T.nil ?_
   refine T.seq ?_
   refine T.seq ?_
   refine T.region ?_
   refine T.pure (.bool r3.2.2) (by kernel_rfl) (fun _ => by kernel_rfl) ?_
   refine T.pure (.bool (!r3.2.2)) (by kernel_rfl) (fun _ => by kernel_rfl) ?_
   refine T.nil ?_
   refine T.cond (!r3.2.2) (by kernel_rfl) (by kernel_rfl) (fun hc3 => ?_) (fun hc3 => ?_)
   ·
    rw [hc3, cond_true] at hF
    refine T.seq ?_
    refine T.region ?_
    refine T.pure (.slice none 0 0) (by kernel_rfl) (fun _ => by kernel_rfl) ?_
    refine T.pure (.int .i64 4) (by kernel_rfl) (fun _ => by kernel_rfl) ?_
    refine T.nil ?_
    cases hF
    refine T.ret rfl ?_
    exact T.ret2 rfl (ResIs.tmp rfl) (ResIs.tmp rfl) fun w' hh => ⟨_, rfl, hh.below, (vT2.mk ⟨_, _, rfl, (SlOk.nil _ _)⟩ (show _ from rfl))⟩
   ·
    rw [hc3, cond_false] at hF
    refine T.skip_code ?_
    refine T.seq ?_
    refine T.region ?_
    refine T.pure (.slice A1 p0.length c1) (by kernel_rfl) (fun _ => by kernel_rfl) ?_
    refine T.pure (.pointer (some ⟨b1, 0, none⟩)) (by kernel_rfl) (fun _ => by kernel_rfl) ?_
    refine T.look (.agg #[.int .i64 r3.1.key.pfs, .int .i64 r3.1.key.obj, .int .i64 r3.1.key.off]) (by kernel_rfl) (fun w' hh => exec_loadN (cs := [.int .i64 r3.1.key.pfs, .int .i64 r3.1.key.obj, .int .i64 r3.1.key.off]) rfl rfl (by kernel_rfl) (by kernel_rfl) (fun j u hj => (hh.box_at (i := 0) (cs := [.int .i64 r3.1.key.pfs, .int .i64 r3.1.key.obj, .int .i64 r3.1.key.off, .int .i64 r3.1.made, .int .i64 r3.1.gone, .string r3.1.val]) (by rfl) 0 j).trans (seg_at (n := 3) (by rfl) hj))) ?_
    refine T.pure (.int .i64 p4) (by kernel_rfl) (fun _ => by kernel_rfl) ?_
    obtain ⟨r4, hb4, hF⟩ := Option.bind_eq_some_iff.1 hF
    refine T.step (W1.call (vT2 (vSc (eList eElem)) (vSc eInt)) r4 31 #[.slice A1 p0.length c1, .agg #[.int .i64 r3.1.key.pfs, .int .i64 r3.1.key.obj, .int .i64 r3.1.key.off], .int .i64 p4] (by kernel_rfl) (fun _ => by kernel_rfl) (fun w' hh => run_Cut_l F p0 r3.1.key p4 r4 hb4 w' A1 c1 (SlOk.mono (SlOk.mono hs1 (View.le_trans (View.le_trans hV1 hV2) hV3)) hh.view)) ?_)
    intro u V4 hV4 hu
    obtain ⟨u1, u2, rfl, hu1, hu2⟩ := vT2_elim hu
    obtain ⟨A2, c2, rfl, hs2⟩ := vlist_elim hu1
    obtain rfl := sureInt _ _ _ hu2
    refine T.pure (.slice A2 r4.1.length c2) (by kernel_rfl) (fun _ => by kernel_rfl) ?_
    refine T.pure (.int .i64 r4.2) (by kernel_rfl) (fun _ => by kernel_rfl) ?_
    refine T.pure (.slice A2 r4.1.length c2) (by kernel_rfl) (fun _ => by kernel_rfl) ?_
    refine T.pure (.int .i64 r4.2) (by kernel_rfl) (fun _ => by kernel_rfl) ?_
    refine T.nil ?_
    cases hF
    refine T.ret rfl ?_
    exact T.ret2 rfl (ResIs.tmp rfl) (ResIs.tmp rfl) fun w' hh => ⟨_, rfl, hh.below, (vT2.mk ⟨_, _, rfl, (SlOk.mono hs2 (View.le_trans (made_mono (View.le_refl _)) (made_fresh hh)))⟩ (show _ from rfl))⟩

end Go.Proofs.YtaccejbajgmdnaaDoor
