/- The Go functions of group Snap compute the pure functions of that group: written by walkgen.py. Condition of each: the pure function yields a result. -/
import Derived.Test.YtaodaihoglcinadKeyL
import Derived.Test.YtaodaihoglcinadSnapF
import Derived.Test.YtaodaihoglcinadEqL
namespace Go.Proofs.Ytaodaihoglcinad
set_option linter.unusedVariables false

set_option maxRecDepth 100000 in
set_option maxHeartbeats 4000000 in
theorem dir_Name_l (F : Nat) (p0 : ByteArray) (r : Bool) (hF : dir_Name F p0 = some r) (w : World)  :
    Calls Try.prog 20 #[.string p0] w (Post (vSc eBool) r w) := by
 unfold dir_Name at hF
 refine T.start (l := [.string p0]) Try.func20 rfl rfl rfl ?_
 refine T.seq ?_
 refine T.region ?_
 refine T.pure (.bool false) (by kernel_rfl) (fun _ => by kernel_rfl) ?_
 refine T.nil ?_
 refine T.seq ?_
 refine T.cut (fun a w' => Fr 47 [(0, .string p0), (18, .bool ((seq p0 (ByteArray.mk #[])) || ((decide ((12 : Int) < (p0.size : Int))) || ((seq p0 (ByteArray.mk #[46])) || (seq p0 (ByteArray.mk #[46, 46]))))))] a ∧ Hp w (vw w) [] w') ?_ ?_
 ·
  refine T.region ?_
  refine T.pure (.string p0) (by kernel_rfl) (fun _ => by kernel_rfl) ?_
  refine T.pure (.bool (seq p0 (ByteArray.mk #[]))) (by kernel_rfl) (fun _ => by kernel_rfl) ?_
  refine T.pure (.bool (seq p0 (ByteArray.mk #[]))) (by kernel_rfl) (fun _ => by kernel_rfl) ?_
  cases hg1 : (seq p0 (ByteArray.mk #[]))
  ·
   skip
   refine T.pure (.string p0) (by kernel_rfl) (fun _ => by kernel_rfl) ?_
   refine T.pure (.int .i64 (p0.size : Int)) (by kernel_rfl) (fun _ => by kernel_rfl) ?_
   refine T.pure (.bool (decide ((12 : Int) < (p0.size : Int)))) (by kernel_rfl) (fun _ => by kernel_rfl) ?_
   refine T.pure (.bool (decide ((12 : Int) < (p0.size : Int)))) (by kernel_rfl) (fun _ => by kernel_rfl) ?_
   refine T.pure (.bool (decide ((12 : Int) < (p0.size : Int)))) (by kernel_rfl) (fun _ => by kernel_rfl) ?_
   cases hg2 : decide ((12 : Int) < (p0.size : Int))
   ·
    skip
    refine T.pure (.string p0) (by kernel_rfl) (fun _ => by kernel_rfl) ?_
    refine T.pure (.bool (seq p0 (ByteArray.mk #[46]))) (by kernel_rfl) (fun _ => by kernel_rfl) ?_
    refine T.pure (.bool (seq p0 (ByteArray.mk #[46]))) (by kernel_rfl) (fun _ => by kernel_rfl) ?_
    refine T.pure (.bool (seq p0 (ByteArray.mk #[46]))) (by kernel_rfl) (fun _ => by kernel_rfl) ?_
    cases hg3 : (seq p0 (ByteArray.mk #[46]))
    ·
     skip
     refine T.pure (.string p0) (by kernel_rfl) (fun _ => by kernel_rfl) ?_
     refine T.pure (.bool (seq p0 (ByteArray.mk #[46, 46]))) (by kernel_rfl) (fun _ => by kernel_rfl) ?_
     refine T.pure (.bool (seq p0 (ByteArray.mk #[46, 46]))) (by kernel_rfl) (fun _ => by kernel_rfl) ?_
     refine T.nil ?_
     exact fun a w' hf hh => And.intro (((Fr.nil hf).pick hf 18 rfl).pick hf 0 rfl) (hh.sub List.Sublist.slnil)
    ·
     skip
     refine T.pass (by kernel_rfl) (by kernel_rfl) ?_
     refine T.pass (by kernel_rfl) (by kernel_rfl) ?_
     refine T.pure (.bool true) (by kernel_rfl) (fun _ => by kernel_rfl) ?_
     refine T.nil ?_
     exact fun a w' hf hh => And.intro (((Fr.nil hf).pick hf 18 rfl).pick hf 0 rfl) (hh.sub List.Sublist.slnil)
   ·
    skip
    refine T.pass (by kernel_rfl) (by kernel_rfl) ?_
    refine T.pass (by kernel_rfl) (by kernel_rfl) ?_
    refine T.pure (.bool true) (by kernel_rfl) (fun _ => by kernel_rfl) ?_
    refine T.pure (.bool true) (by kernel_rfl) (fun _ => by kernel_rfl) ?_
    refine T.pass (by kernel_rfl) (by kernel_rfl) ?_
    refine T.pass (by kernel_rfl) (by kernel_rfl) ?_
    refine T.pure (.bool true) (by kernel_rfl) (fun _ => by kernel_rfl) ?_
    refine T.nil ?_
    exact fun a w' hf hh => And.intro (((Fr.nil hf).pick hf 18 rfl).pick hf 0 rfl) (hh.sub List.Sublist.slnil)
  ·
   skip
   refine T.pass (by kernel_rfl) (by kernel_rfl) ?_
   refine T.pass (by kernel_rfl) (by kernel_rfl) ?_
   refine T.pass (by kernel_rfl) (by kernel_rfl) ?_
   refine T.pure (.bool true) (by kernel_rfl) (fun _ => by kernel_rfl) ?_
   refine T.pure (.bool true) (by kernel_rfl) (fun _ => by kernel_rfl) ?_
   refine T.pass (by kernel_rfl) (by kernel_rfl) ?_
   refine T.pass (by kernel_rfl) (by kernel_rfl) ?_
   refine T.pure (.bool true) (by kernel_rfl) (fun _ => by kernel_rfl) ?_
   refine T.pure (.bool true) (by kernel_rfl) (fun _ => by kernel_rfl) ?_
   refine T.pass (by kernel_rfl) (by kernel_rfl) ?_
   refine T.pass (by kernel_rfl) (by kernel_rfl) ?_
   refine T.pure (.bool true) (by kernel_rfl) (fun _ => by kernel_rfl) ?_
   refine T.nil ?_
   exact fun a w' hf hh => And.intro (((Fr.nil hf).pick hf 18 rfl).pick hf 0 rfl) (hh.sub List.Sublist.slnil)
 ·
  rintro a w' ⟨hf, hh⟩
  refine (?_ : T 47 w (vw w) [] [(0, .string p0), (18, .bool ((seq p0 (ByteArray.mk #[])) || ((decide ((12 : Int) < (p0.size : Int))) || ((seq p0 (ByteArray.mk #[46])) || (seq p0 (ByteArray.mk #[46, 46]))))))] _) a w' hf hh
  clear hf hh
  refine T.cond ((seq p0 (ByteArray.mk #[])) || ((decide ((12 : Int) < (p0.size : Int))) || ((seq p0 (ByteArray.mk #[46])) || (seq p0 (ByteArray.mk #[46, 46]))))) (by kernel_rfl) (by kernel_rfl) (fun hc1 => ?_) (fun hc1 => ?_)
  ·
   rw [hc1, cond_true] at hF
   refine T.seq ?_
   refine T.region ?_
   refine T.pure (.bool false) (by kernel_rfl) (fun _ => by kernel_rfl) ?_
   refine T.nil ?_
   cases hF
   refine T.ret rfl ?_
   exact T.ret1 rfl (ResIs.tmp rfl) fun w' hh => ⟨_, rfl, hh.below, (show _ from rfl)⟩
  ·
   rw [hc1, cond_false] at hF
   refine T.skip_code ?_
   refine T.seq ?_
   refine T.seq ?_
   refine T.region ?_
   refine T.pure (.string p0) (by kernel_rfl) (fun _ => by kernel_rfl) ?_
   refine T.pure (.int .i64 (p0.size : Int)) (by kernel_rfl) (fun _ => by kernel_rfl) ?_
   refine T.pure (.int .i64 0) (by kernel_rfl) (fun _ => by kernel_rfl) ?_
   refine T.nil ?_
   obtain ⟨q1, hz1, hF⟩ := Option.bind_eq_some_iff.1 hF
   refine T.mid (fun a w' => q1 = Sum.inl () ∧ Fr 47 [] a ∧ Hp w (vw w) [] w') ?_ ?_
   ·
    refine T.block ?_
    refine T.iter (fun x1 a w' => Fr 47 [(0, .string p0), (20, .int .i64 (p0.size : Int)), (21, .int .i64 x1)] a ∧ Hp w (vw w) [] w') hz1 ?_ ?_
    ·
     exact fun a w' hf hh => And.intro ((((Fr.nil hf).pick hf 21 rfl).pick hf 20 rfl).pick hf 0 rfl) (hh.sub List.Sublist.slnil)
    ·
     rintro x1 y1 hY1 hr1 a w' ⟨hf, hh⟩
     refine (?_ : T 47 w (vw w) [] [(0, .string p0), (20, .int .i64 (p0.size : Int)), (21, .int .i64 x1)] _) a w' hf hh
     clear hf hh
     try dsimp only at hY1
     refine T.seq ?_
     refine T.region ?_
     refine T.pure (.bool (decide (x1 < (p0.size : Int)))) (by kernel_rfl) (fun _ => by kernel_rfl) ?_
     refine T.nil ?_
     refine T.seq ?_
     refine T.cond (decide (x1 < (p0.size : Int))) (by kernel_rfl) (by kernel_rfl) (fun hc2 => ?_) (fun hc2 => ?_)
     ·
      rw [hc2, cond_true] at hY1
      refine T.skip_code ?_
      refine T.seq ?_
      refine T.block ?_
      refine T.seq ?_
      refine T.region ?_
      refine T.pure (.int .i64 x1) (by kernel_rfl) (fun _ => by kernel_rfl) ?_
      refine T.pure (.int .i64 x1) (by kernel_rfl) (fun _ => by kernel_rfl) ?_
      refine T.nil ?_
      obtain ⟨z1, hX1, hY1⟩ := Option.bind_eq_some_iff.1 hY1
      refine T.cut (fun a w' => Fr 47 [(0, .string p0), (20, .int .i64 (p0.size : Int)), (21, .int .i64 x1), (45, .bool z1)] a ∧ Hp w (vw w) [] w') ?_ ?_
      ·
       refine T.region ?_
       refine T.pure (.string p0) (by kernel_rfl) (fun _ => by kernel_rfl) ?_
       refine T.pure (.int .i64 x1) (by kernel_rfl) (fun _ => by kernel_rfl) ?_
       obtain ⟨b1, hb1, hX1⟩ := Option.bind_eq_some_iff.1 hX1
       refine T.look (.int .u8 (b1.toNat : Int)) (by kernel_rfl) (fun w' hh => exec_index_str rfl rfl rfl (by kernel_rfl) hb1) ?_
       refine T.pure (.bool (decide ((b1.toNat : Int) ≤ 32))) (by kernel_rfl) (fun _ => by kernel_rfl) ?_
       refine T.pure (.bool (decide ((b1.toNat : Int) ≤ 32))) (by kernel_rfl) (fun _ => by kernel_rfl) ?_
       cases hg4 : decide ((b1.toNat : Int) ≤ 32)
       ·
        skip
        rw [hg4, cond_false] at hX1
        refine T.pure (.string p0) (by kernel_rfl) (fun _ => by kernel_rfl) ?_
        refine T.pure (.int .i64 x1) (by kernel_rfl) (fun _ => by kernel_rfl) ?_
        obtain ⟨b2, hb2, hX1⟩ := Option.bind_eq_some_iff.1 hX1
        refine T.look (.int .u8 (b2.toNat : Int)) (by kernel_rfl) (fun w' hh => exec_index_str rfl rfl rfl (by kernel_rfl) hb2) ?_
        refine T.pure (.bool (decide ((127 : Int) ≤ (b2.toNat : Int)))) (by kernel_rfl) (fun _ => by kernel_rfl) ?_
        refine T.pure (.bool (decide ((127 : Int) ≤ (b2.toNat : Int)))) (by kernel_rfl) (fun _ => by kernel_rfl) ?_
        refine T.pure (.bool (decide ((127 : Int) ≤ (b2.toNat : Int)))) (by kernel_rfl) (fun _ => by kernel_rfl) ?_
        cases hg5 : decide ((127 : Int) ≤ (b2.toNat : Int))
        ·
         skip
         rw [hg5, cond_false] at hX1
         refine T.pure (.string p0) (by kernel_rfl) (fun _ => by kernel_rfl) ?_
         refine T.pure (.int .i64 x1) (by kernel_rfl) (fun _ => by kernel_rfl) ?_
         obtain ⟨b3, hb3, hX1⟩ := Option.bind_eq_some_iff.1 hX1
         refine T.look (.int .u8 (b3.toNat : Int)) (by kernel_rfl) (fun w' hh => exec_index_str rfl rfl rfl (by kernel_rfl) hb3) ?_
         refine T.pure (.bool ((b3.toNat : Int) == 47)) (by kernel_rfl) (fun _ => by kernel_rfl) ?_
         refine T.pure (.bool ((b3.toNat : Int) == 47)) (by kernel_rfl) (fun _ => by kernel_rfl) ?_
         refine T.pure (.bool ((b3.toNat : Int) == 47)) (by kernel_rfl) (fun _ => by kernel_rfl) ?_
         cases hg6 : ((b3.toNat : Int) == 47)
         ·
          skip
          rw [hg6, cond_false] at hX1
          refine T.pure (.string p0) (by kernel_rfl) (fun _ => by kernel_rfl) ?_
          refine T.pure (.int .i64 x1) (by kernel_rfl) (fun _ => by kernel_rfl) ?_
          obtain ⟨b4, hb4, hX1⟩ := Option.bind_eq_some_iff.1 hX1
          refine T.look (.int .u8 (b4.toNat : Int)) (by kernel_rfl) (fun w' hh => exec_index_str rfl rfl rfl (by kernel_rfl) hb4) ?_
          refine T.pure (.bool ((b4.toNat : Int) == 64)) (by kernel_rfl) (fun _ => by kernel_rfl) ?_
          refine T.pure (.bool ((b4.toNat : Int) == 64)) (by kernel_rfl) (fun _ => by kernel_rfl) ?_
          refine T.nil ?_
          cases hX1
          exact fun a w' hf hh => And.intro (((((Fr.nil hf).pick hf 45 rfl).pick hf 21 rfl).pick hf 20 rfl).pick hf 0 rfl) (hh.sub List.Sublist.slnil)
         ·
          skip
          rw [hg6, cond_true] at hX1
          refine T.pass (by kernel_rfl) (by kernel_rfl) ?_
          refine T.pass (by kernel_rfl) (by kernel_rfl) ?_
          refine T.pass (by kernel_rfl) (by kernel_rfl) ?_
          refine T.pass (by kernel_rfl) (by kernel_rfl) ?_
          refine T.pure (.bool true) (by kernel_rfl) (fun _ => by kernel_rfl) ?_
          refine T.nil ?_
          cases hX1
          exact fun a w' hf hh => And.intro (((((Fr.nil hf).pick hf 45 rfl).pick hf 21 rfl).pick hf 20 rfl).pick hf 0 rfl) (hh.sub List.Sublist.slnil)
        ·
         skip
         rw [hg5, cond_true] at hX1
         refine T.pass (by kernel_rfl) (by kernel_rfl) ?_
         refine T.pass (by kernel_rfl) (by kernel_rfl) ?_
         refine T.pass (by kernel_rfl) (by kernel_rfl) ?_
         refine T.pass (by kernel_rfl) (by kernel_rfl) ?_
         refine T.pure (.bool true) (by kernel_rfl) (fun _ => by kernel_rfl) ?_
         refine T.pure (.bool true) (by kernel_rfl) (fun _ => by kernel_rfl) ?_
         refine T.pass (by kernel_rfl) (by kernel_rfl) ?_
         refine T.pass (by kernel_rfl) (by kernel_rfl) ?_
         refine T.pass (by kernel_rfl) (by kernel_rfl) ?_
         refine T.pass (by kernel_rfl) (by kernel_rfl) ?_
         refine T.pure (.bool true) (by kernel_rfl) (fun _ => by kernel_rfl) ?_
         refine T.nil ?_
         cases hX1
         exact fun a w' hf hh => And.intro (((((Fr.nil hf).pick hf 45 rfl).pick hf 21 rfl).pick hf 20 rfl).pick hf 0 rfl) (hh.sub List.Sublist.slnil)
       ·
        skip
        rw [hg4, cond_true] at hX1
        refine T.pass (by kernel_rfl) (by kernel_rfl) ?_
        refine T.pass (by kernel_rfl) (by kernel_rfl) ?_
        refine T.pass (by kernel_rfl) (by kernel_rfl) ?_
        refine T.pass (by kernel_rfl) (by kernel_rfl) ?_
        refine T.pure (.bool true) (by kernel_rfl) (fun _ => by kernel_rfl) ?_
        refine T.pure (.bool true) (by kernel_rfl) (fun _ => by kernel_rfl) ?_
        refine T.pass (by kernel_rfl) (by kernel_rfl) ?_
        refine T.pass (by kernel_rfl) (by kernel_rfl) ?_
        refine T.pass (by kernel_rfl) (by kernel_rfl) ?_
        refine T.pass (by kernel_rfl) (by kernel_rfl) ?_
        refine T.pure (.bool true) (by kernel_rfl) (fun _ => by kernel_rfl) ?_
        refine T.pure (.bool true) (by kernel_rfl) (fun _ => by kernel_rfl) ?_
        refine T.pass (by kernel_rfl) (by kernel_rfl) ?_
        refine T.pass (by kernel_rfl) (by kernel_rfl) ?_
        refine T.pass (by kernel_rfl) (by kernel_rfl) ?_
        refine T.pass (by kernel_rfl) (by kernel_rfl) ?_
        refine T.pure (.bool true) (by kernel_rfl) (fun _ => by kernel_rfl) ?_
        refine T.nil ?_
        cases hX1
        exact fun a w' hf hh => And.intro (((((Fr.nil hf).pick hf 45 rfl).pick hf 21 rfl).pick hf 20 rfl).pick hf 0 rfl) (hh.sub List.Sublist.slnil)
      ·
       rintro a w' ⟨hf, hh⟩
       refine (?_ : T 47 w (vw w) [] [(0, .string p0), (20, .int .i64 (p0.size : Int)), (21, .int .i64 x1), (45, .bool z1)] _) a w' hf hh
       clear hf hh
       refine T.cond z1 (by kernel_rfl) (by kernel_rfl) (fun hc3 => ?_) (fun hc3 => ?_)
       ·
        rw [hc3, cond_true] at hY1
        refine T.seq ?_
        refine T.region ?_
        refine T.pure (.bool false) (by kernel_rfl) (fun _ => by kernel_rfl) ?_
        refine T.nil ?_
        cases hY1
        cases (hr1 _ rfl)
        try dsimp only at hF
        cases hF
        refine T.ret rfl ?_
        exact T.ret1 rfl (ResIs.tmp rfl) fun w' hh => ⟨_, rfl, hh.below, (show _ from rfl)⟩
       ·
        rw [hc3, cond_false] at hY1
        refine T.skip_code ?_
        refine T.region ?_
        refine T.pure (.int .i64 (IntKind.i64.wrap (x1 + 1))) (by kernel_rfl) (fun _ => by kernel_rfl) ?_
        refine T.pure (.int .i64 (IntKind.i64.wrap (x1 + 1))) (by kernel_rfl) (fun _ => by kernel_rfl) ?_
        refine T.nil ?_
        cases hY1
        exact fun a w' hf hh => Exists.intro (IntKind.i64.wrap (x1 + 1)) (And.intro rfl (And.intro ((((Fr.nil hf).pick hf 21 rfl).pick hf 20 rfl).pick hf 0 rfl) (hh.sub List.Sublist.slnil)))
     ·
      rw [hc2, cond_false] at hY1
      refine T.exit ?_
      cases hY1
      cases (hr1 _ rfl)
      exact fun a w' hf hh => And.intro rfl (And.intro (Fr.nil hf) (hh.sub List.Sublist.slnil))
   ·
    rintro a w' ⟨rfl, hf, hh⟩
    try dsimp only at hF
    refine (?_ : T 47 w (vw w) [] [] _) a w' hf hh
    clear hf hh
    refine T.seq ?_
    refine T.region ?_
    refine T.pure (.bool true) (by kernel_rfl) (fun _ => by kernel_rfl) ?_
    refine T.nil ?_
    cases hF
    refine T.ret rfl ?_
    exact T.ret1 rfl (ResIs.tmp rfl) fun w' hh => ⟨_, rfl, hh.below, (show _ from rfl)⟩

set_option maxRecDepth 100000 in
set_option maxHeartbeats 4000000 in
theorem snap_Check_l (F : Nat) (p0 : (List DSnap)) (r : Int) (hF : snap_Check F p0 = some r) (w : World) (A1 : Option Addr) (c1 : Nat) (hs1 : SlOk (vw w) eSnap A1 c1 p0) :
    Calls Try.prog 10 #[.slice A1 p0.length c1] w (Post (vSc eInt) r w) := by
 unfold snap_Check at hF
 refine T.start (l := [.slice A1 p0.length c1]) Try.func10 rfl rfl rfl ?_
 refine T.seq ?_
 refine T.region ?_
 refine T.pure (.int .i64 0) (by kernel_rfl) (fun _ => by kernel_rfl) ?_
 refine T.nil ?_
 refine T.seq ?_
 refine T.seq ?_
 refine T.region ?_
 refine T.pure (.slice A1 p0.length c1) (by kernel_rfl) (fun _ => by kernel_rfl) ?_
 refine T.pure (.int .i64 (p0.length : Int)) (by kernel_rfl) (fun _ => by kernel_rfl) ?_
 refine T.pure (.bool (decide ((20 : Int) < (p0.length : Int)))) (by kernel_rfl) (fun _ => by kernel_rfl) ?_
 refine T.nil ?_
 refine T.cond (decide ((20 : Int) < (p0.length : Int))) (by kernel_rfl) (by kernel_rfl) (fun hc1 => ?_) (fun hc1 => ?_)
 ·
  rw [hc1, cond_true] at hF
  refine T.seq ?_
  refine T.region ?_
  refine T.pure (.int .i64 2) (by kernel_rfl) (fun _ => by kernel_rfl) ?_
  refine T.nil ?_
  cases hF
  refine T.ret rfl ?_
  exact T.ret1 rfl (ResIs.tmp rfl) fun w' hh => ⟨_, rfl, hh.below, (show _ from rfl)⟩
 ·
  rw [hc1, cond_false] at hF
  refine T.skip_code ?_
  refine T.seq ?_
  refine T.seq ?_
  refine T.region ?_
  refine T.pure (.slice A1 p0.length c1) (by kernel_rfl) (fun _ => by kernel_rfl) ?_
  refine T.pure (.int .i64 (p0.length : Int)) (by kernel_rfl) (fun _ => by kernel_rfl) ?_
  refine T.pure (.int .i64 0) (by kernel_rfl) (fun _ => by kernel_rfl) ?_
  refine T.nil ?_
  obtain ⟨q1, hz1, hF⟩ := Option.bind_eq_some_iff.1 hF
  refine T.mid (fun a w' => q1 = Sum.inl () ∧ Fr 43 [] a ∧ Hp w (vw w) [] w') ?_ ?_
  ·
   refine T.block ?_
   refine T.iter (fun x1 a w' => Fr 43 [(0, .slice A1 p0.length c1), (8, .slice A1 p0.length c1), (9, .int .i64 (p0.length : Int)), (10, .int .i64 x1)] a ∧ Hp w (vw w) [] w') hz1 ?_ ?_
   ·
    exact fun a w' hf hh => And.intro (((((Fr.nil hf).pick hf 10 rfl).pick hf 9 rfl).pick hf 8 rfl).pick hf 0 rfl) (hh.sub List.Sublist.slnil)
   ·
    rintro x1 y1 hY1 hr1 a w' ⟨hf, hh⟩
    refine (?_ : T 43 w (vw w) [] [(0, .slice A1 p0.length c1), (8, .slice A1 p0.length c1), (9, .int .i64 (p0.length : Int)), (10, .int .i64 x1)] _) a w' hf hh
    clear hf hh
    try dsimp only at hY1
    refine T.seq ?_
    refine T.region ?_
    refine T.pure (.bool (decide (x1 < (p0.length : Int)))) (by kernel_rfl) (fun _ => by kernel_rfl) ?_
    refine T.nil ?_
    refine T.seq ?_
    refine T.cond (decide (x1 < (p0.length : Int))) (by kernel_rfl) (by kernel_rfl) (fun hc2 => ?_) (fun hc2 => ?_)
    ·
     rw [hc2, cond_true] at hY1
     refine T.skip_code ?_
     refine T.seq ?_
     refine T.block ?_
     refine T.seq ?_
     refine T.region ?_
     refine T.pure (.int .i64 x1) (by kernel_rfl) (fun _ => by kernel_rfl) ?_
     obtain ⟨e1, hb1, hY1⟩ := Option.bind_eq_some_iff.1 hY1
     obtain ⟨hi1, hi2, hi3⟩ := idx_some hb1
     refine T.look (.pointer (some ((sadr A1).add (x1.toNat * 2)))) (by kernel_rfl) (fun w' hh => exec_indexAddr (e := 31) (s := 2) rfl rfl rfl (by kernel_rfl) (by kernel_rfl) hi1 hi2 (hs1.some_ hi3 (by decide))) ?_
     refine T.look (.agg #[.string e1.name, .int .i64 e1.tid]) (by kernel_rfl) (fun w' hh => exec_loadN (cs := [.string e1.name, .int .i64 e1.tid]) rfl rfl (by kernel_rfl) (by kernel_rfl) (fun j u hj => (hh.cell_view (SlOk.cellF (E := eSnap) hs1 hi3 j (fun _ _ _ h => h) hj)))) ?_
     refine T.step (W1.new 31 [.string (ByteArray.mk #[]), .int .i64 0] (fun b => .pointer (some ⟨b, 0, none⟩)) (by kernel_rfl) (fun _ => by kernel_rfl) (fun b1 => ?_))
     refine T.pure (.int .i64 x1) (by kernel_rfl) (fun _ => by kernel_rfl) ?_
     refine T.step (W1.store 0 [.string e1.name, .int .i64 e1.tid] [box b1 31 [.string e1.name, .int .i64 e1.tid]] (by rfl) rfl (by kernel_rfl) (fun w' hw => exec_store (vs := [.string e1.name, .int .i64 e1.tid]) rfl rfl rfl rfl (by kernel_rfl) (one_of rfl) (by simp) rfl hw) ?_)
     refine T.nil ?_
     refine T.seq ?_
     obtain ⟨z1, hX1, hY1⟩ := Option.bind_eq_some_iff.1 hY1
     refine T.cut (fun a w' => Fr 43 [(0, .slice A1 p0.length c1), (4, .pointer (some ⟨b1, 0, none⟩)), (8, .slice A1 p0.length c1), (9, .int .i64 (p0.length : Int)), (10, .int .i64 x1), (33, .bool z1)] a ∧ Hp w (vw w) [box b1 31 [.string e1.name, .int .i64 e1.tid]] w') ?_ ?_
     ·
      refine T.quiet (by kernel_rfl) (by kernel_rfl) ?_
      refine TQ.pure (.pointer (some ⟨b1, 0, none⟩)) (by kernel_rfl) (fun _ => by kernel_rfl) ?_
      refine TQ.look (.string e1.name) (by kernel_rfl) (fun w' hh => exec_load1 rfl rfl (by kernel_rfl) (hh.cellBox (i := 0) (by rfl) 0)) ?_
      obtain ⟨r1, hb2, hX1⟩ := Option.bind_eq_some_iff.1 hX1
      refine TQ.call (vSc eBool) r1 20 #[.string e1.name] (.bool r1) (fun V u hu => sureBool V u _ hu) (by kernel_rfl) (fun _ => by kernel_rfl) (fun w' hh => dir_Name_l F e1.name r1 hb2 w' ) ?_
      refine TQ.pure (.bool (!r1)) (by kernel_rfl) (fun _ => by kernel_rfl) ?_
      refine TQ.pure (.bool (!r1)) (by kernel_rfl) (fun _ => by kernel_rfl) ?_
      cases hg1 : (!r1)
      ·
       skip
       rw [hg1, cond_false] at hX1
       refine TQ.pure (.int .i64 x1) (by kernel_rfl) (fun _ => by kernel_rfl) ?_
       refine TQ.pure (.bool (decide ((0 : Int) < x1))) (by kernel_rfl) (fun _ => by kernel_rfl) ?_
       refine TQ.pure (.bool (decide ((0 : Int) < x1))) (by kernel_rfl) (fun _ => by kernel_rfl) ?_
       cases hg2 : decide ((0 : Int) < x1)
       ·
        skip
        rw [hg2, cond_false] at hX1
        refine TQ.pass (by kernel_rfl) (by kernel_rfl) ?_
        refine TQ.pass (by kernel_rfl) (by kernel_rfl) ?_
        refine TQ.pass (by kernel_rfl) (by kernel_rfl) ?_
        refine TQ.pass (by kernel_rfl) (by kernel_rfl) ?_
        refine TQ.pass (by kernel_rfl) (by kernel_rfl) ?_
        refine TQ.pass (by kernel_rfl) (by kernel_rfl) ?_
        refine TQ.pass (by kernel_rfl) (by kernel_rfl) ?_
        refine TQ.pass (by kernel_rfl) (by kernel_rfl) ?_
        refine TQ.pass (by kernel_rfl) (by kernel_rfl) ?_
        refine TQ.pure (.bool false) (by kernel_rfl) (fun _ => by kernel_rfl) ?_
        refine TQ.pure (.bool false) (by kernel_rfl) (fun _ => by kernel_rfl) ?_
        refine TQ.nil ?_
        cases hX1
        exact fun a w' hf hh => And.intro (((((((Fr.nil hf).pick hf 33 rfl).pick hf 10 rfl).pick hf 9 rfl).pick hf 8 rfl).pick hf 4 rfl).pick hf 0 rfl) (hh.sub (.cons_cons _ List.Sublist.slnil))
       ·
        skip
        rw [hg2, cond_true] at hX1
        refine TQ.pure (.slice A1 p0.length c1) (by kernel_rfl) (fun _ => by kernel_rfl) ?_
        refine TQ.pure (.int .i64 x1) (by kernel_rfl) (fun _ => by kernel_rfl) ?_
        refine TQ.pure (.int .i64 (IntKind.i64.wrap (x1 - 1))) (by kernel_rfl) (fun _ => by kernel_rfl) ?_
        obtain ⟨e2, hb3, hX1⟩ := Option.bind_eq_some_iff.1 hX1
        obtain ⟨hi4, hi5, hi6⟩ := idx_some hb3
        refine TQ.look (.pointer (some ((sadr A1).add (((IntKind.i64.wrap (x1 - 1)).toNat) * 2)))) (by kernel_rfl) (fun w' hh => exec_indexAddr (e := 31) (s := 2) rfl rfl rfl (by kernel_rfl) (by kernel_rfl) hi4 hi5 (hs1.some_ hi6 (by decide))) ?_
        refine TQ.pure (.pointer (some ((sadr A1).add (((IntKind.i64.wrap (x1 - 1)).toNat) * 2)))) (by kernel_rfl) (fun _ => by kernel_rfl) ?_
        refine TQ.look (.string e2.name) (by kernel_rfl) (fun w' hh => exec_load1 rfl rfl (by kernel_rfl) (hh.cell_view (SlOk.cellF0 (E := eSnap) hs1 hi6 (fun _ _ _ h => h) rfl))) ?_
        refine TQ.pure (.pointer (some ⟨b1, 0, none⟩)) (by kernel_rfl) (fun _ => by kernel_rfl) ?_
        refine TQ.look (.string e1.name) (by kernel_rfl) (fun w' hh => exec_load1 rfl rfl (by kernel_rfl) (hh.cellBox (i := 0) (by rfl) 0)) ?_
        refine TQ.pure (.bool (!(slt e2.name e1.name))) (by kernel_rfl) (fun _ => by kernel_rfl) ?_
        refine TQ.pure (.bool (!(slt e2.name e1.name))) (by kernel_rfl) (fun _ => by kernel_rfl) ?_
        refine TQ.pure (.bool (!(slt e2.name e1.name))) (by kernel_rfl) (fun _ => by kernel_rfl) ?_
        refine TQ.nil ?_
        cases hX1
        exact fun a w' hf hh => And.intro (((((((Fr.nil hf).pick hf 33 rfl).pick hf 10 rfl).pick hf 9 rfl).pick hf 8 rfl).pick hf 4 rfl).pick hf 0 rfl) (hh.sub (.cons_cons _ List.Sublist.slnil))
      ·
       skip
       rw [hg1, cond_true] at hX1
       refine TQ.pass (by kernel_rfl) (by kernel_rfl) ?_
       refine TQ.pass (by kernel_rfl) (by kernel_rfl) ?_
       refine TQ.pass (by kernel_rfl) (by kernel_rfl) ?_
       refine TQ.pass (by kernel_rfl) (by kernel_rfl) ?_
       refine TQ.pass (by kernel_rfl) (by kernel_rfl) ?_
       refine TQ.pass (by kernel_rfl) (by kernel_rfl) ?_
       refine TQ.pass (by kernel_rfl) (by kernel_rfl) ?_
       refine TQ.pass (by kernel_rfl) (by kernel_rfl) ?_
       refine TQ.pass (by kernel_rfl) (by kernel_rfl) ?_
       refine TQ.pass (by kernel_rfl) (by kernel_rfl) ?_
       refine TQ.pass (by kernel_rfl) (by kernel_rfl) ?_
       refine TQ.pass (by kernel_rfl) (by kernel_rfl) ?_
       refine TQ.pass (by kernel_rfl) (by kernel_rfl) ?_
       refine TQ.pure (.bool true) (by kernel_rfl) (fun _ => by kernel_rfl) ?_
       refine TQ.nil ?_
       cases hX1
       exact fun a w' hf hh => And.intro (((((((Fr.nil hf).pick hf 33 rfl).pick hf 10 rfl).pick hf 9 rfl).pick hf 8 rfl).pick hf 4 rfl).pick hf 0 rfl) (hh.sub (.cons_cons _ List.Sublist.slnil))
     ·
      rintro a w' ⟨hf, hh⟩
      refine (?_ : T 43 w (vw w) [box b1 31 [.string e1.name, .int .i64 e1.tid]] [(0, .slice A1 p0.length c1), (4, .pointer (some ⟨b1, 0, none⟩)), (8, .slice A1 p0.length c1), (9, .int .i64 (p0.length : Int)), (10, .int .i64 x1), (33, .bool z1)] _) a w' hf hh
      clear hf hh
      refine T.cond z1 (by kernel_rfl) (by kernel_rfl) (fun hc3 => ?_) (fun hc3 => ?_)
      ·
       rw [hc3, cond_true] at hY1
       refine T.seq ?_
       refine T.region ?_
       refine T.pure (.int .i64 3) (by kernel_rfl) (fun _ => by kernel_rfl) ?_
       refine T.nil ?_
       cases hY1
       cases (hr1 _ rfl)
       try dsimp only at hF
       cases hF
       refine T.ret rfl ?_
       exact T.ret1 rfl (ResIs.tmp rfl) fun w' hh => ⟨_, rfl, hh.below, (show _ from rfl)⟩
      ·
       rw [hc3, cond_false] at hY1
       refine T.skip_code ?_
       refine T.cut (fun a w' => Fr 43 [(0, .slice A1 p0.length c1), (8, .slice A1 p0.length c1), (9, .int .i64 (p0.length : Int)), (10, .int .i64 x1), (41, .bool ((decide (e1.tid < 0)) || (decide ((2147483647 : Int) < e1.tid))))] a ∧ Hp w (vw w) [] w') ?_ ?_
       ·
        refine T.region ?_
        refine T.pure (.pointer (some ⟨b1, 1, none⟩)) (by kernel_rfl) (fun _ => by kernel_rfl) ?_
        refine T.look (.int .i64 e1.tid) (by kernel_rfl) (fun w' hh => exec_load1 rfl rfl (by kernel_rfl) (hh.cellBox (i := 0) (by rfl) 1)) ?_
        refine T.pure (.bool (decide (e1.tid < 0))) (by kernel_rfl) (fun _ => by kernel_rfl) ?_
        refine T.pure (.bool (decide (e1.tid < 0))) (by kernel_rfl) (fun _ => by kernel_rfl) ?_
        cases hg3 : decide (e1.tid < 0)
        ·
         skip
         refine T.pure (.pointer (some ⟨b1, 1, none⟩)) (by kernel_rfl) (fun _ => by kernel_rfl) ?_
         refine T.look (.int .i64 e1.tid) (by kernel_rfl) (fun w' hh => exec_load1 rfl rfl (by kernel_rfl) (hh.cellBox (i := 0) (by rfl) 1)) ?_
         refine T.pure (.bool (decide ((2147483647 : Int) < e1.tid))) (by kernel_rfl) (fun _ => by kernel_rfl) ?_
         refine T.pure (.bool (decide ((2147483647 : Int) < e1.tid))) (by kernel_rfl) (fun _ => by kernel_rfl) ?_
         refine T.nil ?_
         exact fun a w' hf hh => And.intro ((((((Fr.nil hf).pick hf 41 rfl).pick hf 10 rfl).pick hf 9 rfl).pick hf 8 rfl).pick hf 0 rfl) (hh.sub (.cons _ List.Sublist.slnil))
        ·
         skip
         refine T.pass (by kernel_rfl) (by kernel_rfl) ?_
         refine T.pass (by kernel_rfl) (by kernel_rfl) ?_
         refine T.pass (by kernel_rfl) (by kernel_rfl) ?_
         refine T.pure (.bool true) (by kernel_rfl) (fun _ => by kernel_rfl) ?_
         refine T.nil ?_
         exact fun a w' hf hh => And.intro ((((((Fr.nil hf).pick hf 41 rfl).pick hf 10 rfl).pick hf 9 rfl).pick hf 8 rfl).pick hf 0 rfl) (hh.sub (.cons _ List.Sublist.slnil))
       ·
        rintro a w' ⟨hf, hh⟩
        refine (?_ : T 43 w (vw w) [] [(0, .slice A1 p0.length c1), (8, .slice A1 p0.length c1), (9, .int .i64 (p0.length : Int)), (10, .int .i64 x1), (41, .bool ((decide (e1.tid < 0)) || (decide ((2147483647 : Int) < e1.tid))))] _) a w' hf hh
        clear hf hh
        refine T.cond ((decide (e1.tid < 0)) || (decide ((2147483647 : Int) < e1.tid))) (by kernel_rfl) (by kernel_rfl) (fun hc4 => ?_) (fun hc4 => ?_)
        ·
         rw [hc4, cond_true] at hY1
         refine T.seq ?_
         refine T.region ?_
         refine T.pure (.int .i64 9) (by kernel_rfl) (fun _ => by kernel_rfl) ?_
         refine T.nil ?_
         cases hY1
         cases (hr1 _ rfl)
         try dsimp only at hF
         cases hF
         refine T.ret rfl ?_
         exact T.ret1 rfl (ResIs.tmp rfl) fun w' hh => ⟨_, rfl, hh.below, (show _ from rfl)⟩
        ·
         rw [hc4, cond_false] at hY1
         refine T.skip_code ?_
         refine T.region ?_
         refine T.pure (.int .i64 (IntKind.i64.wrap (x1 + 1))) (by kernel_rfl) (fun _ => by kernel_rfl) ?_
         refine T.pure (.int .i64 (IntKind.i64.wrap (x1 + 1))) (by kernel_rfl) (fun _ => by kernel_rfl) ?_
         refine T.nil ?_
         cases hY1
         exact fun a w' hf hh => Exists.intro (IntKind.i64.wrap (x1 + 1)) (And.intro rfl (And.intro (((((Fr.nil hf).pick hf 10 rfl).pick hf 9 rfl).pick hf 8 rfl).pick hf 0 rfl) (hh.sub List.Sublist.slnil)))
    ·
     rw [hc2, cond_false] at hY1
     refine T.exit ?_
     cases hY1
     cases (hr1 _ rfl)
     exact fun a w' hf hh => And.intro rfl (And.intro (Fr.nil hf) (hh.sub List.Sublist.slnil))
  ·
   rintro a w' ⟨rfl, hf, hh⟩
   try dsimp only at hF
   refine (?_ : T 43 w (vw w) [] [] _) a w' hf hh
   clear hf hh
   refine T.seq ?_
   refine T.region ?_
   refine T.pure (.int .i64 0) (by kernel_rfl) (fun _ => by kernel_rfl) ?_
   refine T.nil ?_
   cases hF
   refine T.ret rfl ?_
   exact T.ret1 rfl (ResIs.tmp rfl) fun w' hh => ⟨_, rfl, hh.below, (show _ from rfl)⟩

set_option maxRecDepth 100000 in
set_option maxHeartbeats 4000000 in
theorem snap_place_l (F : Nat) (p0 : (List DSnap)) (p1 : ByteArray) (r : Int × Bool) (hF : snap_place F p0 p1 = some r) (w : World) (A1 : Option Addr) (c1 : Nat) (hs1 : SlOk (vw w) eSnap A1 c1 p0) :
    Calls Try.prog 16 #[.slice A1 p0.length c1, .string p1] w (Post (vT2 (vSc eInt) (vSc eBool)) r w) := by
 unfold snap_place at hF
 refine T.start (l := [.slice A1 p0.length c1, .string p1]) Try.func16 rfl rfl rfl ?_
 refine T.seq ?_
 refine T.region ?_
 refine T.step (W1.new 23 [.slice A1 p0.length c1] (fun b => .pointer (some ⟨b, 0, none⟩)) (by kernel_rfl) (fun _ => by kernel_rfl) (fun b1 => ?_))
 refine T.step (W1.new 9 [.string p1] (fun b => .pointer (some ⟨b, 0, none⟩)) (by kernel_rfl) (fun _ => by kernel_rfl) (fun b2 => ?_))
 refine T.pure (.int .i64 0) (by kernel_rfl) (fun _ => by kernel_rfl) ?_
 refine T.pure (.bool false) (by kernel_rfl) (fun _ => by kernel_rfl) ?_
 refine T.nil ?_
 refine T.seq ?_
 refine T.region ?_
 refine T.look (.slice A1 p0.length c1) (by kernel_rfl) (fun w' hh => exec_load1 rfl rfl (by kernel_rfl) (hh.cellBox (i := 1) (by rfl) 0)) ?_
 refine T.pure (.int .i64 (p0.length : Int)) (by kernel_rfl) (fun _ => by kernel_rfl) ?_
 refine T.pure (.func (.func 27) #[] #[.pointer (some ⟨b1, 0, none⟩), .pointer (some ⟨b2, 0, none⟩)]) (by kernel_rfl) (fun _ => by kernel_rfl) ?_
 obtain ⟨z1, hX1, hF⟩ := Option.bind_eq_some_iff.1 hF
 refine T.step (W1.within 26 [.int .i64 (p0.length : Int), .func (.func 27) #[] #[.pointer (some ⟨b1, 0, none⟩), .pointer (some ⟨b2, 0, none⟩)]] (fun v w' => v = .int .i64 z1 ∧ Hp w (vw w) [box b2 9 [.string p1], box b1 23 [.slice A1 p0.length c1]] w') Try.func26 rfl rfl (by kernel_rfl) (fun _ => by kernel_rfl) rfl ?_ ?_)
 ·
  refine T.seq ?_
  refine T.region ?_
  refine T.pure (.int .i64 0) (by kernel_rfl) (fun _ => by kernel_rfl) ?_
  refine T.nil ?_
  refine T.seq ?_
  refine T.region ?_
  refine T.pure (.int .i64 (p0.length : Int)) (by kernel_rfl) (fun _ => by kernel_rfl) ?_
  refine T.pure (.int .i64 0) (by kernel_rfl) (fun _ => by kernel_rfl) ?_
  refine T.pure (.int .i64 (p0.length : Int)) (by kernel_rfl) (fun _ => by kernel_rfl) ?_
  refine T.nil ?_
  obtain ⟨z2, hz1, hX1⟩ := Option.bind_eq_some_iff.1 hX1
  refine T.cut (fun a w' => Fr 26 [(5, .int .i64 z2)] a ∧ Hp w (vw w) [box b2 9 [.string p1], box b1 23 [.slice A1 p0.length c1]] w') ?_ ?_
  ·
   refine T.block ?_
   refine T.iter (fun s1 a w' => ∃ (x1 : Int) (x2 : Int), s1 = (x1, x2) ∧ Fr 26 [(1, .func (.func 27) #[] #[.pointer (some ⟨b1, 0, none⟩), .pointer (some ⟨b2, 0, none⟩)]), (5, .int .i64 x1), (6, .int .i64 x2)] a ∧ Hp w (vw w) [box b2 9 [.string p1], box b1 23 [.slice A1 p0.length c1]] w') hz1 ?_ ?_
   ·
    exact fun a w' hf hh => Exists.intro 0 (Exists.intro (p0.length : Int) (And.intro rfl (And.intro ((((Fr.nil hf).pick hf 6 rfl).pick hf 5 rfl).pick hf 1 rfl) (hh.sub (.cons_cons _ (.cons_cons _ List.Sublist.slnil))))))
   ·
    rintro s1 y1 hY1 hr1 a w' ⟨x1, x2, rfl, hf, hh⟩
    refine (?_ : T 26 w (vw w) [box b2 9 [.string p1], box b1 23 [.slice A1 p0.length c1]] [(1, .func (.func 27) #[] #[.pointer (some ⟨b1, 0, none⟩), .pointer (some ⟨b2, 0, none⟩)]), (5, .int .i64 x1), (6, .int .i64 x2)] _) a w' hf hh
    clear hf hh
    try dsimp only at hY1
    refine T.seq ?_
    refine T.seq ?_
    refine T.region ?_
    refine T.pure (.int .i64 x1) (by kernel_rfl) (fun _ => by kernel_rfl) ?_
    refine T.pure (.int .i64 x2) (by kernel_rfl) (fun _ => by kernel_rfl) ?_
    refine T.pure (.bool (decide (x1 < x2))) (by kernel_rfl) (fun _ => by kernel_rfl) ?_
    refine T.nil ?_
    refine T.cond (decide (x1 < x2)) (by kernel_rfl) (by kernel_rfl) (fun hc1 => ?_) (fun hc1 => ?_)
    ·
     rw [hc1, cond_true] at hY1
     refine T.skip_code ?_
     refine T.block ?_
     refine T.seq ?_
     refine T.region ?_
     refine T.pure (.int .i64 x1) (by kernel_rfl) (fun _ => by kernel_rfl) ?_
     refine T.pure (.int .i64 x2) (by kernel_rfl) (fun _ => by kernel_rfl) ?_
     refine T.pure (.int .i64 (IntKind.i64.wrap (x1 + x2))) (by kernel_rfl) (fun _ => by kernel_rfl) ?_
     refine T.pure (.int .u64 (IntKind.u64.wrap (IntKind.i64.wrap (x1 + x2)))) (by kernel_rfl) (fun _ => by kernel_rfl) ?_
     refine T.pure (.int .u64 (shr .u64 (IntKind.u64.wrap (IntKind.i64.wrap (x1 + x2))) 1)) (by kernel_rfl) (fun _ => by kernel_rfl) ?_
     refine T.pure (.int .i64 (IntKind.i64.wrap (shr .u64 (IntKind.u64.wrap (IntKind.i64.wrap (x1 + x2))) 1))) (by kernel_rfl) (fun _ => by kernel_rfl) ?_
     refine T.pure (.int .i64 (IntKind.i64.wrap (shr .u64 (IntKind.u64.wrap (IntKind.i64.wrap (x1 + x2))) 1))) (by kernel_rfl) (fun _ => by kernel_rfl) ?_
     refine T.nil ?_
     refine T.seq ?_
     refine T.region ?_
     refine T.pure (.func (.func 27) #[] #[.pointer (some ⟨b1, 0, none⟩), .pointer (some ⟨b2, 0, none⟩)]) (by kernel_rfl) (fun _ => by kernel_rfl) ?_
     refine T.pure (.int .i64 (IntKind.i64.wrap (shr .u64 (IntKind.u64.wrap (IntKind.i64.wrap (x1 + x2))) 1))) (by kernel_rfl) (fun _ => by kernel_rfl) ?_
     obtain ⟨z3, hX2, hY1⟩ := Option.bind_eq_some_iff.1 hY1
     refine T.step (W1.within 27 [.int .i64 (IntKind.i64.wrap (shr .u64 (IntKind.u64.wrap (IntKind.i64.wrap (x1 + x2))) 1)), .pointer (some ⟨b1, 0, none⟩), .pointer (some ⟨b2, 0, none⟩)] (fun v w' => v = .bool z3 ∧ Hp w (vw w) [box b2 9 [.string p1], box b1 23 [.slice A1 p0.length c1]] w') Try.func27 rfl rfl (by kernel_rfl) (fun _ => by kernel_rfl) rfl ?_ ?_)
     ·
      refine T.seq ?_
      refine T.region ?_
      refine T.pure (.bool false) (by kernel_rfl) (fun _ => by kernel_rfl) ?_
      refine T.nil ?_
      refine T.seq ?_
      refine T.quiet (by kernel_rfl) (by kernel_rfl) ?_
      refine TQ.look (.slice A1 p0.length c1) (by kernel_rfl) (fun w' hh => exec_load1 rfl rfl (by kernel_rfl) (hh.cellBox (i := 1) (by rfl) 0)) ?_
      refine TQ.pure (.int .i64 (IntKind.i64.wrap (shr .u64 (IntKind.u64.wrap (IntKind.i64.wrap (x1 + x2))) 1))) (by kernel_rfl) (fun _ => by kernel_rfl) ?_
      obtain ⟨e1, hb1, hX2⟩ := Option.bind_eq_some_iff.1 hX2
      obtain ⟨hi1, hi2, hi3⟩ := idx_some hb1
      refine TQ.look (.pointer (some ((sadr A1).add (((IntKind.i64.wrap (shr .u64 (IntKind.u64.wrap (IntKind.i64.wrap (x1 + x2))) 1)).toNat) * 2)))) (by kernel_rfl) (fun w' hh => exec_indexAddr (e := 31) (s := 2) rfl rfl rfl (by kernel_rfl) (by kernel_rfl) hi1 hi2 (hs1.some_ hi3 (by decide))) ?_
      refine TQ.pure (.pointer (some ((sadr A1).add (((IntKind.i64.wrap (shr .u64 (IntKind.u64.wrap (IntKind.i64.wrap (x1 + x2))) 1)).toNat) * 2)))) (by kernel_rfl) (fun _ => by kernel_rfl) ?_
      refine TQ.look (.string e1.name) (by kernel_rfl) (fun w' hh => exec_load1 rfl rfl (by kernel_rfl) (hh.cell_view (SlOk.cellF0 (E := eSnap) hs1 hi3 (fun _ _ _ h => h) rfl))) ?_
      refine TQ.look (.string p1) (by kernel_rfl) (fun w' hh => exec_load1 rfl rfl (by kernel_rfl) (hh.cellBox (i := 0) (by rfl) 0)) ?_
      refine TQ.pure (.bool (!(slt e1.name p1))) (by kernel_rfl) (fun _ => by kernel_rfl) ?_
      refine TQ.pure (.bool (!(slt e1.name p1))) (by kernel_rfl) (fun _ => by kernel_rfl) ?_
      refine TQ.nil ?_
      cases hX2
      refine T.ret rfl ?_
      exact T.ret1 rfl (ResIs.tmp rfl) fun w' hh => ⟨_, rfl, And.intro rfl (hh.sub (.cons_cons _ (.cons_cons _ List.Sublist.slnil)))⟩
     ·
      rintro v w' ⟨rfl, hh⟩
      refine ⟨(vw w), [box b2 9 [.string p1], box b1 23 [.slice A1 p0.length c1]], hh, ?_⟩
      clear hh
      refine T.pure (.bool (!z3)) (by kernel_rfl) (fun _ => by kernel_rfl) ?_
      refine T.nil ?_
      refine T.cond (!z3) (by kernel_rfl) (by kernel_rfl) (fun hc2 => ?_) (fun hc2 => ?_)
      ·
       rw [hc2, cond_true] at hY1
       refine T.region ?_
       refine T.pure (.int .i64 (IntKind.i64.wrap (shr .u64 (IntKind.u64.wrap (IntKind.i64.wrap (x1 + x2))) 1))) (by kernel_rfl) (fun _ => by kernel_rfl) ?_
       refine T.pure (.int .i64 (IntKind.i64.wrap ((IntKind.i64.wrap (shr .u64 (IntKind.u64.wrap (IntKind.i64.wrap (x1 + x2))) 1)) + 1))) (by kernel_rfl) (fun _ => by kernel_rfl) ?_
       refine T.pure (.int .i64 (IntKind.i64.wrap ((IntKind.i64.wrap (shr .u64 (IntKind.u64.wrap (IntKind.i64.wrap (x1 + x2))) 1)) + 1))) (by kernel_rfl) (fun _ => by kernel_rfl) ?_
       refine T.nil ?_
       cases hY1
       exact fun a w' hf hh => Exists.intro (IntKind.i64.wrap ((IntKind.i64.wrap (shr .u64 (IntKind.u64.wrap (IntKind.i64.wrap (x1 + x2))) 1)) + 1), x2) (And.intro rfl (Exists.intro (IntKind.i64.wrap ((IntKind.i64.wrap (shr .u64 (IntKind.u64.wrap (IntKind.i64.wrap (x1 + x2))) 1)) + 1)) (Exists.intro x2 (And.intro rfl (And.intro ((((Fr.nil hf).pick hf 6 rfl).pick hf 5 rfl).pick hf 1 rfl) (hh.sub (.cons_cons _ (.cons_cons _ List.Sublist.slnil))))))))
      ·
       rw [hc2, cond_false] at hY1
       refine T.region ?_
       refine T.pure (.int .i64 (IntKind.i64.wrap (shr .u64 (IntKind.u64.wrap (IntKind.i64.wrap (x1 + x2))) 1))) (by kernel_rfl) (fun _ => by kernel_rfl) ?_
       refine T.pure (.int .i64 (IntKind.i64.wrap (shr .u64 (IntKind.u64.wrap (IntKind.i64.wrap (x1 + x2))) 1))) (by kernel_rfl) (fun _ => by kernel_rfl) ?_
       refine T.nil ?_
       cases hY1
       exact fun a w' hf hh => Exists.intro (x1, IntKind.i64.wrap (shr .u64 (IntKind.u64.wrap (IntKind.i64.wrap (x1 + x2))) 1)) (And.intro rfl (Exists.intro x1 (Exists.intro (IntKind.i64.wrap (shr .u64 (IntKind.u64.wrap (IntKind.i64.wrap (x1 + x2))) 1)) (And.intro rfl (And.intro ((((Fr.nil hf).pick hf 6 rfl).pick hf 5 rfl).pick hf 1 rfl) (hh.sub (.cons_cons _ (.cons_cons _ List.Sublist.slnil))))))))
    ·
     rw [hc1, cond_false] at hY1
     refine T.exit ?_
     cases hY1
     cases (hr1 _ rfl)
     exact fun a w' hf hh => And.intro ((Fr.nil hf).pick hf 5 rfl) (hh.sub (.cons_cons _ (.cons_cons _ List.Sublist.slnil)))
  ·
   rintro a w' ⟨hf, hh⟩
   refine (?_ : T 26 w (vw w) [box b2 9 [.string p1], box b1 23 [.slice A1 p0.length c1]] [(5, .int .i64 z2)] _) a w' hf hh
   clear hf hh
   refine T.seq ?_
   refine T.region ?_
   refine T.pure (.int .i64 z2) (by kernel_rfl) (fun _ => by kernel_rfl) ?_
   refine T.pure (.int .i64 z2) (by kernel_rfl) (fun _ => by kernel_rfl) ?_
   refine T.nil ?_
   cases hX1
   refine T.ret rfl ?_
   exact T.ret1 rfl (ResIs.tmp rfl) fun w' hh => ⟨_, rfl, And.intro rfl (hh.sub (.cons_cons _ (.cons_cons _ List.Sublist.slnil)))⟩
 ·
  rintro v w' ⟨rfl, hh⟩
  refine ⟨(vw w), [box b2 9 [.string p1], box b1 23 [.slice A1 p0.length c1]], hh, ?_⟩
  clear hh
  refine T.pure (.int .i64 z1) (by kernel_rfl) (fun _ => by kernel_rfl) ?_
  refine T.nil ?_
  obtain ⟨z4, hX3, hF⟩ := Option.bind_eq_some_iff.1 hF
  refine T.cut (fun a w' => Fr 25 [(4, .int .i64 z1), (5, .bool z4)] a ∧ Hp w (vw w) [] w') ?_ ?_
  ·
   refine T.quiet (by kernel_rfl) (by kernel_rfl) ?_
   refine TQ.pure (.int .i64 z1) (by kernel_rfl) (fun _ => by kernel_rfl) ?_
   refine TQ.pure (.int .i64 z1) (by kernel_rfl) (fun _ => by kernel_rfl) ?_
   refine TQ.look (.slice A1 p0.length c1) (by kernel_rfl) (fun w' hh => exec_load1 rfl rfl (by kernel_rfl) (hh.cellBox (i := 1) (by rfl) 0)) ?_
   refine TQ.pure (.int .i64 (p0.length : Int)) (by kernel_rfl) (fun _ => by kernel_rfl) ?_
   refine TQ.pure (.bool (decide (z1 < (p0.length : Int)))) (by kernel_rfl) (fun _ => by kernel_rfl) ?_
   refine TQ.pure (.bool (decide (z1 < (p0.length : Int)))) (by kernel_rfl) (fun _ => by kernel_rfl) ?_
   cases hg1 : decide (z1 < (p0.length : Int))
   ·
    skip
    rw [hg1, cond_false] at hX3
    refine TQ.pass (by kernel_rfl) (by kernel_rfl) ?_
    refine TQ.pass (by kernel_rfl) (by kernel_rfl) ?_
    refine TQ.pass (by kernel_rfl) (by kernel_rfl) ?_
    refine TQ.pass (by kernel_rfl) (by kernel_rfl) ?_
    refine TQ.pass (by kernel_rfl) (by kernel_rfl) ?_
    refine TQ.pass (by kernel_rfl) (by kernel_rfl) ?_
    refine TQ.pass (by kernel_rfl) (by kernel_rfl) ?_
    refine TQ.pure (.bool false) (by kernel_rfl) (fun _ => by kernel_rfl) ?_
    refine TQ.pure (.int .i64 z1) (by kernel_rfl) (fun _ => by kernel_rfl) ?_
    refine TQ.pure (.bool false) (by kernel_rfl) (fun _ => by kernel_rfl) ?_
    refine TQ.nil ?_
    cases hX3
    exact fun a w' hf hh => And.intro (((Fr.nil hf).pick hf 5 rfl).pick hf 4 rfl) (hh.sub (.cons _ (.cons _ List.Sublist.slnil)))
   ·
    skip
    rw [hg1, cond_true] at hX3
    refine TQ.look (.slice A1 p0.length c1) (by kernel_rfl) (fun w' hh => exec_load1 rfl rfl (by kernel_rfl) (hh.cellBox (i := 1) (by rfl) 0)) ?_
    refine TQ.pure (.int .i64 z1) (by kernel_rfl) (fun _ => by kernel_rfl) ?_
    obtain ⟨e2, hb2, hX3⟩ := Option.bind_eq_some_iff.1 hX3
    obtain ⟨hi4, hi5, hi6⟩ := idx_some hb2
    refine TQ.look (.pointer (some ((sadr A1).add (z1.toNat * 2)))) (by kernel_rfl) (fun w' hh => exec_indexAddr (e := 31) (s := 2) rfl rfl rfl (by kernel_rfl) (by kernel_rfl) hi4 hi5 (hs1.some_ hi6 (by decide))) ?_
    refine TQ.pure (.pointer (some ((sadr A1).add (z1.toNat * 2)))) (by kernel_rfl) (fun _ => by kernel_rfl) ?_
    refine TQ.look (.string e2.name) (by kernel_rfl) (fun w' hh => exec_load1 rfl rfl (by kernel_rfl) (hh.cell_view (SlOk.cellF0 (E := eSnap) hs1 hi6 (fun _ _ _ h => h) rfl))) ?_
    refine TQ.look (.string p1) (by kernel_rfl) (fun w' hh => exec_load1 rfl rfl (by kernel_rfl) (hh.cellBox (i := 0) (by rfl) 0)) ?_
    refine TQ.pure (.bool (seq e2.name p1)) (by kernel_rfl) (fun _ => by kernel_rfl) ?_
    refine TQ.pure (.bool (seq e2.name p1)) (by kernel_rfl) (fun _ => by kernel_rfl) ?_
    refine TQ.pure (.int .i64 z1) (by kernel_rfl) (fun _ => by kernel_rfl) ?_
    refine TQ.pure (.bool (seq e2.name p1)) (by kernel_rfl) (fun _ => by kernel_rfl) ?_
    refine TQ.nil ?_
    cases hX3
    exact fun a w' hf hh => And.intro (((Fr.nil hf).pick hf 5 rfl).pick hf 4 rfl) (hh.sub (.cons _ (.cons _ List.Sublist.slnil)))
  ·
   rintro a w' ⟨hf, hh⟩
   refine (?_ : T 25 w (vw w) [] [(4, .int .i64 z1), (5, .bool z4)] _) a w' hf hh
   clear hf hh
   cases hF
   refine T.ret rfl ?_
   exact T.ret2 rfl (ResIs.tmp rfl) (ResIs.tmp rfl) fun w' hh => ⟨_, rfl, hh.below, (vT2.mk (show _ from rfl) (show _ from rfl))⟩

set_option maxRecDepth 100000 in
set_option maxHeartbeats 4000000 in
theorem snap_Find_l (F : Nat) (p0 : (List DSnap)) (p1 : ByteArray) (r : Int × Int) (hF : snap_Find F p0 p1 = some r) (w : World) (A1 : Option Addr) (c1 : Nat) (hs1 : SlOk (vw w) eSnap A1 c1 p0) :
    Calls Try.prog 7 #[.slice A1 p0.length c1, .string p1] w (Post (vT2 (vSc eInt) (vSc eInt)) r w) := by
 unfold snap_Find at hF
 refine T.start (l := [.slice A1 p0.length c1, .string p1]) Try.func7 rfl rfl rfl ?_
 refine T.seq ?_
 refine T.region ?_
 refine T.pure (.int .i64 0) (by kernel_rfl) (fun _ => by kernel_rfl) ?_
 refine T.pure (.int .i64 0) (by kernel_rfl) (fun _ => by kernel_rfl) ?_
 refine T.nil ?_
 refine T.seq ?_
 refine T.seq ?_
 refine T.region ?_
 refine T.pure (.slice A1 p0.length c1) (by kernel_rfl) (fun _ => by kernel_rfl) ?_
 obtain ⟨r1, hb1, hF⟩ := Option.bind_eq_some_iff.1 hF
 refine T.step (W1.call (vSc eInt) r1 10 #[.slice A1 p0.length c1] (by kernel_rfl) (fun _ => by kernel_rfl) (fun w' hh => snap_Check_l F p0 r1 hb1 w' A1 c1 (SlOk.mono hs1 hh.view)) ?_)
 intro u V1 hV1 hu
 obtain rfl := sureInt _ _ _ hu
 refine T.pure (.int .i64 r1) (by kernel_rfl) (fun _ => by kernel_rfl) ?_
 refine T.nil ?_
 refine T.seq ?_
 refine T.region ?_
 refine T.pure (.int .i64 r1) (by kernel_rfl) (fun _ => by kernel_rfl) ?_
 refine T.pure (.bool (r1 != 0)) (by kernel_rfl) (fun _ => by kernel_rfl) ?_
 refine T.nil ?_
 refine T.cond (r1 != 0) (by kernel_rfl) (by kernel_rfl) (fun hc1 => ?_) (fun hc1 => ?_)
 ·
  rw [hc1, cond_true] at hF
  refine T.seq ?_
  refine T.region ?_
  refine T.pure (.int .i64 r1) (by kernel_rfl) (fun _ => by kernel_rfl) ?_
  refine T.pure (.int .i64 0) (by kernel_rfl) (fun _ => by kernel_rfl) ?_
  refine T.pure (.int .i64 r1) (by kernel_rfl) (fun _ => by kernel_rfl) ?_
  refine T.nil ?_
  cases hF
  refine T.ret rfl ?_
  exact T.ret2 rfl (ResIs.tmp rfl) (ResIs.tmp rfl) fun w' hh => ⟨_, rfl, hh.below, (vT2.mk (show _ from rfl) (show _ from rfl))⟩
 ·
  rw [hc1, cond_false] at hF
  refine T.skip_code ?_
  refine T.seq ?_
  refine T.region ?_
  refine T.pure (.slice A1 p0.length c1) (by kernel_rfl) (fun _ => by kernel_rfl) ?_
  refine T.pure (.string p1) (by kernel_rfl) (fun _ => by kernel_rfl) ?_
  obtain ⟨r2, hb2, hF⟩ := Option.bind_eq_some_iff.1 hF
  refine T.step (W1.call (vT2 (vSc eInt) (vSc eBool)) r2 16 #[.slice A1 p0.length c1, .string p1] (by kernel_rfl) (fun _ => by kernel_rfl) (fun w' hh => snap_place_l F p0 p1 r2 hb2 w' A1 c1 (SlOk.mono (SlOk.mono hs1 hV1) hh.view)) ?_)
  intro u V2 hV2 hu
  obtain rfl := (Sure.t2 sureInt sureBool) _ _ _ hu
  refine T.pure (.tuple #[.int .i64 r2.1, .bool r2.2]) (by kernel_rfl) (fun _ => by kernel_rfl) ?_
  refine T.pure (.int .i64 r2.1) (by kernel_rfl) (fun _ => by kernel_rfl) ?_
  refine T.pure (.bool r2.2) (by kernel_rfl) (fun _ => by kernel_rfl) ?_
  refine T.pure (.int .i64 r2.1) (by kernel_rfl) (fun _ => by kernel_rfl) ?_
  refine T.pure (.bool r2.2) (by kernel_rfl) (fun _ => by kernel_rfl) ?_
  refine T.nil ?_
  refine T.seq ?_
  refine T.seq ?_
  refine T.region ?_
  refine T.pure (.bool r2.2) (by kernel_rfl) (fun _ => by kernel_rfl) ?_
  refine T.pure (.bool (!r2.2)) (by kernel_rfl) (fun _ => by kernel_rfl) ?_
  refine T.nil ?_
  refine T.cond (!r2.2) (by kernel_rfl) (by kernel_rfl) (fun hc2 => ?_) (fun hc2 => ?_)
  ·
   rw [hc2, cond_true] at hF
   refine T.seq ?_
   refine T.region ?_
   refine T.pure (.int .i64 0) (by kernel_rfl) (fun _ => by kernel_rfl) ?_
   refine T.pure (.int .i64 4) (by kernel_rfl) (fun _ => by kernel_rfl) ?_
   refine T.nil ?_
   cases hF
   refine T.ret rfl ?_
   exact T.ret2 rfl (ResIs.tmp rfl) (ResIs.tmp rfl) fun w' hh => ⟨_, rfl, hh.below, (vT2.mk (show _ from rfl) (show _ from rfl))⟩
  ·
   rw [hc2, cond_false] at hF
   refine T.skip_code ?_
   refine T.seq ?_
   refine T.region ?_
   refine T.pure (.slice A1 p0.length c1) (by kernel_rfl) (fun _ => by kernel_rfl) ?_
   refine T.pure (.int .i64 r2.1) (by kernel_rfl) (fun _ => by kernel_rfl) ?_
   obtain ⟨e1, hb3, hF⟩ := Option.bind_eq_some_iff.1 hF
   obtain ⟨hi1, hi2, hi3⟩ := idx_some hb3
   refine T.look (.pointer (some ((sadr A1).add (r2.1.toNat * 2)))) (by kernel_rfl) (fun w' hh => exec_indexAddr (e := 31) (s := 2) rfl rfl rfl (by kernel_rfl) (by kernel_rfl) hi1 hi2 ((SlOk.mono hs1 (View.le_trans hV1 hV2)).some_ hi3 (by decide))) ?_
   refine T.pure (.pointer (some (((sadr A1).add (r2.1.toNat * 2)).add 1))) (by kernel_rfl) (fun _ => by kernel_rfl) ?_
   refine T.look (.int .i64 e1.tid) (by kernel_rfl) (fun w' hh => exec_load1 rfl rfl (by kernel_rfl) (hh.cell_view (SlOk.cellF (E := eSnap) (SlOk.mono hs1 (View.le_trans hV1 hV2)) hi3 1 (fun _ _ _ h => h) rfl))) ?_
   refine T.pure (.int .i64 e1.tid) (by kernel_rfl) (fun _ => by kernel_rfl) ?_
   refine T.pure (.int .i64 0) (by kernel_rfl) (fun _ => by kernel_rfl) ?_
   refine T.nil ?_
   cases hF
   refine T.ret rfl ?_
   exact T.ret2 rfl (ResIs.tmp rfl) (ResIs.tmp rfl) fun w' hh => ⟨_, rfl, hh.below, (vT2.mk (show _ from rfl) (show _ from rfl))⟩

end Go.Proofs.Ytaodaihoglcinad
