/- The Go functions of group Disk compute the pure functions of that group: written by walkgen.py. Condition of each: the pure function yields a result. -/
import Derived.Test.YtjhkfonoobmecaaEqsL
import Derived.Test.YtjhkfonoobmecaaSpoil
import Derived.Test.YtjhkfonoobmecaaDiskF
import Derived.Test.YtjhkfonoobmecaaEqL
namespace Go.Proofs.Ytjhkfonoobmecaa
set_option linter.unusedVariables false

set_option maxRecDepth 100000 in
set_option maxHeartbeats 4000000 in
theorem disk_one_l (p0 : DDisk) (p1 : Int) (p2 : ByteArray) (r : Int) (hF : disk_one p0 p1 p2 = some r) (w : World) (A1 : Option Addr) (c1 : Nat) (hs1 : SlOk (vw w) eStr A1 c1 p0.pages) (A2 : Option Addr) (c2 : Nat) (hs2 : SlOk (vw w) eWrite A2 c2 p0.writes) :
    Calls Try.prog 22 #[.agg #[.slice A1 p0.pages.length c1, .slice A2 p0.writes.length c2], .int .i64 p1, .string p2] w (Post (vSc eInt) r w) := by
 unfold disk_one at hF
 refine T.start (l := [.agg #[.slice A1 p0.pages.length c1, .slice A2 p0.writes.length c2], .int .i64 p1, .string p2]) Try.func22 rfl rfl rfl ?_
 refine T.seq ?_
 refine T.region ?_
 refine T.step (W1.new 25 [.slice A1 p0.pages.length c1, .slice A2 p0.writes.length c2] (fun b => .pointer (some ⟨b, 0, none⟩)) (by kernel_rfl) (fun _ => by kernel_rfl) (fun b1 => ?_))
 refine T.pure (.int .i64 0) (by kernel_rfl) (fun _ => by kernel_rfl) ?_
 refine T.nil ?_
 refine T.seq ?_
 refine T.cut (fun a w' => Fr 19 [(2, .string p2), (15, .bool ((decide (p1 < 0)) || (decide ((p0.pages.length : Int) ≤ p1))))] a ∧ Hp w (vw w) [] w') ?_ ?_
 ·
  refine T.region ?_
  refine T.pure (.int .i64 p1) (by kernel_rfl) (fun _ => by kernel_rfl) ?_
  refine T.pure (.bool (decide (p1 < 0))) (by kernel_rfl) (fun _ => by kernel_rfl) ?_
  refine T.pure (.bool (decide (p1 < 0))) (by kernel_rfl) (fun _ => by kernel_rfl) ?_
  cases hg1 : decide (p1 < 0)
  ·
   skip
   refine T.pure (.int .i64 p1) (by kernel_rfl) (fun _ => by kernel_rfl) ?_
   refine T.pure (.pointer (some ⟨b1, 0, none⟩)) (by kernel_rfl) (fun _ => by kernel_rfl) ?_
   refine T.look (.slice A1 p0.pages.length c1) (by kernel_rfl) (fun w' hh => exec_load1 rfl rfl (by kernel_rfl) (hh.cellBox (i := 0) (by rfl) 0)) ?_
   refine T.pure (.int .i64 (p0.pages.length : Int)) (by kernel_rfl) (fun _ => by kernel_rfl) ?_
   refine T.pure (.bool (decide ((p0.pages.length : Int) ≤ p1))) (by kernel_rfl) (fun _ => by kernel_rfl) ?_
   refine T.pure (.bool (decide ((p0.pages.length : Int) ≤ p1))) (by kernel_rfl) (fun _ => by kernel_rfl) ?_
   refine T.nil ?_
   exact fun a w' hf hh => And.intro (((Fr.nil hf).pick hf 15 rfl).pick hf 2 rfl) (hh.sub (.cons _ List.Sublist.slnil))
  ·
   skip
   refine T.pass (by kernel_rfl) (by kernel_rfl) ?_
   refine T.pass (by kernel_rfl) (by kernel_rfl) ?_
   refine T.pass (by kernel_rfl) (by kernel_rfl) ?_
   refine T.pass (by kernel_rfl) (by kernel_rfl) ?_
   refine T.pass (by kernel_rfl) (by kernel_rfl) ?_
   refine T.pure (.bool true) (by kernel_rfl) (fun _ => by kernel_rfl) ?_
   refine T.nil ?_
   exact fun a w' hf hh => And.intro (((Fr.nil hf).pick hf 15 rfl).pick hf 2 rfl) (hh.sub (.cons _ List.Sublist.slnil))
 ·
  rintro a w' ⟨hf, hh⟩
  refine (?_ : T 19 w (vw w) [] [(2, .string p2), (15, .bool ((decide (p1 < 0)) || (decide ((p0.pages.length : Int) ≤ p1))))] _) a w' hf hh
  clear hf hh
  refine T.cond ((decide (p1 < 0)) || (decide ((p0.pages.length : Int) ≤ p1))) (by kernel_rfl) (by kernel_rfl) (fun hc1 => ?_) (fun hc1 => ?_)
  ·
   rw [hc1, cond_true] at hF
   refine T.seq ?_
   refine T.region ?_
   refine T.pure (.int .i64 1) (by kernel_rfl) (fun _ => by kernel_rfl) ?_
   refine T.nil ?_
   cases hF
   refine T.ret rfl ?_
   exact T.ret1 rfl (ResIs.tmp rfl) fun w' hh => ⟨_, rfl, hh.below, (show _ from rfl)⟩
  ·
   rw [hc1, cond_false] at hF
   refine T.skip_code ?_
   refine T.seq ?_
   refine T.seq ?_
   refine T.region ?_
   refine T.pure (.string p2) (by kernel_rfl) (fun _ => by kernel_rfl) ?_
   refine T.pure (.int .i64 (p2.size : Int)) (by kernel_rfl) (fun _ => by kernel_rfl) ?_
   refine T.pure (.bool (decide ((3500 : Int) < (p2.size : Int)))) (by kernel_rfl) (fun _ => by kernel_rfl) ?_
   refine T.nil ?_
   refine T.cond (decide ((3500 : Int) < (p2.size : Int))) (by kernel_rfl) (by kernel_rfl) (fun hc2 => ?_) (fun hc2 => ?_)
   ·
    rw [hc2, cond_true] at hF
    refine T.seq ?_
    refine T.region ?_
    refine T.pure (.int .i64 2) (by kernel_rfl) (fun _ => by kernel_rfl) ?_
    refine T.nil ?_
    cases hF
    refine T.ret rfl ?_
    exact T.ret1 rfl (ResIs.tmp rfl) fun w' hh => ⟨_, rfl, hh.below, (show _ from rfl)⟩
   ·
    rw [hc2, cond_false] at hF
    refine T.skip_code ?_
    refine T.seq ?_
    refine T.region ?_
    refine T.pure (.int .i64 0) (by kernel_rfl) (fun _ => by kernel_rfl) ?_
    refine T.nil ?_
    cases hF
    refine T.ret rfl ?_
    exact T.ret1 rfl (ResIs.tmp rfl) fun w' hh => ⟨_, rfl, hh.below, (show _ from rfl)⟩

set_option maxRecDepth 100000 in
set_option maxHeartbeats 4000000 in
theorem disk_Check_l (F : Nat) (p0 : DDisk) (r : Int) (hF : disk_Check F p0 = some r) (w : World) (A1 : Option Addr) (c1 : Nat) (hs1 : SlOk (vw w) eStr A1 c1 p0.pages) (A2 : Option Addr) (c2 : Nat) (hs2 : SlOk (vw w) eWrite A2 c2 p0.writes) :
    Calls Try.prog 21 #[.agg #[.slice A1 p0.pages.length c1, .slice A2 p0.writes.length c2]] w (Post (vSc eInt) r w) := by
 unfold disk_Check at hF
 refine T.start (l := [.agg #[.slice A1 p0.pages.length c1, .slice A2 p0.writes.length c2]]) Try.func21 rfl rfl rfl ?_
 refine T.seq ?_
 refine T.region ?_
 refine T.step (W1.new 25 [.slice A1 p0.pages.length c1, .slice A2 p0.writes.length c2] (fun b => .pointer (some ⟨b, 0, none⟩)) (by kernel_rfl) (fun _ => by kernel_rfl) (fun b1 => ?_))
 refine T.pure (.int .i64 0) (by kernel_rfl) (fun _ => by kernel_rfl) ?_
 refine T.nil ?_
 refine T.seq ?_
 refine T.cut (fun a w' => Fr 46 [(1, .pointer (some ⟨b1, 0, none⟩)), (17, .bool ((decide ((201 : Int) < (p0.pages.length : Int))) || (decide ((400 : Int) < (p0.writes.length : Int)))))] a ∧ Hp w (vw w) [box b1 25 [.slice A1 p0.pages.length c1, .slice A2 p0.writes.length c2]] w') ?_ ?_
 ·
  refine T.region ?_
  refine T.pure (.pointer (some ⟨b1, 0, none⟩)) (by kernel_rfl) (fun _ => by kernel_rfl) ?_
  refine T.look (.slice A1 p0.pages.length c1) (by kernel_rfl) (fun w' hh => exec_load1 rfl rfl (by kernel_rfl) (hh.cellBox (i := 0) (by rfl) 0)) ?_
  refine T.pure (.int .i64 (p0.pages.length : Int)) (by kernel_rfl) (fun _ => by kernel_rfl) ?_
  refine T.pure (.bool (decide ((201 : Int) < (p0.pages.length : Int)))) (by kernel_rfl) (fun _ => by kernel_rfl) ?_
  refine T.pure (.bool (decide ((201 : Int) < (p0.pages.length : Int)))) (by kernel_rfl) (fun _ => by kernel_rfl) ?_
  cases hg1 : decide ((201 : Int) < (p0.pages.length : Int))
  ·
   skip
   refine T.pure (.pointer (some ⟨b1, 1, none⟩)) (by kernel_rfl) (fun _ => by kernel_rfl) ?_
   refine T.look (.slice A2 p0.writes.length c2) (by kernel_rfl) (fun w' hh => exec_load1 rfl rfl (by kernel_rfl) (hh.cellBox (i := 0) (by rfl) 1)) ?_
   refine T.pure (.int .i64 (p0.writes.length : Int)) (by kernel_rfl) (fun _ => by kernel_rfl) ?_
   refine T.pure (.bool (decide ((400 : Int) < (p0.writes.length : Int)))) (by kernel_rfl) (fun _ => by kernel_rfl) ?_
   refine T.pure (.bool (decide ((400 : Int) < (p0.writes.length : Int)))) (by kernel_rfl) (fun _ => by kernel_rfl) ?_
   refine T.nil ?_
   exact fun a w' hf hh => And.intro (((Fr.nil hf).pick hf 17 rfl).pick hf 1 rfl) (hh.sub (.cons_cons _ List.Sublist.slnil))
  ·
   skip
   refine T.pass (by kernel_rfl) (by kernel_rfl) ?_
   refine T.pass (by kernel_rfl) (by kernel_rfl) ?_
   refine T.pass (by kernel_rfl) (by kernel_rfl) ?_
   refine T.pass (by kernel_rfl) (by kernel_rfl) ?_
   refine T.pure (.bool true) (by kernel_rfl) (fun _ => by kernel_rfl) ?_
   refine T.nil ?_
   exact fun a w' hf hh => And.intro (((Fr.nil hf).pick hf 17 rfl).pick hf 1 rfl) (hh.sub (.cons_cons _ List.Sublist.slnil))
 ·
  rintro a w' ⟨hf, hh⟩
  refine (?_ : T 46 w (vw w) [box b1 25 [.slice A1 p0.pages.length c1, .slice A2 p0.writes.length c2]] [(1, .pointer (some ⟨b1, 0, none⟩)), (17, .bool ((decide ((201 : Int) < (p0.pages.length : Int))) || (decide ((400 : Int) < (p0.writes.length : Int)))))] _) a w' hf hh
  clear hf hh
  refine T.cond ((decide ((201 : Int) < (p0.pages.length : Int))) || (decide ((400 : Int) < (p0.writes.length : Int)))) (by kernel_rfl) (by kernel_rfl) (fun hc1 => ?_) (fun hc1 => ?_)
  ·
   rw [hc1, cond_true] at hF
   refine T.seq ?_
   refine T.region ?_
   refine T.pure (.int .i64 2) (by kernel_rfl) (fun _ => by kernel_rfl) ?_
   refine T.nil ?_
   cases hF
   refine T.ret rfl ?_
   exact T.ret1 rfl (ResIs.tmp rfl) fun w' hh => ⟨_, rfl, hh.below, (show _ from rfl)⟩
  ·
   rw [hc1, cond_false] at hF
   refine T.skip_code ?_
   refine T.seq ?_
   refine T.seq ?_
   refine T.region ?_
   refine T.pure (.pointer (some ⟨b1, 0, none⟩)) (by kernel_rfl) (fun _ => by kernel_rfl) ?_
   refine T.look (.slice A1 p0.pages.length c1) (by kernel_rfl) (fun w' hh => exec_load1 rfl rfl (by kernel_rfl) (hh.cellBox (i := 0) (by rfl) 0)) ?_
   refine T.pure (.int .i64 (p0.pages.length : Int)) (by kernel_rfl) (fun _ => by kernel_rfl) ?_
   refine T.pure (.int .i64 0) (by kernel_rfl) (fun _ => by kernel_rfl) ?_
   refine T.nil ?_
   obtain ⟨q1, hz1, hF⟩ := Option.bind_eq_some_iff.1 hF
   refine T.mid (fun a w' => q1 = Sum.inl () ∧ Fr 46 [(1, .pointer (some ⟨b1, 0, none⟩))] a ∧ Hp w (vw w) [box b1 25 [.slice A1 p0.pages.length c1, .slice A2 p0.writes.length c2]] w') ?_ ?_
   ·
    refine T.block ?_
    refine T.iter (fun x1 a w' => Fr 46 [(1, .pointer (some ⟨b1, 0, none⟩)), (19, .slice A1 p0.pages.length c1), (20, .int .i64 (p0.pages.length : Int)), (21, .int .i64 x1)] a ∧ Hp w (vw w) [box b1 25 [.slice A1 p0.pages.length c1, .slice A2 p0.writes.length c2]] w') hz1 ?_ ?_
    ·
     exact fun a w' hf hh => And.intro (((((Fr.nil hf).pick hf 21 rfl).pick hf 20 rfl).pick hf 19 rfl).pick hf 1 rfl) (hh.sub (.cons_cons _ List.Sublist.slnil))
    ·
     rintro x1 y1 hY1 hr1 a w' ⟨hf, hh⟩
     refine (?_ : T 46 w (vw w) [box b1 25 [.slice A1 p0.pages.length c1, .slice A2 p0.writes.length c2]] [(1, .pointer (some ⟨b1, 0, none⟩)), (19, .slice A1 p0.pages.length c1), (20, .int .i64 (p0.pages.length : Int)), (21, .int .i64 x1)] _) a w' hf hh
     clear hf hh
     try dsimp only at hY1
     refine T.seq ?_
     refine T.region ?_
     refine T.pure (.bool (decide (x1 < (p0.pages.length : Int)))) (by kernel_rfl) (fun _ => by kernel_rfl) ?_
     refine T.nil ?_
     refine T.seq ?_
     refine T.cond (decide (x1 < (p0.pages.length : Int))) (by kernel_rfl) (by kernel_rfl) (fun hc2 => ?_) (fun hc2 => ?_)
     ·
      rw [hc2, cond_true] at hY1
      refine T.skip_code ?_
      refine T.seq ?_
      refine T.block ?_
      refine T.seq ?_
      refine T.region ?_
      obtain ⟨e1, hb1, hY1⟩ := Option.bind_eq_some_iff.1 hY1
      obtain ⟨hi1, hi2, hi3⟩ := idx_some hb1
      refine T.look (.pointer (some ((sadr A1).add (x1.toNat * 1)))) (by kernel_rfl) (fun w' hh => exec_indexAddr (e := 9) (s := 1) rfl rfl rfl (by kernel_rfl) (by kernel_rfl) hi1 hi2 (hs1.some_ hi3 (by decide))) ?_
      refine T.look (.string e1) (by kernel_rfl) (fun w' hh => exec_load1 rfl rfl (by kernel_rfl) (hh.cell_view (SlOk.cellF0 (E := eStr) hs1 hi3 (fun _ _ _ h => h) rfl))) ?_
      refine T.pure (.string e1) (by kernel_rfl) (fun _ => by kernel_rfl) ?_
      refine T.nil ?_
      refine T.seq ?_
      refine T.region ?_
      refine T.pure (.string e1) (by kernel_rfl) (fun _ => by kernel_rfl) ?_
      refine T.pure (.int .i64 (e1.size : Int)) (by kernel_rfl) (fun _ => by kernel_rfl) ?_
      refine T.pure (.bool (decide ((3500 : Int) < (e1.size : Int)))) (by kernel_rfl) (fun _ => by kernel_rfl) ?_
      refine T.nil ?_
      refine T.cond (decide ((3500 : Int) < (e1.size : Int))) (by kernel_rfl) (by kernel_rfl) (fun hc3 => ?_) (fun hc3 => ?_)
      ·
       rw [hc3, cond_true] at hY1
       refine T.seq ?_
       refine T.region ?_
       refine T.pure (.int .i64 2) (by kernel_rfl) (fun _ => by kernel_rfl) ?_
       refine T.nil ?_
       cases hY1
       cases (hr1 _ rfl)
       try dsimp only at hF
       cases hF
       refine T.ret rfl ?_
       exact T.ret1 rfl (ResIs.tmp rfl) fun w' hh => ⟨_, rfl, hh.below, (show _ from rfl)⟩
      ·
       rw [hc3, cond_false] at hY1
       refine T.skip_code ?_
       refine T.region ?_
       refine T.pure (.int .i64 (IntKind.i64.wrap (x1 + 1))) (by kernel_rfl) (fun _ => by kernel_rfl) ?_
       refine T.pure (.int .i64 (IntKind.i64.wrap (x1 + 1))) (by kernel_rfl) (fun _ => by kernel_rfl) ?_
       refine T.nil ?_
       cases hY1
       exact fun a w' hf hh => Exists.intro (IntKind.i64.wrap (x1 + 1)) (And.intro rfl (And.intro (((((Fr.nil hf).pick hf 21 rfl).pick hf 20 rfl).pick hf 19 rfl).pick hf 1 rfl) (hh.sub (.cons_cons _ List.Sublist.slnil))))
     ·
      rw [hc2, cond_false] at hY1
      refine T.exit ?_
      cases hY1
      cases (hr1 _ rfl)
      exact fun a w' hf hh => And.intro rfl (And.intro ((Fr.nil hf).pick hf 1 rfl) (hh.sub (.cons_cons _ List.Sublist.slnil)))
   ·
    rintro a w' ⟨rfl, hf, hh⟩
    try dsimp only at hF
    refine (?_ : T 46 w (vw w) [box b1 25 [.slice A1 p0.pages.length c1, .slice A2 p0.writes.length c2]] [(1, .pointer (some ⟨b1, 0, none⟩))] _) a w' hf hh
    clear hf hh
    refine T.seq ?_
    refine T.seq ?_
    refine T.region ?_
    refine T.pure (.pointer (some ⟨b1, 1, none⟩)) (by kernel_rfl) (fun _ => by kernel_rfl) ?_
    refine T.look (.slice A2 p0.writes.length c2) (by kernel_rfl) (fun w' hh => exec_load1 rfl rfl (by kernel_rfl) (hh.cellBox (i := 0) (by rfl) 1)) ?_
    refine T.pure (.int .i64 (p0.writes.length : Int)) (by kernel_rfl) (fun _ => by kernel_rfl) ?_
    refine T.pure (.int .i64 0) (by kernel_rfl) (fun _ => by kernel_rfl) ?_
    refine T.nil ?_
    obtain ⟨q2, hz2, hF⟩ := Option.bind_eq_some_iff.1 hF
    refine T.mid (fun a w' => q2 = Sum.inl () ∧ ∃ (V2 : View), View.le (vw w) V2 ∧ Fr 46 [] a ∧ Hp w V2 [] w') ?_ ?_
    ·
     refine T.block ?_
     refine T.iter (fun x2 a w' => ∃ (V1 : View), View.le (vw w) V1 ∧ Fr 46 [(1, .pointer (some ⟨b1, 0, none⟩)), (30, .slice A2 p0.writes.length c2), (31, .int .i64 (p0.writes.length : Int)), (32, .int .i64 x2)] a ∧ Hp w V1 [box b1 25 [.slice A1 p0.pages.length c1, .slice A2 p0.writes.length c2]] w') hz2 ?_ ?_
     ·
      exact fun a w' hf hh => Exists.intro (vw w) (And.intro (View.le_refl _) (And.intro (((((Fr.nil hf).pick hf 32 rfl).pick hf 31 rfl).pick hf 30 rfl).pick hf 1 rfl) (hh.sub (.cons_cons _ List.Sublist.slnil))))
     ·
      rintro x2 y2 hY2 hr2 a w' ⟨V1, hV1, hf, hh⟩
      refine (?_ : T 46 w V1 [box b1 25 [.slice A1 p0.pages.length c1, .slice A2 p0.writes.length c2]] [(1, .pointer (some ⟨b1, 0, none⟩)), (30, .slice A2 p0.writes.length c2), (31, .int .i64 (p0.writes.length : Int)), (32, .int .i64 x2)] _) a w' hf hh
      clear hf hh
      try dsimp only at hY2
      refine T.seq ?_
      refine T.region ?_
      refine T.pure (.bool (decide (x2 < (p0.writes.length : Int)))) (by kernel_rfl) (fun _ => by kernel_rfl) ?_
      refine T.nil ?_
      refine T.seq ?_
      refine T.cond (decide (x2 < (p0.writes.length : Int))) (by kernel_rfl) (by kernel_rfl) (fun hc4 => ?_) (fun hc4 => ?_)
      ·
       rw [hc4, cond_true] at hY2
       refine T.skip_code ?_
       refine T.seq ?_
       refine T.block ?_
       refine T.seq ?_
       refine T.region ?_
       obtain ⟨e2, hb2, hY2⟩ := Option.bind_eq_some_iff.1 hY2
       obtain ⟨hi4, hi5, hi6⟩ := idx_some hb2
       refine T.look (.pointer (some ((sadr A2).add (x2.toNat * 2)))) (by kernel_rfl) (fun w' hh => exec_indexAddr (e := 29) (s := 2) rfl rfl rfl (by kernel_rfl) (by kernel_rfl) hi4 hi5 ((SlOk.mono hs2 hV1).some_ hi6 (by decide))) ?_
       refine T.look (.agg #[.int .i64 e2.page, .string e2.text]) (by kernel_rfl) (fun w' hh => exec_loadN (cs := [.int .i64 e2.page, .string e2.text]) rfl rfl (by kernel_rfl) (by kernel_rfl) (fun j u hj => (hh.cell_view (SlOk.cellF (E := eWrite) (SlOk.mono hs2 hV1) hi6 j (fun _ _ _ h => h) hj)))) ?_
       refine T.step (W1.new 29 [.int .i64 0, .string (ByteArray.mk #[])] (fun b => .pointer (some ⟨b, 0, none⟩)) (by kernel_rfl) (fun _ => by kernel_rfl) (fun b2 => ?_))
       refine T.step (W1.store 0 [.int .i64 e2.page, .string e2.text] [box b2 29 [.int .i64 e2.page, .string e2.text], box b1 25 [.slice A1 p0.pages.length c1, .slice A2 p0.writes.length c2]] (by rfl) rfl (by kernel_rfl) (fun w' hw => exec_store (vs := [.int .i64 e2.page, .string e2.text]) rfl rfl rfl rfl (by kernel_rfl) (one_of rfl) (by simp) rfl hw) ?_)
       refine T.nil ?_
       refine T.seq ?_
       refine T.region ?_
       refine T.look (.agg #[.slice A1 p0.pages.length c1, .slice A2 p0.writes.length c2]) (by kernel_rfl) (fun w' hh => exec_loadN (cs := [.slice A1 p0.pages.length c1, .slice A2 p0.writes.length c2]) rfl rfl (by kernel_rfl) (by kernel_rfl) (fun j u hj => (hh.box_at (i := 1) (cs := [.slice A1 p0.pages.length c1, .slice A2 p0.writes.length c2]) (by rfl) 0 j).trans (seg_at (n := 2) (by rfl) hj))) ?_
       refine T.pure (.pointer (some ⟨b2, 0, none⟩)) (by kernel_rfl) (fun _ => by kernel_rfl) ?_
       refine T.look (.int .i64 e2.page) (by kernel_rfl) (fun w' hh => exec_load1 rfl rfl (by kernel_rfl) (hh.cellBox (i := 0) (by rfl) 0)) ?_
       refine T.pure (.pointer (some ⟨b2, 1, none⟩)) (by kernel_rfl) (fun _ => by kernel_rfl) ?_
       refine T.look (.string e2.text) (by kernel_rfl) (fun w' hh => exec_load1 rfl rfl (by kernel_rfl) (hh.cellBox (i := 0) (by rfl) 1)) ?_
       obtain ⟨r1, hb3, hY2⟩ := Option.bind_eq_some_iff.1 hY2
       refine T.step (W1.call (vSc eInt) r1 22 #[.agg #[.slice A1 p0.pages.length c1, .slice A2 p0.writes.length c2], .int .i64 e2.page, .string e2.text] (by kernel_rfl) (fun _ => by kernel_rfl) (fun w' hh => disk_one_l p0 e2.page e2.text r1 hb3 w' A1 c1 (SlOk.mono (SlOk.mono hs1 hV1) hh.view) A2 c2 (SlOk.mono (SlOk.mono hs2 hV1) hh.view)) ?_)
       intro u V3 hV3 hu
       obtain rfl := sureInt _ _ _ hu
       refine T.pure (.int .i64 r1) (by kernel_rfl) (fun _ => by kernel_rfl) ?_
       refine T.nil ?_
       refine T.seq ?_
       refine T.region ?_
       refine T.pure (.int .i64 r1) (by kernel_rfl) (fun _ => by kernel_rfl) ?_
       refine T.pure (.bool (r1 != 0)) (by kernel_rfl) (fun _ => by kernel_rfl) ?_
       refine T.nil ?_
       refine T.cond (r1 != 0) (by kernel_rfl) (by kernel_rfl) (fun hc5 => ?_) (fun hc5 => ?_)
       ·
        rw [hc5, cond_true] at hY2
        refine T.seq ?_
        refine T.region ?_
        refine T.pure (.int .i64 r1) (by kernel_rfl) (fun _ => by kernel_rfl) ?_
        refine T.pure (.int .i64 r1) (by kernel_rfl) (fun _ => by kernel_rfl) ?_
        refine T.nil ?_
        cases hY2
        cases (hr2 _ rfl)
        try dsimp only at hF
        cases hF
        refine T.ret rfl ?_
        exact T.ret1 rfl (ResIs.tmp rfl) fun w' hh => ⟨_, rfl, hh.below, (show _ from rfl)⟩
       ·
        rw [hc5, cond_false] at hY2
        refine T.skip_code ?_
        refine T.region ?_
        refine T.pure (.int .i64 (IntKind.i64.wrap (x2 + 1))) (by kernel_rfl) (fun _ => by kernel_rfl) ?_
        refine T.pure (.int .i64 (IntKind.i64.wrap (x2 + 1))) (by kernel_rfl) (fun _ => by kernel_rfl) ?_
        refine T.nil ?_
        cases hY2
        exact fun a w' hf hh => Exists.intro (IntKind.i64.wrap (x2 + 1)) (And.intro rfl (Exists.intro V3 (And.intro (View.le_trans hV1 hV3) (And.intro (((((Fr.nil hf).pick hf 32 rfl).pick hf 31 rfl).pick hf 30 rfl).pick hf 1 rfl) (hh.sub (.cons _ (.cons_cons _ List.Sublist.slnil)))))))
      ·
       rw [hc4, cond_false] at hY2
       refine T.exit ?_
       cases hY2
       cases (hr2 _ rfl)
       exact fun a w' hf hh => And.intro rfl (Exists.intro V1 (And.intro hV1 (And.intro (Fr.nil hf) (hh.sub (.cons _ List.Sublist.slnil)))))
    ·
     rintro a w' ⟨rfl, V2, hV2, hf, hh⟩
     try dsimp only at hF
     refine (?_ : T 46 w V2 [] [] _) a w' hf hh
     clear hf hh
     refine T.seq ?_
     refine T.region ?_
     refine T.pure (.int .i64 0) (by kernel_rfl) (fun _ => by kernel_rfl) ?_
     refine T.nil ?_
     cases hF
     refine T.ret rfl ?_
     exact T.ret1 rfl (ResIs.tmp rfl) fun w' hh => ⟨_, rfl, hh.below, (show _ from rfl)⟩

set_option maxRecDepth 100000 in
set_option maxHeartbeats 4000000 in
theorem disk_Seen_l (F : Nat) (p0 : DDisk) (p1 : Int) (r : ByteArray) (hF : disk_Seen F p0 p1 = some r) (w : World) (A1 : Option Addr) (c1 : Nat) (hs1 : SlOk (vw w) eStr A1 c1 p0.pages) (A2 : Option Addr) (c2 : Nat) (hs2 : SlOk (vw w) eWrite A2 c2 p0.writes) :
    Calls Try.prog 31 #[.agg #[.slice A1 p0.pages.length c1, .slice A2 p0.writes.length c2], .int .i64 p1] w (Post (vSc eStr) r w) := by
 unfold disk_Seen at hF
 refine T.start (l := [.agg #[.slice A1 p0.pages.length c1, .slice A2 p0.writes.length c2], .int .i64 p1]) Try.func31 rfl rfl rfl ?_
 refine T.seq ?_
 refine T.region ?_
 refine T.step (W1.new 25 [.slice A1 p0.pages.length c1, .slice A2 p0.writes.length c2] (fun b => .pointer (some ⟨b, 0, none⟩)) (by kernel_rfl) (fun _ => by kernel_rfl) (fun b1 => ?_))
 refine T.pure (.string (ByteArray.mk #[])) (by kernel_rfl) (fun _ => by kernel_rfl) ?_
 refine T.nil ?_
 refine T.seq ?_
 refine T.seq ?_
 refine T.region ?_
 refine T.pure (.pointer (some ⟨b1, 1, none⟩)) (by kernel_rfl) (fun _ => by kernel_rfl) ?_
 refine T.look (.slice A2 p0.writes.length c2) (by kernel_rfl) (fun w' hh => exec_load1 rfl rfl (by kernel_rfl) (hh.cellBox (i := 0) (by rfl) 1)) ?_
 refine T.pure (.int .i64 (p0.writes.length : Int)) (by kernel_rfl) (fun _ => by kernel_rfl) ?_
 refine T.pure (.int .i64 (IntKind.i64.wrap ((p0.writes.length : Int) - 1))) (by kernel_rfl) (fun _ => by kernel_rfl) ?_
 refine T.pure (.int .i64 (IntKind.i64.wrap ((p0.writes.length : Int) - 1))) (by kernel_rfl) (fun _ => by kernel_rfl) ?_
 refine T.nil ?_
 obtain ⟨q1, hz1, hF⟩ := Option.bind_eq_some_iff.1 hF
 refine T.mid (fun a w' => q1 = Sum.inl () ∧ Fr 33 [(1, .int .i64 p1), (2, .pointer (some ⟨b1, 0, none⟩))] a ∧ Hp w (vw w) [box b1 25 [.slice A1 p0.pages.length c1, .slice A2 p0.writes.length c2]] w') ?_ ?_
 ·
  refine T.block ?_
  refine T.iter (fun x1 a w' => Fr 33 [(1, .int .i64 p1), (2, .pointer (some ⟨b1, 0, none⟩)), (5, .int .i64 x1)] a ∧ Hp w (vw w) [box b1 25 [.slice A1 p0.pages.length c1, .slice A2 p0.writes.length c2]] w') hz1 ?_ ?_
  ·
   exact fun a w' hf hh => And.intro ((((Fr.nil hf).pick hf 5 rfl).pick hf 2 rfl).pick hf 1 rfl) (hh.sub (.cons_cons _ List.Sublist.slnil))
  ·
   rintro x1 y1 hY1 hr1 a w' ⟨hf, hh⟩
   refine (?_ : T 33 w (vw w) [box b1 25 [.slice A1 p0.pages.length c1, .slice A2 p0.writes.length c2]] [(1, .int .i64 p1), (2, .pointer (some ⟨b1, 0, none⟩)), (5, .int .i64 x1)] _) a w' hf hh
   clear hf hh
   try dsimp only at hY1
   refine T.seq ?_
   refine T.seq ?_
   refine T.region ?_
   refine T.pure (.int .i64 x1) (by kernel_rfl) (fun _ => by kernel_rfl) ?_
   refine T.pure (.bool (decide ((0 : Int) ≤ x1))) (by kernel_rfl) (fun _ => by kernel_rfl) ?_
   refine T.nil ?_
   refine T.cond (decide ((0 : Int) ≤ x1)) (by kernel_rfl) (by kernel_rfl) (fun hc1 => ?_) (fun hc1 => ?_)
   ·
    rw [hc1, cond_true] at hY1
    refine T.skip_code ?_
    refine T.seq ?_
    refine T.block ?_
    refine T.seq ?_
    refine T.region ?_
    refine T.pure (.pointer (some ⟨b1, 1, none⟩)) (by kernel_rfl) (fun _ => by kernel_rfl) ?_
    refine T.look (.slice A2 p0.writes.length c2) (by kernel_rfl) (fun w' hh => exec_load1 rfl rfl (by kernel_rfl) (hh.cellBox (i := 0) (by rfl) 1)) ?_
    refine T.pure (.int .i64 x1) (by kernel_rfl) (fun _ => by kernel_rfl) ?_
    obtain ⟨e1, hb1, hY1⟩ := Option.bind_eq_some_iff.1 hY1
    obtain ⟨hi1, hi2, hi3⟩ := idx_some hb1
    refine T.look (.pointer (some ((sadr A2).add (x1.toNat * 2)))) (by kernel_rfl) (fun w' hh => exec_indexAddr (e := 29) (s := 2) rfl rfl rfl (by kernel_rfl) (by kernel_rfl) hi1 hi2 (hs2.some_ hi3 (by decide))) ?_
    refine T.pure (.pointer (some ((sadr A2).add (x1.toNat * 2)))) (by kernel_rfl) (fun _ => by kernel_rfl) ?_
    refine T.look (.int .i64 e1.page) (by kernel_rfl) (fun w' hh => exec_load1 rfl rfl (by kernel_rfl) (hh.cell_view (SlOk.cellF0 (E := eWrite) hs2 hi3 (fun _ _ _ h => h) rfl))) ?_
    refine T.pure (.int .i64 p1) (by kernel_rfl) (fun _ => by kernel_rfl) ?_
    refine T.pure (.bool (e1.page == p1)) (by kernel_rfl) (fun _ => by kernel_rfl) ?_
    refine T.nil ?_
    refine T.cond (e1.page == p1) (by kernel_rfl) (by kernel_rfl) (fun hc2 => ?_) (fun hc2 => ?_)
    ·
     rw [hc2, cond_true] at hY1
     refine T.seq ?_
     refine T.region ?_
     refine T.pure (.pointer (some ⟨b1, 1, none⟩)) (by kernel_rfl) (fun _ => by kernel_rfl) ?_
     refine T.look (.slice A2 p0.writes.length c2) (by kernel_rfl) (fun w' hh => exec_load1 rfl rfl (by kernel_rfl) (hh.cellBox (i := 0) (by rfl) 1)) ?_
     refine T.pure (.int .i64 x1) (by kernel_rfl) (fun _ => by kernel_rfl) ?_
     obtain ⟨e2, hb2, hY1⟩ := Option.bind_eq_some_iff.1 hY1
     obtain ⟨hi4, hi5, hi6⟩ := idx_some hb2
     refine T.look (.pointer (some ((sadr A2).add (x1.toNat * 2)))) (by kernel_rfl) (fun w' hh => exec_indexAddr (e := 29) (s := 2) rfl rfl rfl (by kernel_rfl) (by kernel_rfl) hi4 hi5 (hs2.some_ hi6 (by decide))) ?_
     refine T.pure (.pointer (some (((sadr A2).add (x1.toNat * 2)).add 1))) (by kernel_rfl) (fun _ => by kernel_rfl) ?_
     refine T.look (.string e2.text) (by kernel_rfl) (fun w' hh => exec_load1 rfl rfl (by kernel_rfl) (hh.cell_view (SlOk.cellF (E := eWrite) hs2 hi6 1 (fun _ _ _ h => h) rfl))) ?_
     refine T.pure (.string e2.text) (by kernel_rfl) (fun _ => by kernel_rfl) ?_
     refine T.nil ?_
     cases hY1
     cases (hr1 _ rfl)
     try dsimp only at hF
     cases hF
     refine T.ret rfl ?_
     exact T.ret1 rfl (ResIs.tmp rfl) fun w' hh => ⟨_, rfl, hh.below, (show _ from rfl)⟩
    ·
     rw [hc2, cond_false] at hY1
     refine T.skip_code ?_
     refine T.region ?_
     refine T.pure (.int .i64 x1) (by kernel_rfl) (fun _ => by kernel_rfl) ?_
     refine T.pure (.int .i64 (IntKind.i64.wrap (x1 - 1))) (by kernel_rfl) (fun _ => by kernel_rfl) ?_
     refine T.pure (.int .i64 (IntKind.i64.wrap (x1 - 1))) (by kernel_rfl) (fun _ => by kernel_rfl) ?_
     refine T.nil ?_
     cases hY1
     exact fun a w' hf hh => Exists.intro (IntKind.i64.wrap (x1 - 1)) (And.intro rfl (And.intro ((((Fr.nil hf).pick hf 5 rfl).pick hf 2 rfl).pick hf 1 rfl) (hh.sub (.cons_cons _ List.Sublist.slnil))))
   ·
    rw [hc1, cond_false] at hY1
    refine T.exit ?_
    cases hY1
    cases (hr1 _ rfl)
    exact fun a w' hf hh => And.intro rfl (And.intro (((Fr.nil hf).pick hf 2 rfl).pick hf 1 rfl) (hh.sub (.cons_cons _ List.Sublist.slnil)))
 ·
  rintro a w' ⟨rfl, hf, hh⟩
  try dsimp only at hF
  refine (?_ : T 33 w (vw w) [box b1 25 [.slice A1 p0.pages.length c1, .slice A2 p0.writes.length c2]] [(1, .int .i64 p1), (2, .pointer (some ⟨b1, 0, none⟩))] _) a w' hf hh
  clear hf hh
  refine T.seq ?_
  refine T.region ?_
  refine T.pure (.pointer (some ⟨b1, 0, none⟩)) (by kernel_rfl) (fun _ => by kernel_rfl) ?_
  refine T.look (.slice A1 p0.pages.length c1) (by kernel_rfl) (fun w' hh => exec_load1 rfl rfl (by kernel_rfl) (hh.cellBox (i := 0) (by rfl) 0)) ?_
  refine T.pure (.int .i64 p1) (by kernel_rfl) (fun _ => by kernel_rfl) ?_
  obtain ⟨e3, hb3, hF⟩ := Option.bind_eq_some_iff.1 hF
  obtain ⟨hi7, hi8, hi9⟩ := idx_some hb3
  refine T.look (.pointer (some ((sadr A1).add (p1.toNat * 1)))) (by kernel_rfl) (fun w' hh => exec_indexAddr (e := 9) (s := 1) rfl rfl rfl (by kernel_rfl) (by kernel_rfl) hi7 hi8 (hs1.some_ hi9 (by decide))) ?_
  refine T.look (.string e3) (by kernel_rfl) (fun w' hh => exec_load1 rfl rfl (by kernel_rfl) (hh.cell_view (SlOk.cellF0 (E := eStr) hs1 hi9 (fun _ _ _ h => h) rfl))) ?_
  refine T.pure (.string e3) (by kernel_rfl) (fun _ => by kernel_rfl) ?_
  refine T.nil ?_
  cases hF
  refine T.ret rfl ?_
  exact T.ret1 rfl (ResIs.tmp rfl) fun w' hh => ⟨_, rfl, hh.below, (show _ from rfl)⟩

set_option maxRecDepth 100000 in
set_option maxHeartbeats 4000000 in
theorem disk_Put_l (F : Nat) (p0 : DDisk) (p1 : Int) (p2 : ByteArray) (r : DDisk × Int) (hF : disk_Put F p0 p1 p2 = some r) (w : World) (A1 : Option Addr) (c1 : Nat) (hs1 : SlOk (vw w) eStr A1 c1 p0.pages) (A2 : Option Addr) (c2 : Nat) (hs2 : SlOk (vw w) eWrite A2 c2 p0.writes) :
    Calls Try.prog 6 #[.agg #[.slice A1 p0.pages.length c1, .slice A2 p0.writes.length c2], .int .i64 p1, .string p2] w (fun e w' => ∃ p : Option Addr × Nat × Option Addr × Nat, e = .returned (.tuple #[.agg #[.slice p.1 r.1.pages.length p.2.1, .slice p.2.2.1 r.1.writes.length p.2.2.2], .int .i64 r.2]) ∧ True ∧ Gives w w' [row 9 eStr p.1 p.2.1 r.1.pages, row 29 eWrite p.2.2.1 p.2.2.2 r.1.writes]) := by
 unfold disk_Put at hF
 refine T.start (l := [.agg #[.slice A1 p0.pages.length c1, .slice A2 p0.writes.length c2], .int .i64 p1, .string p2]) Try.func6 rfl rfl rfl ?_
 refine T.seq ?_
 refine T.region ?_
 refine T.step (W1.new 25 [.slice A1 p0.pages.length c1, .slice A2 p0.writes.length c2] (fun b => .pointer (some ⟨b, 0, none⟩)) (by kernel_rfl) (fun _ => by kernel_rfl) (fun b1 => ?_))
 refine T.step (W1.new 25 [.slice none 0 0, .slice none 0 0] (fun b => .pointer (some ⟨b, 0, none⟩)) (by kernel_rfl) (fun _ => by kernel_rfl) (fun b2 => ?_))
 refine T.pure (.int .i64 0) (by kernel_rfl) (fun _ => by kernel_rfl) ?_
 refine T.nil ?_
 refine T.seq ?_
 refine T.seq ?_
 refine T.region ?_
 refine T.look (.agg #[.slice A1 p0.pages.length c1, .slice A2 p0.writes.length c2]) (by kernel_rfl) (fun w' hh => exec_loadN (cs := [.slice A1 p0.pages.length c1, .slice A2 p0.writes.length c2]) rfl rfl (by kernel_rfl) (by kernel_rfl) (fun j u hj => (hh.box_at (i := 1) (cs := [.slice A1 p0.pages.length c1, .slice A2 p0.writes.length c2]) (by rfl) 0 j).trans (seg_at (n := 2) (by rfl) hj))) ?_
 obtain ⟨r1, hb1, hF⟩ := Option.bind_eq_some_iff.1 hF
 refine T.step (W1.call (vSc eInt) r1 21 #[.agg #[.slice A1 p0.pages.length c1, .slice A2 p0.writes.length c2]] (by kernel_rfl) (fun _ => by kernel_rfl) (fun w' hh => disk_Check_l F p0 r1 hb1 w' A1 c1 (SlOk.mono hs1 hh.view) A2 c2 (SlOk.mono hs2 hh.view)) ?_)
 intro u V1 hV1 hu
 obtain rfl := sureInt _ _ _ hu
 refine T.pure (.int .i64 r1) (by kernel_rfl) (fun _ => by kernel_rfl) ?_
 refine T.nil ?_
 refine T.seq ?_
 refine T.region ?_
 refine T.pure (.int .i64 r1) (by kernel_rfl) (fun _ => by kernel_rfl) ?_
 refine T.pure (.bool (r1 != 0)) (by kernel_rfl) (fun _ => by kernel_rfl) ?_
 refine T.nil ?_
 refine T.cond (r1 != 0) (by kernel_rfl) (by kernel_rfl) (fun hc1 => ?_) (fun hc1 => ?_)
 ·
  rw [hc1, cond_true] at hF
  refine T.seq ?_
  refine T.region ?_
  refine T.pure (.agg #[.slice none 0 0, .slice none 0 0]) (by kernel_rfl) (fun _ => by kernel_rfl) ?_
  refine T.pure (.int .i64 r1) (by kernel_rfl) (fun _ => by kernel_rfl) ?_
  refine T.step (W1.store 0 [.slice none 0 0, .slice none 0 0] [box b2 25 [.slice none 0 0, .slice none 0 0], box b1 25 [.slice A1 p0.pages.length c1, .slice A2 p0.writes.length c2]] (by rfl) rfl (by kernel_rfl) (fun w' hw => exec_store (vs := [.slice none 0 0, .slice none 0 0]) rfl rfl rfl rfl (by kernel_rfl) (one_of rfl) (by simp) rfl hw) ?_)
  refine T.pure (.int .i64 r1) (by kernel_rfl) (fun _ => by kernel_rfl) ?_
  refine T.nil ?_
  refine T.rownil 9 eStr ?_
  refine T.rownil 29 eWrite ?_
  cases hF
  refine T.ret rfl ?_
  first | exact T.ret2 rfl (ResIs.cellN 2 rfl (by rfl) (fun _ => by kernel_rfl) (fun _ => by kernel_rfl)) (ResIs.tmp rfl) fun w' hh => ⟨(none, 0, none, 0), rfl, trivial, gives_of (Hp.sub (H' := [row 9 eStr none 0 ([] : List ByteArray), row 29 eWrite none 0 ([] : List DWrite)]) (hh.perm (List.Perm.trans (List.Perm.swap _ _ _) (List.Perm.refl _))) (List.sublist_append_left _ _)) ⟨flat_row (fun _ _ _ _ h => h), flat_row (fun _ _ _ _ h => h), trivial⟩⟩ | (unfold Exit.then; dsimp only; exact T.ret2 rfl (ResIs.cellN 2 rfl (by rfl) (fun _ => by kernel_rfl) (fun _ => by kernel_rfl)) (ResIs.tmp rfl) fun w' hh => ⟨(none, 0, none, 0), rfl, trivial, gives_of (Hp.sub (H' := [row 9 eStr none 0 ([] : List ByteArray), row 29 eWrite none 0 ([] : List DWrite)]) (hh.perm (List.Perm.trans (List.Perm.swap _ _ _) (List.Perm.refl _))) (List.sublist_append_left _ _)) ⟨flat_row (fun _ _ _ _ h => h), flat_row (fun _ _ _ _ h => h), trivial⟩⟩)
 ·
  rw [hc1, cond_false] at hF
  refine T.skip_code ?_
  refine T.seq ?_
  refine T.seq ?_
  refine T.region ?_
  refine T.look (.agg #[.slice A1 p0.pages.length c1, .slice A2 p0.writes.length c2]) (by kernel_rfl) (fun w' hh => exec_loadN (cs := [.slice A1 p0.pages.length c1, .slice A2 p0.writes.length c2]) rfl rfl (by kernel_rfl) (by kernel_rfl) (fun j u hj => (hh.box_at (i := 1) (cs := [.slice A1 p0.pages.length c1, .slice A2 p0.writes.length c2]) (by rfl) 0 j).trans (seg_at (n := 2) (by rfl) hj))) ?_
  refine T.pure (.int .i64 p1) (by kernel_rfl) (fun _ => by kernel_rfl) ?_
  refine T.pure (.string p2) (by kernel_rfl) (fun _ => by kernel_rfl) ?_
  obtain ⟨r4, hb2, hF⟩ := Option.bind_eq_some_iff.1 hF
  refine T.step (W1.call (vSc eInt) r4 22 #[.agg #[.slice A1 p0.pages.length c1, .slice A2 p0.writes.length c2], .int .i64 p1, .string p2] (by kernel_rfl) (fun _ => by kernel_rfl) (fun w' hh => disk_one_l p0 p1 p2 r4 hb2 w' A1 c1 (SlOk.mono (SlOk.mono hs1 hV1) hh.view) A2 c2 (SlOk.mono (SlOk.mono hs2 hV1) hh.view)) ?_)
  intro u V2 hV2 hu
  obtain rfl := sureInt _ _ _ hu
  refine T.pure (.int .i64 r4) (by kernel_rfl) (fun _ => by kernel_rfl) ?_
  refine T.nil ?_
  refine T.seq ?_
  refine T.region ?_
  refine T.pure (.int .i64 r4) (by kernel_rfl) (fun _ => by kernel_rfl) ?_
  refine T.pure (.bool (r4 != 0)) (by kernel_rfl) (fun _ => by kernel_rfl) ?_
  refine T.nil ?_
  refine T.cond (r4 != 0) (by kernel_rfl) (by kernel_rfl) (fun hc2 => ?_) (fun hc2 => ?_)
  ·
   rw [hc2, cond_true] at hF
   refine T.seq ?_
   refine T.region ?_
   refine T.pure (.agg #[.slice none 0 0, .slice none 0 0]) (by kernel_rfl) (fun _ => by kernel_rfl) ?_
   refine T.pure (.int .i64 r4) (by kernel_rfl) (fun _ => by kernel_rfl) ?_
   refine T.step (W1.store 0 [.slice none 0 0, .slice none 0 0] [box b2 25 [.slice none 0 0, .slice none 0 0], box b1 25 [.slice A1 p0.pages.length c1, .slice A2 p0.writes.length c2]] (by rfl) rfl (by kernel_rfl) (fun w' hw => exec_store (vs := [.slice none 0 0, .slice none 0 0]) rfl rfl rfl rfl (by kernel_rfl) (one_of rfl) (by simp) rfl hw) ?_)
   refine T.pure (.int .i64 r4) (by kernel_rfl) (fun _ => by kernel_rfl) ?_
   refine T.nil ?_
   refine T.rownil 9 eStr ?_
   refine T.rownil 29 eWrite ?_
   cases hF
   refine T.ret rfl ?_
   first | exact T.ret2 rfl (ResIs.cellN 2 rfl (by rfl) (fun _ => by kernel_rfl) (fun _ => by kernel_rfl)) (ResIs.tmp rfl) fun w' hh => ⟨(none, 0, none, 0), rfl, trivial, gives_of (Hp.sub (H' := [row 9 eStr none 0 ([] : List ByteArray), row 29 eWrite none 0 ([] : List DWrite)]) (hh.perm (List.Perm.trans (List.Perm.swap _ _ _) (List.Perm.refl _))) (List.sublist_append_left _ _)) ⟨flat_row (fun _ _ _ _ h => h), flat_row (fun _ _ _ _ h => h), trivial⟩⟩ | (unfold Exit.then; dsimp only; exact T.ret2 rfl (ResIs.cellN 2 rfl (by rfl) (fun _ => by kernel_rfl) (fun _ => by kernel_rfl)) (ResIs.tmp rfl) fun w' hh => ⟨(none, 0, none, 0), rfl, trivial, gives_of (Hp.sub (H' := [row 9 eStr none 0 ([] : List ByteArray), row 29 eWrite none 0 ([] : List DWrite)]) (hh.perm (List.Perm.trans (List.Perm.swap _ _ _) (List.Perm.refl _))) (List.sublist_append_left _ _)) ⟨flat_row (fun _ _ _ _ h => h), flat_row (fun _ _ _ _ h => h), trivial⟩⟩)
  ·
   rw [hc2, cond_false] at hF
   refine T.skip_code ?_
   refine T.seq ?_
   refine T.seq ?_
   refine T.region ?_
   refine T.pure (.pointer (some ⟨b1, 1, none⟩)) (by kernel_rfl) (fun _ => by kernel_rfl) ?_
   refine T.look (.slice A2 p0.writes.length c2) (by kernel_rfl) (fun w' hh => exec_load1 rfl rfl (by kernel_rfl) (hh.cellBox (i := 1) (by rfl) 1)) ?_
   refine T.pure (.int .i64 (p0.writes.length : Int)) (by kernel_rfl) (fun _ => by kernel_rfl) ?_
   refine T.pure (.bool ((p0.writes.length : Int) == 400)) (by kernel_rfl) (fun _ => by kernel_rfl) ?_
   refine T.nil ?_
   refine T.cond ((p0.writes.length : Int) == 400) (by kernel_rfl) (by kernel_rfl) (fun hc3 => ?_) (fun hc3 => ?_)
   ·
    rw [hc3, cond_true] at hF
    refine T.seq ?_
    refine T.region ?_
    refine T.pure (.agg #[.slice none 0 0, .slice none 0 0]) (by kernel_rfl) (fun _ => by kernel_rfl) ?_
    refine T.step (W1.store 0 [.slice none 0 0, .slice none 0 0] [box b2 25 [.slice none 0 0, .slice none 0 0], box b1 25 [.slice A1 p0.pages.length c1, .slice A2 p0.writes.length c2]] (by rfl) rfl (by kernel_rfl) (fun w' hw => exec_store (vs := [.slice none 0 0, .slice none 0 0]) rfl rfl rfl rfl (by kernel_rfl) (one_of rfl) (by simp) rfl hw) ?_)
    refine T.pure (.int .i64 8) (by kernel_rfl) (fun _ => by kernel_rfl) ?_
    refine T.nil ?_
    refine T.rownil 9 eStr ?_
    refine T.rownil 29 eWrite ?_
    cases hF
    refine T.ret rfl ?_
    first | exact T.ret2 rfl (ResIs.cellN 2 rfl (by rfl) (fun _ => by kernel_rfl) (fun _ => by kernel_rfl)) (ResIs.tmp rfl) fun w' hh => ⟨(none, 0, none, 0), rfl, trivial, gives_of (Hp.sub (H' := [row 9 eStr none 0 ([] : List ByteArray), row 29 eWrite none 0 ([] : List DWrite)]) (hh.perm (List.Perm.trans (List.Perm.swap _ _ _) (List.Perm.refl _))) (List.sublist_append_left _ _)) ⟨flat_row (fun _ _ _ _ h => h), flat_row (fun _ _ _ _ h => h), trivial⟩⟩ | (unfold Exit.then; dsimp only; exact T.ret2 rfl (ResIs.cellN 2 rfl (by rfl) (fun _ => by kernel_rfl) (fun _ => by kernel_rfl)) (ResIs.tmp rfl) fun w' hh => ⟨(none, 0, none, 0), rfl, trivial, gives_of (Hp.sub (H' := [row 9 eStr none 0 ([] : List ByteArray), row 29 eWrite none 0 ([] : List DWrite)]) (hh.perm (List.Perm.trans (List.Perm.swap _ _ _) (List.Perm.refl _))) (List.sublist_append_left _ _)) ⟨flat_row (fun _ _ _ _ h => h), flat_row (fun _ _ _ _ h => h), trivial⟩⟩)
   ·
    rw [hc3, cond_false] at hF
    refine T.skip_code ?_
    refine T.seq ?_
    refine T.region ?_
    refine T.look (.agg #[.slice A1 p0.pages.length c1, .slice A2 p0.writes.length c2]) (by kernel_rfl) (fun w' hh => exec_loadN (cs := [.slice A1 p0.pages.length c1, .slice A2 p0.writes.length c2]) rfl rfl (by kernel_rfl) (by kernel_rfl) (fun j u hj => (hh.box_at (i := 1) (cs := [.slice A1 p0.pages.length c1, .slice A2 p0.writes.length c2]) (by rfl) 0 j).trans (seg_at (n := 2) (by rfl) hj))) ?_
    obtain ⟨q1, hX1, hF⟩ := Option.bind_eq_some_iff.1 hF
    refine T.step (W1.within 23 [.agg #[.slice A1 p0.pages.length c1, .slice A2 p0.writes.length c2]] (fun v w' => q1 = () ∧ ∃ (A3 : Option Addr) (c3 : Nat) (A4 : Option Addr) (c4 : Nat), v = .agg #[.slice A4 ((([] : List ByteArray) ++ p0.pages).length) c4, .slice A3 ((([] : List DWrite) ++ p0.writes).length) c3] ∧ Hp w V2 [row 29 eWrite A3 c3 (([] : List DWrite) ++ p0.writes), row 9 eStr A4 c4 (([] : List ByteArray) ++ p0.pages), box b2 25 [.slice none 0 0, .slice none 0 0], box b1 25 [.slice A1 p0.pages.length c1, .slice A2 p0.writes.length c2]] w') Try.func23 rfl rfl (by kernel_rfl) (fun _ => by kernel_rfl) rfl ?_ ?_)
    ·
     refine T.seq ?_
     refine T.region ?_
     refine T.step (W1.new 25 [.slice A1 p0.pages.length c1, .slice A2 p0.writes.length c2] (fun b => .pointer (some ⟨b, 0, none⟩)) (by kernel_rfl) (fun _ => by kernel_rfl) (fun b3 => ?_))
     refine T.step (W1.new 25 [.slice none 0 0, .slice none 0 0] (fun b => .pointer (some ⟨b, 0, none⟩)) (by kernel_rfl) (fun _ => by kernel_rfl) (fun b4 => ?_))
     refine T.nil ?_
     refine T.seq ?_
     refine T.held [box b3 25 [.slice A1 p0.pages.length c1, .slice A2 p0.writes.length c2], box b2 25 [.slice none 0 0, .slice none 0 0], box b1 25 [.slice A1 p0.pages.length c1, .slice A2 p0.writes.length c2]] (by kernel_rfl) ?_
     refine TA.take 0 (.pointer (some ⟨b3, 0, none⟩)) rfl (by kernel_rfl) (by kernel_rfl) (by kernel_rfl) (fun _ _ _ h => h) (Hp.old (View.le_refl _) (View.le_trans hV1 hV2) (.cons _ (.cons_cons _ (.cons_cons _ (.cons_cons _ List.Sublist.slnil)))) (OldAll.box (OldAll.box (OldAll.box OldAll.nil)))) (by kernel_rfl) (fun _ _ => by kernel_rfl) ?_
     refine TA.take 1 (.slice A1 p0.pages.length c1) rfl (by kernel_rfl) (by kernel_rfl) (by kernel_rfl) (fun _ _ _ h => h) (Hp.old (View.le_refl _) (View.le_trans hV1 hV2) (.cons _ (.cons_cons _ (.cons_cons _ (.cons_cons _ List.Sublist.slnil)))) (OldAll.box (OldAll.box (OldAll.box OldAll.nil)))) (by kernel_rfl) (fun w' hh => exec_load1 rfl rfl (by kernel_rfl) (hh.cellBox (i := 0) (by rfl) 0)) ?_
     refine TA.take 3 (.pointer (some ⟨b3, 1, none⟩)) rfl (by kernel_rfl) (by kernel_rfl) (by kernel_rfl) (fun _ _ _ h => h) (Hp.old (View.le_refl _) (View.le_trans hV1 hV2) (.cons _ (.cons_cons _ (.cons_cons _ (.cons_cons _ List.Sublist.slnil)))) (OldAll.box (OldAll.box (OldAll.box OldAll.nil)))) (by kernel_rfl) (fun _ _ => by kernel_rfl) ?_
     refine TA.take 4 (.slice A2 p0.writes.length c2) rfl (by kernel_rfl) (by kernel_rfl) (by kernel_rfl) (fun _ _ _ h => h) (Hp.old (View.le_refl _) (View.le_trans hV1 hV2) (.cons _ (.cons_cons _ (.cons_cons _ (.cons_cons _ List.Sublist.slnil)))) (OldAll.box (OldAll.box (OldAll.box OldAll.nil)))) (by kernel_rfl) (fun w' hh => exec_load1 rfl rfl (by kernel_rfl) (hh.cellBox (i := 0) (by rfl) 1)) ?_
     refine TA.all [2] (by kernel_rfl) rfl ⟨?_, trivial⟩
     refine TA.br rfl (W1.rownil 9 eStr ?_)
     obtain ⟨y1, hb3, hX1⟩ := Option.bind_eq_some_iff.1 hX1
     obtain ⟨hb3_r, hb3_m, rfl⟩ := grow_some hb3
     obtain ⟨ti, hti, hz1, hz2, hz3⟩ := info_parts (P := Try.prog) (e := 9) (z := .string (ByteArray.mk #[])) (size := 1) (bytes := 16) (by kernel_rfl)
     refine  (W1.append (E := eStr) (l := ([] : List ByteArray)) (m := p0.pages) 0 _ _ 16 ti _ (by rfl) (by kernel_rfl) rfl (by kernel_rfl) hti hz1 hz2 hz3 rfl (by decide) rfl rfl (fun w' hh => (SlOk.srcF (SlOk.mono (SlOk.mono hs1 (View.le_trans hV1 hV2)) hh.view) (fun _ _ _ _ h => h))) hb3_r hb3_m (fun A5 c5 => ?_))
     refine TA.on (Hp.old (View.le_refl _) (View.le_trans hV1 hV2) (.cons _ (.cons _ (.cons_cons _ (.cons_cons _ (.cons_cons _ List.Sublist.slnil))))) (OldAll.box (OldAll.box (OldAll.box OldAll.nil)))) ?_
     refine TA.all [5] (by kernel_rfl) rfl ⟨?_, trivial⟩
     refine TA.br rfl (W1.rownil 29 eWrite ?_)
     obtain ⟨y2, hb4, hX1⟩ := Option.bind_eq_some_iff.1 hX1
     obtain ⟨hb4_r, hb4_m, rfl⟩ := grow_some hb4
     obtain ⟨ti, hti, hz1, hz2, hz3⟩ := info_parts (P := Try.prog) (e := 29) (z := .agg #[.int .i64 0, .string (ByteArray.mk #[])]) (size := 2) (bytes := 24) (by kernel_rfl)
     refine  (W1.append (E := eWrite) (l := ([] : List DWrite)) (m := p0.writes) 0 _ _ 24 ti _ (by rfl) (by kernel_rfl) rfl (by kernel_rfl) hti hz1 hz2 hz3 rfl (by decide) rfl rfl (fun w' hh => (SlOk.srcF (SlOk.mono (SlOk.mono hs2 (View.le_trans hV1 hV2)) hh.view) (fun _ _ _ _ h => h))) hb4_r hb4_m (fun A6 c6 => ?_))
     refine TA.on (Hp.old (View.le_refl _) (View.le_trans hV1 hV2) (.cons _ (.cons _ (.cons _ (.cons_cons _ (.cons_cons _ (.cons_cons _ List.Sublist.slnil)))))) (OldAll.box (OldAll.box (OldAll.box OldAll.nil)))) ?_
     refine TA.take 6 (.agg #[.slice A5 ((([] : List ByteArray) ++ p0.pages).length) c5, .slice A6 ((([] : List DWrite) ++ p0.writes).length) c6]) rfl (by kernel_rfl) (by kernel_rfl) (by kernel_rfl) (fun _ _ _ h => h) (Hp.old (View.le_refl _) (View.le_trans hV1 hV2) (.cons _ (.cons _ (.cons _ (.cons_cons _ (.cons_cons _ (.cons_cons _ List.Sublist.slnil)))))) (OldAll.box (OldAll.box (OldAll.box OldAll.nil)))) (by kernel_rfl) (fun _ _ => by kernel_rfl) ?_
     refine TA.all [7] (by kernel_rfl) rfl ⟨?_, trivial⟩
     refine TA.br rfl (W1.store 2 [.slice A5 ((([] : List ByteArray) ++ p0.pages).length) c5, .slice A6 ((([] : List DWrite) ++ p0.writes).length) c6] [row 29 eWrite A6 c6 (([] : List DWrite) ++ p0.writes), row 9 eStr A5 c5 (([] : List ByteArray) ++ p0.pages), box b4 25 [.slice A5 ((([] : List ByteArray) ++ p0.pages).length) c5, .slice A6 ((([] : List DWrite) ++ p0.writes).length) c6], box b3 25 [.slice A1 p0.pages.length c1, .slice A2 p0.writes.length c2], box b2 25 [.slice none 0 0, .slice none 0 0], box b1 25 [.slice A1 p0.pages.length c1, .slice A2 p0.writes.length c2]] (by rfl) rfl (by kernel_rfl) (fun w' hw => exec_store (vs := [.slice A5 ((([] : List ByteArray) ++ p0.pages).length) c5, .slice A6 ((([] : List DWrite) ++ p0.writes).length) c6]) rfl rfl rfl rfl (by kernel_rfl) (one_of rfl) (by simp) rfl hw) ?_)
     refine TA.on (Hp.old (View.le_refl _) (View.le_trans hV1 hV2) (.cons _ (.cons _ (.cons _ (.cons_cons _ (.cons_cons _ (.cons_cons _ List.Sublist.slnil)))))) (OldAll.box (OldAll.box (OldAll.box OldAll.nil)))) ?_
     refine TA.done (by kernel_rfl) ?_
     cases hX1
     refine T.ret rfl ?_
     exact T.ret1 rfl (ResIs.cellN 2 rfl (by rfl) (fun _ => by kernel_rfl) (fun _ => by kernel_rfl)) fun w' hh => ⟨_, rfl, And.intro rfl (Exists.intro A6 (Exists.intro c6 (Exists.intro A5 (Exists.intro c5 (And.intro rfl (hh.sub (.cons_cons _ (.cons_cons _ (.cons _ (.cons _ (.cons_cons _ (.cons_cons _ List.Sublist.slnil))))))))))))⟩
    ·
     rintro v w' ⟨rfl, A3, c3, A4, c4, rfl, hh⟩
     try dsimp only at hF
     refine ⟨V2, [row 29 eWrite A3 c3 (([] : List DWrite) ++ p0.writes), row 9 eStr A4 c4 (([] : List ByteArray) ++ p0.pages), box b2 25 [.slice none 0 0, .slice none 0 0], box b1 25 [.slice A1 p0.pages.length c1, .slice A2 p0.writes.length c2]], hh, ?_⟩
     clear hh
     refine T.step (W1.new 25 [.slice none 0 0, .slice none 0 0] (fun b => .pointer (some ⟨b, 0, none⟩)) (by kernel_rfl) (fun _ => by kernel_rfl) (fun b5 => ?_))
     refine T.step (W1.store 0 [.slice A4 ((([] : List ByteArray) ++ p0.pages).length) c4, .slice A3 ((([] : List DWrite) ++ p0.writes).length) c3] [box b5 25 [.slice A4 ((([] : List ByteArray) ++ p0.pages).length) c4, .slice A3 ((([] : List DWrite) ++ p0.writes).length) c3], row 29 eWrite A3 c3 (([] : List DWrite) ++ p0.writes), row 9 eStr A4 c4 (([] : List ByteArray) ++ p0.pages), box b2 25 [.slice none 0 0, .slice none 0 0], box b1 25 [.slice A1 p0.pages.length c1, .slice A2 p0.writes.length c2]] (by rfl) rfl (by kernel_rfl) (fun w' hw => exec_store (vs := [.slice A4 ((([] : List ByteArray) ++ p0.pages).length) c4, .slice A3 ((([] : List DWrite) ++ p0.writes).length) c3]) rfl rfl rfl rfl (by kernel_rfl) (one_of rfl) (by simp) rfl hw) ?_)
     refine T.nil ?_
     refine T.seq ?_
     refine T.region ?_
     refine T.pure (.pointer (some ⟨b5, 1, none⟩)) (by kernel_rfl) (fun _ => by kernel_rfl) ?_
     refine T.look (.slice A3 ((([] : List DWrite) ++ p0.writes).length) c3) (by kernel_rfl) (fun w' hh => exec_load1 rfl rfl (by kernel_rfl) (hh.cellBox (i := 0) (by rfl) 1)) ?_
     refine T.pure (.int .i64 p1) (by kernel_rfl) (fun _ => by kernel_rfl) ?_
     refine T.pure (.string p2) (by kernel_rfl) (fun _ => by kernel_rfl) ?_
     refine T.pure (.agg #[.int .i64 p1, .string p2]) (by kernel_rfl) (fun _ => by kernel_rfl) ?_
     refine T.step (W1.new 29 [.int .i64 p1, .string p2] (fun b => .slice (some ⟨b, 0, none⟩) 1 1) (by kernel_rfl) (fun _ => by kernel_rfl) (fun b6 => ?_))
     obtain ⟨y3, hb5, hF⟩ := Option.bind_eq_some_iff.1 hF
     obtain ⟨hb5_r, hb5_m, rfl⟩ := grow_some hb5
     obtain ⟨ti, hti, hz1, hz2, hz3⟩ := info_parts (P := Try.prog) (e := 29) (z := .agg #[.int .i64 0, .string (ByteArray.mk #[])]) (size := 2) (bytes := 24) (by kernel_rfl)
     refine T.step (W1.append (E := eWrite) (l := (([] : List DWrite) ++ p0.writes)) (m := [(DWrite.mk p1 p2)]) 2 _ _ 24 ti _ (by rfl) (by kernel_rfl) rfl (by kernel_rfl) hti hz1 hz2 hz3 rfl (by decide) rfl rfl (fun w' hh => (SlOk.srcF (slok_lit (E := eWrite) (f := DWrite.cells) [(DWrite.mk p1 p2)] (fun _ _ => rfl) (Nat.le_of_ble_eq_true (by rfl)) (fun j => hh.cellBox (i := 0) (by rfl) j)) (fun _ _ _ _ h => h))) hb5_r hb5_m (fun A7 c7 => ?_))
     refine T.pure (.pointer (some ⟨b5, 1, none⟩)) (by kernel_rfl) (fun _ => by kernel_rfl) ?_
     refine T.step (W1.store 1 [.slice A4 ((([] : List ByteArray) ++ p0.pages).length) c4, .slice A7 (((([] : List DWrite) ++ p0.writes) ++ [(DWrite.mk p1 p2)]).length) c7] [box b6 29 [.int .i64 p1, .string p2], box b5 25 [.slice A4 ((([] : List ByteArray) ++ p0.pages).length) c4, .slice A7 (((([] : List DWrite) ++ p0.writes) ++ [(DWrite.mk p1 p2)]).length) c7], row 29 eWrite A7 c7 ((([] : List DWrite) ++ p0.writes) ++ [(DWrite.mk p1 p2)]), row 9 eStr A4 c4 (([] : List ByteArray) ++ p0.pages), box b2 25 [.slice none 0 0, .slice none 0 0], box b1 25 [.slice A1 p0.pages.length c1, .slice A2 p0.writes.length c2]] (by rfl) rfl (by kernel_rfl) (fun w' hw => exec_store (vs := [.slice A7 (((([] : List DWrite) ++ p0.writes) ++ [(DWrite.mk p1 p2)]).length) c7]) rfl rfl rfl rfl (by kernel_rfl) (one_of rfl) (by simp) rfl hw) ?_)
     refine T.nil ?_
     refine T.seq ?_
     refine T.region ?_
     refine T.look (.agg #[.slice A4 ((([] : List ByteArray) ++ p0.pages).length) c4, .slice A7 (((([] : List DWrite) ++ p0.writes) ++ [(DWrite.mk p1 p2)]).length) c7]) (by kernel_rfl) (fun w' hh => exec_loadN (cs := [.slice A4 ((([] : List ByteArray) ++ p0.pages).length) c4, .slice A7 (((([] : List DWrite) ++ p0.writes) ++ [(DWrite.mk p1 p2)]).length) c7]) rfl rfl (by kernel_rfl) (by kernel_rfl) (fun j u hj => (hh.box_at (i := 1) (cs := [.slice A4 ((([] : List ByteArray) ++ p0.pages).length) c4, .slice A7 (((([] : List DWrite) ++ p0.writes) ++ [(DWrite.mk p1 p2)]).length) c7]) (by rfl) 0 j).trans (seg_at (n := 2) (by rfl) hj))) ?_
     refine T.step (W1.store 4 [.slice A4 ((([] : List ByteArray) ++ p0.pages).length) c4, .slice A7 (((([] : List DWrite) ++ p0.writes) ++ [(DWrite.mk p1 p2)]).length) c7] [box b6 29 [.int .i64 p1, .string p2], box b5 25 [.slice A4 ((([] : List ByteArray) ++ p0.pages).length) c4, .slice A7 (((([] : List DWrite) ++ p0.writes) ++ [(DWrite.mk p1 p2)]).length) c7], row 29 eWrite A7 c7 ((([] : List DWrite) ++ p0.writes) ++ [(DWrite.mk p1 p2)]), row 9 eStr A4 c4 (([] : List ByteArray) ++ p0.pages), box b2 25 [.slice A4 ((([] : List ByteArray) ++ p0.pages).length) c4, .slice A7 (((([] : List DWrite) ++ p0.writes) ++ [(DWrite.mk p1 p2)]).length) c7], box b1 25 [.slice A1 p0.pages.length c1, .slice A2 p0.writes.length c2]] (by rfl) rfl (by kernel_rfl) (fun w' hw => exec_store (vs := [.slice A4 ((([] : List ByteArray) ++ p0.pages).length) c4, .slice A7 (((([] : List DWrite) ++ p0.writes) ++ [(DWrite.mk p1 p2)]).length) c7]) rfl rfl rfl rfl (by kernel_rfl) (one_of rfl) (by simp) rfl hw) ?_)
     refine T.pure (.int .i64 0) (by kernel_rfl) (fun _ => by kernel_rfl) ?_
     refine T.nil ?_
     cases hF
     refine T.ret rfl ?_
     first | exact T.ret2 rfl (ResIs.cellN 4 rfl (by rfl) (fun _ => by kernel_rfl) (fun _ => by kernel_rfl)) (ResIs.tmp rfl) fun w' hh => ⟨(A4, c4, A7, c7), rfl, trivial, gives_of (Hp.sub (H' := [row 9 eStr A4 c4 (([] : List ByteArray) ++ p0.pages), row 29 eWrite A7 c7 ((([] : List DWrite) ++ p0.writes) ++ [(DWrite.mk p1 p2)])]) (hh.perm (List.Perm.trans (List.Perm.cons _ (List.Perm.cons _ (List.Perm.swap _ _ _))) (List.Perm.trans (List.Perm.cons _ (List.Perm.swap _ _ _)) (List.Perm.trans (List.Perm.swap _ _ _) (List.Perm.cons _ (List.Perm.trans (List.Perm.cons _ (List.Perm.swap _ _ _)) (List.Perm.trans (List.Perm.swap _ _ _) (List.Perm.refl _)))))))) (List.sublist_append_left _ _)) ⟨flat_row (fun _ _ _ _ h => h), flat_row (fun _ _ _ _ h => h), trivial⟩⟩ | (unfold Exit.then; dsimp only; exact T.ret2 rfl (ResIs.cellN 4 rfl (by rfl) (fun _ => by kernel_rfl) (fun _ => by kernel_rfl)) (ResIs.tmp rfl) fun w' hh => ⟨(A4, c4, A7, c7), rfl, trivial, gives_of (Hp.sub (H' := [row 9 eStr A4 c4 (([] : List ByteArray) ++ p0.pages), row 29 eWrite A7 c7 ((([] : List DWrite) ++ p0.writes) ++ [(DWrite.mk p1 p2)])]) (hh.perm (List.Perm.trans (List.Perm.cons _ (List.Perm.cons _ (List.Perm.swap _ _ _))) (List.Perm.trans (List.Perm.cons _ (List.Perm.swap _ _ _)) (List.Perm.trans (List.Perm.swap _ _ _) (List.Perm.cons _ (List.Perm.trans (List.Perm.cons _ (List.Perm.swap _ _ _)) (List.Perm.trans (List.Perm.swap _ _ _) (List.Perm.refl _)))))))) (List.sublist_append_left _ _)) ⟨flat_row (fun _ _ _ _ h => h), flat_row (fun _ _ _ _ h => h), trivial⟩⟩)

set_option maxRecDepth 100000 in
set_option maxHeartbeats 4000000 in
theorem disk_Sync_l (F : Nat) (p0 : DDisk) (r : DDisk × Int) (hF : disk_Sync F p0 = some r) (w : World) (A1 : Option Addr) (c1 : Nat) (hs1 : SlOk (vw w) eStr A1 c1 p0.pages) (A2 : Option Addr) (c2 : Nat) (hs2 : SlOk (vw w) eWrite A2 c2 p0.writes) :
    Calls Try.prog 7 #[.agg #[.slice A1 p0.pages.length c1, .slice A2 p0.writes.length c2]] w (fun e w' => ∃ p : Option Addr × Nat × Option Addr × Nat, e = .returned (.tuple #[.agg #[.slice p.1 r.1.pages.length p.2.1, .slice p.2.2.1 r.1.writes.length p.2.2.2], .int .i64 r.2]) ∧ True ∧ Gives w w' [row 9 eStr p.1 p.2.1 r.1.pages, row 29 eWrite p.2.2.1 p.2.2.2 r.1.writes]) := by
 unfold disk_Sync at hF
 refine T.start (l := [.agg #[.slice A1 p0.pages.length c1, .slice A2 p0.writes.length c2]]) Try.func7 rfl rfl rfl ?_
 refine T.seq ?_
 refine T.region ?_
 refine T.step (W1.new 25 [.slice A1 p0.pages.length c1, .slice A2 p0.writes.length c2] (fun b => .pointer (some ⟨b, 0, none⟩)) (by kernel_rfl) (fun _ => by kernel_rfl) (fun b1 => ?_))
 refine T.step (W1.new 25 [.slice none 0 0, .slice none 0 0] (fun b => .pointer (some ⟨b, 0, none⟩)) (by kernel_rfl) (fun _ => by kernel_rfl) (fun b2 => ?_))
 refine T.pure (.int .i64 0) (by kernel_rfl) (fun _ => by kernel_rfl) ?_
 refine T.nil ?_
 refine T.seq ?_
 refine T.seq ?_
 refine T.region ?_
 refine T.look (.agg #[.slice A1 p0.pages.length c1, .slice A2 p0.writes.length c2]) (by kernel_rfl) (fun w' hh => exec_loadN (cs := [.slice A1 p0.pages.length c1, .slice A2 p0.writes.length c2]) rfl rfl (by kernel_rfl) (by kernel_rfl) (fun j u hj => (hh.box_at (i := 1) (cs := [.slice A1 p0.pages.length c1, .slice A2 p0.writes.length c2]) (by rfl) 0 j).trans (seg_at (n := 2) (by rfl) hj))) ?_
 obtain ⟨r1, hb1, hF⟩ := Option.bind_eq_some_iff.1 hF
 refine T.step (W1.call (vSc eInt) r1 21 #[.agg #[.slice A1 p0.pages.length c1, .slice A2 p0.writes.length c2]] (by kernel_rfl) (fun _ => by kernel_rfl) (fun w' hh => disk_Check_l F p0 r1 hb1 w' A1 c1 (SlOk.mono hs1 hh.view) A2 c2 (SlOk.mono hs2 hh.view)) ?_)
 intro u V1 hV1 hu
 obtain rfl := sureInt _ _ _ hu
 refine T.pure (.int .i64 r1) (by kernel_rfl) (fun _ => by kernel_rfl) ?_
 refine T.nil ?_
 refine T.seq ?_
 refine T.region ?_
 refine T.pure (.int .i64 r1) (by kernel_rfl) (fun _ => by kernel_rfl) ?_
 refine T.pure (.bool (r1 != 0)) (by kernel_rfl) (fun _ => by kernel_rfl) ?_
 refine T.nil ?_
 refine T.cond (r1 != 0) (by kernel_rfl) (by kernel_rfl) (fun hc1 => ?_) (fun hc1 => ?_)
 ·
  rw [hc1, cond_true] at hF
  refine T.seq ?_
  refine T.region ?_
  refine T.pure (.agg #[.slice none 0 0, .slice none 0 0]) (by kernel_rfl) (fun _ => by kernel_rfl) ?_
  refine T.pure (.int .i64 r1) (by kernel_rfl) (fun _ => by kernel_rfl) ?_
  refine T.step (W1.store 0 [.slice none 0 0, .slice none 0 0] [box b2 25 [.slice none 0 0, .slice none 0 0], box b1 25 [.slice A1 p0.pages.length c1, .slice A2 p0.writes.length c2]] (by rfl) rfl (by kernel_rfl) (fun w' hw => exec_store (vs := [.slice none 0 0, .slice none 0 0]) rfl rfl rfl rfl (by kernel_rfl) (one_of rfl) (by simp) rfl hw) ?_)
  refine T.pure (.int .i64 r1) (by kernel_rfl) (fun _ => by kernel_rfl) ?_
  refine T.nil ?_
  refine T.rownil 9 eStr ?_
  refine T.rownil 29 eWrite ?_
  cases hF
  refine T.ret rfl ?_
  first | exact T.ret2 rfl (ResIs.cellN 2 rfl (by rfl) (fun _ => by kernel_rfl) (fun _ => by kernel_rfl)) (ResIs.tmp rfl) fun w' hh => ⟨(none, 0, none, 0), rfl, trivial, gives_of (Hp.sub (H' := [row 9 eStr none 0 ([] : List ByteArray), row 29 eWrite none 0 ([] : List DWrite)]) (hh.perm (List.Perm.trans (List.Perm.swap _ _ _) (List.Perm.refl _))) (List.sublist_append_left _ _)) ⟨flat_row (fun _ _ _ _ h => h), flat_row (fun _ _ _ _ h => h), trivial⟩⟩ | (unfold Exit.then; dsimp only; exact T.ret2 rfl (ResIs.cellN 2 rfl (by rfl) (fun _ => by kernel_rfl) (fun _ => by kernel_rfl)) (ResIs.tmp rfl) fun w' hh => ⟨(none, 0, none, 0), rfl, trivial, gives_of (Hp.sub (H' := [row 9 eStr none 0 ([] : List ByteArray), row 29 eWrite none 0 ([] : List DWrite)]) (hh.perm (List.Perm.trans (List.Perm.swap _ _ _) (List.Perm.refl _))) (List.sublist_append_left _ _)) ⟨flat_row (fun _ _ _ _ h => h), flat_row (fun _ _ _ _ h => h), trivial⟩⟩)
 ·
  rw [hc1, cond_false] at hF
  refine T.skip_code ?_
  refine T.seq ?_
  refine T.region ?_
  refine T.look (.agg #[.slice A1 p0.pages.length c1, .slice A2 p0.writes.length c2]) (by kernel_rfl) (fun w' hh => exec_loadN (cs := [.slice A1 p0.pages.length c1, .slice A2 p0.writes.length c2]) rfl rfl (by kernel_rfl) (by kernel_rfl) (fun j u hj => (hh.box_at (i := 1) (cs := [.slice A1 p0.pages.length c1, .slice A2 p0.writes.length c2]) (by rfl) 0 j).trans (seg_at (n := 2) (by rfl) hj))) ?_
  obtain ⟨z1, hX1, hF⟩ := Option.bind_eq_some_iff.1 hF
  refine T.step (W1.within 24 [.agg #[.slice A1 p0.pages.length c1, .slice A2 p0.writes.length c2], .func (.func 25) #[] #[]] (fun v w' => ∃ (A3 : Option Addr) (c3 : Nat), v = .agg #[.slice A3 z1.length c3, .slice none 0 0] ∧ Hp w V1 [row 9 eStr A3 c3 z1, box b2 25 [.slice none 0 0, .slice none 0 0], box b1 25 [.slice A1 p0.pages.length c1, .slice A2 p0.writes.length c2]] w') Try.func24 rfl rfl (by kernel_rfl) (fun _ => by kernel_rfl) rfl ?_ ?_)
  ·
   refine T.seq ?_
   refine T.region ?_
   refine T.step (W1.new 25 [.slice A1 p0.pages.length c1, .slice A2 p0.writes.length c2] (fun b => .pointer (some ⟨b, 0, none⟩)) (by kernel_rfl) (fun _ => by kernel_rfl) (fun b3 => ?_))
   refine T.step (W1.new 25 [.slice none 0 0, .slice none 0 0] (fun b => .pointer (some ⟨b, 0, none⟩)) (by kernel_rfl) (fun _ => by kernel_rfl) (fun b4 => ?_))
   refine T.nil ?_
   refine T.seq ?_
   refine T.region ?_
   refine T.pure (.pointer (some ⟨b3, 0, none⟩)) (by kernel_rfl) (fun _ => by kernel_rfl) ?_
   refine T.look (.slice A1 p0.pages.length c1) (by kernel_rfl) (fun w' hh => exec_load1 rfl rfl (by kernel_rfl) (hh.cellBox (i := 1) (by rfl) 0)) ?_
   refine T.rownil 9 eStr ?_
   obtain ⟨y1, hb2, hX1⟩ := Option.bind_eq_some_iff.1 hX1
   obtain ⟨hb2_r, hb2_m, rfl⟩ := grow_some hb2
   obtain ⟨ti, hti, hz1, hz2, hz3⟩ := info_parts (P := Try.prog) (e := 9) (z := .string (ByteArray.mk #[])) (size := 1) (bytes := 16) (by kernel_rfl)
   refine T.step (W1.append (E := eStr) (l := ([] : List ByteArray)) (m := p0.pages) 0 _ _ 16 ti _ (by rfl) (by kernel_rfl) rfl (by kernel_rfl) hti hz1 hz2 hz3 rfl (by decide) rfl rfl (fun w' hh => (SlOk.srcF (SlOk.mono (SlOk.mono hs1 hV1) hh.view) (fun _ _ _ _ h => h))) hb2_r hb2_m (fun A4 c4 => ?_))
   refine T.pure (.agg #[.slice A4 ((([] : List ByteArray) ++ p0.pages).length) c4, .slice none 0 0]) (by kernel_rfl) (fun _ => by kernel_rfl) ?_
   refine T.step (W1.new 25 [.slice none 0 0, .slice none 0 0] (fun b => .pointer (some ⟨b, 0, none⟩)) (by kernel_rfl) (fun _ => by kernel_rfl) (fun b5 => ?_))
   refine T.step (W1.store 0 [.slice A4 ((([] : List ByteArray) ++ p0.pages).length) c4, .slice none 0 0] [box b5 25 [.slice A4 ((([] : List ByteArray) ++ p0.pages).length) c4, .slice none 0 0], row 9 eStr A4 c4 (([] : List ByteArray) ++ p0.pages), box b4 25 [.slice none 0 0, .slice none 0 0], box b3 25 [.slice A1 p0.pages.length c1, .slice A2 p0.writes.length c2], box b2 25 [.slice none 0 0, .slice none 0 0], box b1 25 [.slice A1 p0.pages.length c1, .slice A2 p0.writes.length c2]] (by rfl) rfl (by kernel_rfl) (fun w' hw => exec_store (vs := [.slice A4 ((([] : List ByteArray) ++ p0.pages).length) c4, .slice none 0 0]) rfl rfl rfl rfl (by kernel_rfl) (one_of rfl) (by simp) rfl hw) ?_)
   refine T.nil ?_
   refine T.seq ?_
   refine T.seq ?_
   refine T.region ?_
   refine T.pure (.pointer (some ⟨b3, 1, none⟩)) (by kernel_rfl) (fun _ => by kernel_rfl) ?_
   refine T.look (.slice A2 p0.writes.length c2) (by kernel_rfl) (fun w' hh => exec_load1 rfl rfl (by kernel_rfl) (hh.cellBox (i := 3) (by rfl) 1)) ?_
   refine T.pure (.int .i64 (p0.writes.length : Int)) (by kernel_rfl) (fun _ => by kernel_rfl) ?_
   refine T.pure (.int .i64 0) (by kernel_rfl) (fun _ => by kernel_rfl) ?_
   refine T.nil ?_
   obtain ⟨z2, hz1, hX1⟩ := Option.bind_eq_some_iff.1 hX1
   refine T.mid (fun a w' => Fr 32 [(4, .pointer (some ⟨b4, 0, none⟩)), (5, .pointer (some ⟨b5, 0, none⟩))] a ∧ Hp w V1 [box b5 25 [.slice A4 z2.length c4, .slice none 0 0], row 9 eStr A4 c4 z2, box b4 25 [.slice none 0 0, .slice none 0 0], box b2 25 [.slice none 0 0, .slice none 0 0], box b1 25 [.slice A1 p0.pages.length c1, .slice A2 p0.writes.length c2]] w') ?_ ?_
   ·
    refine T.block ?_
    refine T.iter (fun s1 a w' => ∃ (x1 : List ByteArray) (x2 : Int), s1 = (x1, x2) ∧ Fr 32 [(1, .func (.func 25) #[] #[]), (4, .pointer (some ⟨b4, 0, none⟩)), (5, .pointer (some ⟨b5, 0, none⟩)), (13, .slice A2 p0.writes.length c2), (14, .int .i64 (p0.writes.length : Int)), (15, .int .i64 x2)] a ∧ Hp w V1 [box b5 25 [.slice A4 x1.length c4, .slice none 0 0], row 9 eStr A4 c4 x1, box b4 25 [.slice none 0 0, .slice none 0 0], box b2 25 [.slice none 0 0, .slice none 0 0], box b1 25 [.slice A1 p0.pages.length c1, .slice A2 p0.writes.length c2]] w') hz1 ?_ ?_
    ·
     exact fun a w' hf hh => Exists.intro (([] : List ByteArray) ++ p0.pages) (Exists.intro 0 (And.intro rfl (And.intro (((((((Fr.nil hf).pick hf 15 rfl).pick hf 14 rfl).pick hf 13 rfl).pick hf 5 rfl).pick hf 4 rfl).pick hf 1 rfl) (hh.sub (.cons_cons _ (.cons_cons _ (.cons_cons _ (.cons _ (.cons_cons _ (.cons_cons _ List.Sublist.slnil))))))))))
    ·
     rintro s1 y2 hY1 hr1 a w' ⟨x1, x2, rfl, hf, hh⟩
     refine (?_ : T 32 w V1 [box b5 25 [.slice A4 x1.length c4, .slice none 0 0], row 9 eStr A4 c4 x1, box b4 25 [.slice none 0 0, .slice none 0 0], box b2 25 [.slice none 0 0, .slice none 0 0], box b1 25 [.slice A1 p0.pages.length c1, .slice A2 p0.writes.length c2]] [(1, .func (.func 25) #[] #[]), (4, .pointer (some ⟨b4, 0, none⟩)), (5, .pointer (some ⟨b5, 0, none⟩)), (13, .slice A2 p0.writes.length c2), (14, .int .i64 (p0.writes.length : Int)), (15, .int .i64 x2)] _) a w' hf hh
     clear hf hh
     try dsimp only at hY1
     refine T.seq ?_
     refine T.region ?_
     refine T.pure (.bool (decide (x2 < (p0.writes.length : Int)))) (by kernel_rfl) (fun _ => by kernel_rfl) ?_
     refine T.nil ?_
     refine T.seq ?_
     refine T.cond (decide (x2 < (p0.writes.length : Int))) (by kernel_rfl) (by kernel_rfl) (fun hc2 => ?_) (fun hc2 => ?_)
     ·
      rw [hc2, cond_true] at hY1
      refine T.skip_code ?_
      refine T.seq ?_
      refine T.block ?_
      refine T.seq ?_
      refine T.region ?_
      refine T.pure (.int .i64 x2) (by kernel_rfl) (fun _ => by kernel_rfl) ?_
      obtain ⟨e1, hb3, hY1⟩ := Option.bind_eq_some_iff.1 hY1
      obtain ⟨hi1, hi2, hi3⟩ := idx_some hb3
      refine T.look (.pointer (some ((sadr A2).add (x2.toNat * 2)))) (by kernel_rfl) (fun w' hh => exec_indexAddr (e := 29) (s := 2) rfl rfl rfl (by kernel_rfl) (by kernel_rfl) hi1 hi2 ((SlOk.mono hs2 hV1).some_ hi3 (by decide))) ?_
      refine T.look (.agg #[.int .i64 e1.page, .string e1.text]) (by kernel_rfl) (fun w' hh => exec_loadN (cs := [.int .i64 e1.page, .string e1.text]) rfl rfl (by kernel_rfl) (by kernel_rfl) (fun j u hj => (hh.cell_view (SlOk.cellF (E := eWrite) (SlOk.mono hs2 hV1) hi3 j (fun _ _ _ h => h) hj)))) ?_
      refine T.step (W1.new 29 [.int .i64 0, .string (ByteArray.mk #[])] (fun b => .pointer (some ⟨b, 0, none⟩)) (by kernel_rfl) (fun _ => by kernel_rfl) (fun b6 => ?_))
      refine T.pure (.int .i64 x2) (by kernel_rfl) (fun _ => by kernel_rfl) ?_
      refine T.step (W1.store 0 [.int .i64 e1.page, .string e1.text] [box b6 29 [.int .i64 e1.page, .string e1.text], box b5 25 [.slice A4 x1.length c4, .slice none 0 0], row 9 eStr A4 c4 x1, box b4 25 [.slice none 0 0, .slice none 0 0], box b2 25 [.slice none 0 0, .slice none 0 0], box b1 25 [.slice A1 p0.pages.length c1, .slice A2 p0.writes.length c2]] (by rfl) rfl (by kernel_rfl) (fun w' hw => exec_store (vs := [.int .i64 e1.page, .string e1.text]) rfl rfl rfl rfl (by kernel_rfl) (one_of rfl) (by simp) rfl hw) ?_)
      refine T.nil ?_
      refine T.seq ?_
      refine T.region ?_
      refine T.pure (.func (.func 25) #[] #[]) (by kernel_rfl) (fun _ => by kernel_rfl) ?_
      refine T.pure (.int .i64 x2) (by kernel_rfl) (fun _ => by kernel_rfl) ?_
      refine T.step (W1.within 25 [.int .i64 x2] (fun v w' => v = .bool true ∧ Hp w V1 [box b6 29 [.int .i64 e1.page, .string e1.text], box b5 25 [.slice A4 x1.length c4, .slice none 0 0], row 9 eStr A4 c4 x1, box b4 25 [.slice none 0 0, .slice none 0 0], box b2 25 [.slice none 0 0, .slice none 0 0], box b1 25 [.slice A1 p0.pages.length c1, .slice A2 p0.writes.length c2]] w') Try.func25 rfl rfl (by kernel_rfl) (fun _ => by kernel_rfl) rfl ?_ ?_)
      ·
       refine T.seq ?_
       refine T.region ?_
       refine T.pure (.bool false) (by kernel_rfl) (fun _ => by kernel_rfl) ?_
       refine T.nil ?_
       refine T.seq ?_
       refine T.region ?_
       refine T.pure (.bool true) (by kernel_rfl) (fun _ => by kernel_rfl) ?_
       refine T.nil ?_
       refine T.ret rfl ?_
       exact T.ret1 rfl (ResIs.tmp rfl) fun w' hh => ⟨_, rfl, And.intro rfl (hh.sub (.cons_cons _ (.cons_cons _ (.cons_cons _ (.cons_cons _ (.cons_cons _ (.cons_cons _ List.Sublist.slnil)))))))⟩
      ·
       rintro v w' ⟨rfl, hh⟩
       refine ⟨V1, [box b6 29 [.int .i64 e1.page, .string e1.text], box b5 25 [.slice A4 x1.length c4, .slice none 0 0], row 9 eStr A4 c4 x1, box b4 25 [.slice none 0 0, .slice none 0 0], box b2 25 [.slice none 0 0, .slice none 0 0], box b1 25 [.slice A1 p0.pages.length c1, .slice A2 p0.writes.length c2]], hh, ?_⟩
       clear hh
       refine T.nil ?_
       refine T.cond true (by kernel_rfl) (by kernel_rfl) (fun _ => ?_) (fun h => Bool.noConfusion h)
       refine T.region ?_
       refine T.pure (.pointer (some ⟨b5, 0, none⟩)) (by kernel_rfl) (fun _ => by kernel_rfl) ?_
       refine T.look (.slice A4 x1.length c4) (by kernel_rfl) (fun w' hh => exec_load1 rfl rfl (by kernel_rfl) (hh.cellBox (i := 1) (by rfl) 0)) ?_
       refine T.pure (.pointer (some ⟨b6, 0, none⟩)) (by kernel_rfl) (fun _ => by kernel_rfl) ?_
       refine T.look (.int .i64 e1.page) (by kernel_rfl) (fun w' hh => exec_load1 rfl rfl (by kernel_rfl) (hh.cellBox (i := 0) (by rfl) 0)) ?_
       refine T.pure (.pointer (some ⟨b6, 1, none⟩)) (by kernel_rfl) (fun _ => by kernel_rfl) ?_
       refine T.look (.string e1.text) (by kernel_rfl) (fun w' hh => exec_load1 rfl rfl (by kernel_rfl) (hh.cellBox (i := 0) (by rfl) 1)) ?_
       obtain ⟨e2, hb4, hY1⟩ := Option.bind_eq_some_iff.1 hY1
       obtain ⟨hi4, hi5, hi6⟩ := idx_some hb4
       refine T.look (.pointer (some ((sadr A4).add (e1.page.toNat * 1)))) (by kernel_rfl) (fun w' hh => exec_indexAddr (e := 9) (s := 1) rfl rfl rfl (by kernel_rfl) (by kernel_rfl) hi4 hi5 ((hh.row_slOk (i := 2) (by rfl)).some_ hi6 (by decide))) ?_
       refine T.step (W1.storeRow (E := eStr) 2 (e1.page.toNat) 0 e2 e1.text _ (vs := [.string e1.text]) (by rfl) (by kernel_rfl) rfl rfl (addr_add0 _).symm rfl rfl (fun _ => by kernel_rfl) (one_of rfl) hi6 (Nat.le_of_ble_eq_true (by kernel_rfl)) (fun _ _ h => by cases h; rfl) ?_)
       refine T.reslot 24 (.slice A4 ((x1.set e1.page.toNat e1.text).length) c4) rfl (by simp only [List.length_set]) ?_
       refine T.reH (H' := [box b6 29 [.int .i64 e1.page, .string e1.text], box b5 25 [.slice A4 ((x1.set e1.page.toNat e1.text).length) c4, .slice none 0 0], row 9 eStr A4 c4 (x1.set e1.page.toNat e1.text), box b4 25 [.slice none 0 0, .slice none 0 0], box b2 25 [.slice none 0 0, .slice none 0 0], box b1 25 [.slice A1 p0.pages.length c1, .slice A2 p0.writes.length c2]]) (by first | (simp only [List.length_set]; done) | (simp only [List.length_set]; rfl)) ?_
       refine T.nil ?_
       refine T.region ?_
       refine T.pure (.int .i64 (IntKind.i64.wrap (x2 + 1))) (by kernel_rfl) (fun _ => by kernel_rfl) ?_
       refine T.pure (.int .i64 (IntKind.i64.wrap (x2 + 1))) (by kernel_rfl) (fun _ => by kernel_rfl) ?_
       refine T.nil ?_
       cases hY1
       exact fun a w' hf hh => Exists.intro ((x1.set e1.page.toNat e1.text), IntKind.i64.wrap (x2 + 1)) (And.intro rfl (Exists.intro (x1.set e1.page.toNat e1.text) (Exists.intro (IntKind.i64.wrap (x2 + 1)) (And.intro rfl (And.intro (((((((Fr.nil hf).pick hf 15 rfl).pick hf 14 rfl).pick hf 13 rfl).pick hf 5 rfl).pick hf 4 rfl).pick hf 1 rfl) (hh.sub (.cons _ (.cons_cons _ (.cons_cons _ (.cons_cons _ (.cons_cons _ (.cons_cons _ List.Sublist.slnil))))))))))))
     ·
      rw [hc2, cond_false] at hY1
      refine T.exit ?_
      cases hY1
      cases (hr1 _ rfl)
      exact fun a w' hf hh => And.intro (((Fr.nil hf).pick hf 5 rfl).pick hf 4 rfl) (hh.sub (.cons_cons _ (.cons_cons _ (.cons_cons _ (.cons_cons _ (.cons_cons _ List.Sublist.slnil))))))
   ·
    rintro a w' ⟨hf, hh⟩
    refine (?_ : T 32 w V1 [box b5 25 [.slice A4 z2.length c4, .slice none 0 0], row 9 eStr A4 c4 z2, box b4 25 [.slice none 0 0, .slice none 0 0], box b2 25 [.slice none 0 0, .slice none 0 0], box b1 25 [.slice A1 p0.pages.length c1, .slice A2 p0.writes.length c2]] [(4, .pointer (some ⟨b4, 0, none⟩)), (5, .pointer (some ⟨b5, 0, none⟩))] _) a w' hf hh
    clear hf hh
    refine T.seq ?_
    refine T.region ?_
    refine T.look (.agg #[.slice A4 z2.length c4, .slice none 0 0]) (by kernel_rfl) (fun w' hh => exec_loadN (cs := [.slice A4 z2.length c4, .slice none 0 0]) rfl rfl (by kernel_rfl) (by kernel_rfl) (fun j u hj => (hh.box_at (i := 0) (cs := [.slice A4 z2.length c4, .slice none 0 0]) (by rfl) 0 j).trans (seg_at (n := 2) (by rfl) hj))) ?_
    refine T.step (W1.store 2 [.slice A4 z2.length c4, .slice none 0 0] [box b5 25 [.slice A4 z2.length c4, .slice none 0 0], row 9 eStr A4 c4 z2, box b4 25 [.slice A4 z2.length c4, .slice none 0 0], box b2 25 [.slice none 0 0, .slice none 0 0], box b1 25 [.slice A1 p0.pages.length c1, .slice A2 p0.writes.length c2]] (by rfl) rfl (by kernel_rfl) (fun w' hw => exec_store (vs := [.slice A4 z2.length c4, .slice none 0 0]) rfl rfl rfl rfl (by kernel_rfl) (one_of rfl) (by simp) rfl hw) ?_)
    refine T.nil ?_
    cases hX1
    refine T.ret rfl ?_
    exact T.ret1 rfl (ResIs.cellN 2 rfl (by rfl) (fun _ => by kernel_rfl) (fun _ => by kernel_rfl)) fun w' hh => ⟨_, rfl, Exists.intro A4 (Exists.intro c4 (And.intro rfl (hh.sub (.cons _ (.cons_cons _ (.cons _ (.cons_cons _ (.cons_cons _ List.Sublist.slnil))))))))⟩
  ·
   rintro v w' ⟨A3, c3, rfl, hh⟩
   refine ⟨V1, [row 9 eStr A3 c3 z1, box b2 25 [.slice none 0 0, .slice none 0 0], box b1 25 [.slice A1 p0.pages.length c1, .slice A2 p0.writes.length c2]], hh, ?_⟩
   clear hh
   refine T.step (W1.store 1 [.slice A3 z1.length c3, .slice none 0 0] [row 9 eStr A3 c3 z1, box b2 25 [.slice A3 z1.length c3, .slice none 0 0], box b1 25 [.slice A1 p0.pages.length c1, .slice A2 p0.writes.length c2]] (by rfl) rfl (by kernel_rfl) (fun w' hw => exec_store (vs := [.slice A3 z1.length c3, .slice none 0 0]) rfl rfl rfl rfl (by kernel_rfl) (one_of rfl) (by simp) rfl hw) ?_)
   refine T.pure (.int .i64 0) (by kernel_rfl) (fun _ => by kernel_rfl) ?_
   refine T.nil ?_
   refine T.rownil 29 eWrite ?_
   cases hF
   refine T.ret rfl ?_
   first | exact T.ret2 rfl (ResIs.cellN 2 rfl (by rfl) (fun _ => by kernel_rfl) (fun _ => by kernel_rfl)) (ResIs.tmp rfl) fun w' hh => ⟨(A3, c3, none, 0), rfl, trivial, gives_of (Hp.sub (H' := [row 9 eStr A3 c3 z1, row 29 eWrite none 0 ([] : List DWrite)]) (hh.perm (List.Perm.trans (List.Perm.swap _ _ _) (List.Perm.refl _))) (List.sublist_append_left _ _)) ⟨flat_row (fun _ _ _ _ h => h), flat_row (fun _ _ _ _ h => h), trivial⟩⟩ | (unfold Exit.then; dsimp only; exact T.ret2 rfl (ResIs.cellN 2 rfl (by rfl) (fun _ => by kernel_rfl) (fun _ => by kernel_rfl)) (ResIs.tmp rfl) fun w' hh => ⟨(A3, c3, none, 0), rfl, trivial, gives_of (Hp.sub (H' := [row 9 eStr A3 c3 z1, row 29 eWrite none 0 ([] : List DWrite)]) (hh.perm (List.Perm.trans (List.Perm.swap _ _ _) (List.Perm.refl _))) (List.sublist_append_left _ _)) ⟨flat_row (fun _ _ _ _ h => h), flat_row (fun _ _ _ _ h => h), trivial⟩⟩)

set_option maxRecDepth 100000 in
set_option maxHeartbeats 4000000 in
theorem disk_Crash_l (F : Nat) (p0 : DDisk) (p1 : (List Bool)) (r : DDisk × Int) (hF : disk_Crash F p0 p1 = some r) (w : World) (A1 : Option Addr) (c1 : Nat) (hs1 : SlOk (vw w) eStr A1 c1 p0.pages) (A2 : Option Addr) (c2 : Nat) (hs2 : SlOk (vw w) eWrite A2 c2 p0.writes) (A3 : Option Addr) (c3 : Nat) (hs3 : SlOk (vw w) eBool A3 c3 p1) :
    Calls Try.prog 8 #[.agg #[.slice A1 p0.pages.length c1, .slice A2 p0.writes.length c2], .slice A3 p1.length c3] w (fun e w' => ∃ p : Option Addr × Nat × Option Addr × Nat, e = .returned (.tuple #[.agg #[.slice p.1 r.1.pages.length p.2.1, .slice p.2.2.1 r.1.writes.length p.2.2.2], .int .i64 r.2]) ∧ True ∧ Gives w w' [row 9 eStr p.1 p.2.1 r.1.pages, row 29 eWrite p.2.2.1 p.2.2.2 r.1.writes]) := by
 unfold disk_Crash at hF
 refine T.start (l := [.agg #[.slice A1 p0.pages.length c1, .slice A2 p0.writes.length c2], .slice A3 p1.length c3]) Try.func8 rfl rfl rfl ?_
 refine T.seq ?_
 refine T.region ?_
 refine T.step (W1.new 25 [.slice A1 p0.pages.length c1, .slice A2 p0.writes.length c2] (fun b => .pointer (some ⟨b, 0, none⟩)) (by kernel_rfl) (fun _ => by kernel_rfl) (fun b1 => ?_))
 refine T.step (W1.new 35 [.slice A3 p1.length c3] (fun b => .pointer (some ⟨b, 0, none⟩)) (by kernel_rfl) (fun _ => by kernel_rfl) (fun b2 => ?_))
 refine T.step (W1.new 25 [.slice none 0 0, .slice none 0 0] (fun b => .pointer (some ⟨b, 0, none⟩)) (by kernel_rfl) (fun _ => by kernel_rfl) (fun b3 => ?_))
 refine T.pure (.int .i64 0) (by kernel_rfl) (fun _ => by kernel_rfl) ?_
 refine T.nil ?_
 refine T.seq ?_
 refine T.seq ?_
 refine T.region ?_
 refine T.look (.agg #[.slice A1 p0.pages.length c1, .slice A2 p0.writes.length c2]) (by kernel_rfl) (fun w' hh => exec_loadN (cs := [.slice A1 p0.pages.length c1, .slice A2 p0.writes.length c2]) rfl rfl (by kernel_rfl) (by kernel_rfl) (fun j u hj => (hh.box_at (i := 2) (cs := [.slice A1 p0.pages.length c1, .slice A2 p0.writes.length c2]) (by rfl) 0 j).trans (seg_at (n := 2) (by rfl) hj))) ?_
 obtain ⟨r1, hb1, hF⟩ := Option.bind_eq_some_iff.1 hF
 refine T.step (W1.call (vSc eInt) r1 21 #[.agg #[.slice A1 p0.pages.length c1, .slice A2 p0.writes.length c2]] (by kernel_rfl) (fun _ => by kernel_rfl) (fun w' hh => disk_Check_l F p0 r1 hb1 w' A1 c1 (SlOk.mono hs1 hh.view) A2 c2 (SlOk.mono hs2 hh.view)) ?_)
 intro u V1 hV1 hu
 obtain rfl := sureInt _ _ _ hu
 refine T.pure (.int .i64 r1) (by kernel_rfl) (fun _ => by kernel_rfl) ?_
 refine T.nil ?_
 refine T.seq ?_
 refine T.region ?_
 refine T.pure (.int .i64 r1) (by kernel_rfl) (fun _ => by kernel_rfl) ?_
 refine T.pure (.bool (r1 != 0)) (by kernel_rfl) (fun _ => by kernel_rfl) ?_
 refine T.nil ?_
 refine T.cond (r1 != 0) (by kernel_rfl) (by kernel_rfl) (fun hc1 => ?_) (fun hc1 => ?_)
 ·
  rw [hc1, cond_true] at hF
  refine T.seq ?_
  refine T.region ?_
  refine T.pure (.agg #[.slice none 0 0, .slice none 0 0]) (by kernel_rfl) (fun _ => by kernel_rfl) ?_
  refine T.pure (.int .i64 r1) (by kernel_rfl) (fun _ => by kernel_rfl) ?_
  refine T.step (W1.store 0 [.slice none 0 0, .slice none 0 0] [box b3 25 [.slice none 0 0, .slice none 0 0], box b2 35 [.slice A3 p1.length c3], box b1 25 [.slice A1 p0.pages.length c1, .slice A2 p0.writes.length c2]] (by rfl) rfl (by kernel_rfl) (fun w' hw => exec_store (vs := [.slice none 0 0, .slice none 0 0]) rfl rfl rfl rfl (by kernel_rfl) (one_of rfl) (by simp) rfl hw) ?_)
  refine T.pure (.int .i64 r1) (by kernel_rfl) (fun _ => by kernel_rfl) ?_
  refine T.nil ?_
  refine T.rownil 9 eStr ?_
  refine T.rownil 29 eWrite ?_
  cases hF
  refine T.ret rfl ?_
  first | exact T.ret2 rfl (ResIs.cellN 2 rfl (by rfl) (fun _ => by kernel_rfl) (fun _ => by kernel_rfl)) (ResIs.tmp rfl) fun w' hh => ⟨(none, 0, none, 0), rfl, trivial, gives_of (Hp.sub (H' := [row 9 eStr none 0 ([] : List ByteArray), row 29 eWrite none 0 ([] : List DWrite)]) (hh.perm (List.Perm.trans (List.Perm.swap _ _ _) (List.Perm.refl _))) (List.sublist_append_left _ _)) ⟨flat_row (fun _ _ _ _ h => h), flat_row (fun _ _ _ _ h => h), trivial⟩⟩ | (unfold Exit.then; dsimp only; exact T.ret2 rfl (ResIs.cellN 2 rfl (by rfl) (fun _ => by kernel_rfl) (fun _ => by kernel_rfl)) (ResIs.tmp rfl) fun w' hh => ⟨(none, 0, none, 0), rfl, trivial, gives_of (Hp.sub (H' := [row 9 eStr none 0 ([] : List ByteArray), row 29 eWrite none 0 ([] : List DWrite)]) (hh.perm (List.Perm.trans (List.Perm.swap _ _ _) (List.Perm.refl _))) (List.sublist_append_left _ _)) ⟨flat_row (fun _ _ _ _ h => h), flat_row (fun _ _ _ _ h => h), trivial⟩⟩)
 ·
  rw [hc1, cond_false] at hF
  refine T.skip_code ?_
  refine T.seq ?_
  refine T.region ?_
  refine T.look (.agg #[.slice A1 p0.pages.length c1, .slice A2 p0.writes.length c2]) (by kernel_rfl) (fun w' hh => exec_loadN (cs := [.slice A1 p0.pages.length c1, .slice A2 p0.writes.length c2]) rfl rfl (by kernel_rfl) (by kernel_rfl) (fun j u hj => (hh.box_at (i := 2) (cs := [.slice A1 p0.pages.length c1, .slice A2 p0.writes.length c2]) (by rfl) 0 j).trans (seg_at (n := 2) (by rfl) hj))) ?_
  refine T.pure (.func (.func 26) #[] #[.pointer (some ⟨b2, 0, none⟩)]) (by kernel_rfl) (fun _ => by kernel_rfl) ?_
  obtain ⟨z1, hX1, hF⟩ := Option.bind_eq_some_iff.1 hF
  refine T.step (W1.within 24 [.agg #[.slice A1 p0.pages.length c1, .slice A2 p0.writes.length c2], .func (.func 26) #[] #[.pointer (some ⟨b2, 0, none⟩)]] (fun v w' => ∃ (A4 : Option Addr) (c4 : Nat), v = .agg #[.slice A4 z1.length c4, .slice none 0 0] ∧ Hp w V1 [row 9 eStr A4 c4 z1, box b3 25 [.slice none 0 0, .slice none 0 0], box b2 35 [.slice A3 p1.length c3], box b1 25 [.slice A1 p0.pages.length c1, .slice A2 p0.writes.length c2]] w') Try.func24 rfl rfl (by kernel_rfl) (fun _ => by kernel_rfl) rfl ?_ ?_)
  ·
   refine T.seq ?_
   refine T.region ?_
   refine T.step (W1.new 25 [.slice A1 p0.pages.length c1, .slice A2 p0.writes.length c2] (fun b => .pointer (some ⟨b, 0, none⟩)) (by kernel_rfl) (fun _ => by kernel_rfl) (fun b4 => ?_))
   refine T.step (W1.new 25 [.slice none 0 0, .slice none 0 0] (fun b => .pointer (some ⟨b, 0, none⟩)) (by kernel_rfl) (fun _ => by kernel_rfl) (fun b5 => ?_))
   refine T.nil ?_
   refine T.seq ?_
   refine T.region ?_
   refine T.pure (.pointer (some ⟨b4, 0, none⟩)) (by kernel_rfl) (fun _ => by kernel_rfl) ?_
   refine T.look (.slice A1 p0.pages.length c1) (by kernel_rfl) (fun w' hh => exec_load1 rfl rfl (by kernel_rfl) (hh.cellBox (i := 1) (by rfl) 0)) ?_
   refine T.rownil 9 eStr ?_
   obtain ⟨y1, hb2, hX1⟩ := Option.bind_eq_some_iff.1 hX1
   obtain ⟨hb2_r, hb2_m, rfl⟩ := grow_some hb2
   obtain ⟨ti, hti, hz1, hz2, hz3⟩ := info_parts (P := Try.prog) (e := 9) (z := .string (ByteArray.mk #[])) (size := 1) (bytes := 16) (by kernel_rfl)
   refine T.step (W1.append (E := eStr) (l := ([] : List ByteArray)) (m := p0.pages) 0 _ _ 16 ti _ (by rfl) (by kernel_rfl) rfl (by kernel_rfl) hti hz1 hz2 hz3 rfl (by decide) rfl rfl (fun w' hh => (SlOk.srcF (SlOk.mono (SlOk.mono hs1 hV1) hh.view) (fun _ _ _ _ h => h))) hb2_r hb2_m (fun A5 c5 => ?_))
   refine T.pure (.agg #[.slice A5 ((([] : List ByteArray) ++ p0.pages).length) c5, .slice none 0 0]) (by kernel_rfl) (fun _ => by kernel_rfl) ?_
   refine T.step (W1.new 25 [.slice none 0 0, .slice none 0 0] (fun b => .pointer (some ⟨b, 0, none⟩)) (by kernel_rfl) (fun _ => by kernel_rfl) (fun b6 => ?_))
   refine T.step (W1.store 0 [.slice A5 ((([] : List ByteArray) ++ p0.pages).length) c5, .slice none 0 0] [box b6 25 [.slice A5 ((([] : List ByteArray) ++ p0.pages).length) c5, .slice none 0 0], row 9 eStr A5 c5 (([] : List ByteArray) ++ p0.pages), box b5 25 [.slice none 0 0, .slice none 0 0], box b4 25 [.slice A1 p0.pages.length c1, .slice A2 p0.writes.length c2], box b3 25 [.slice none 0 0, .slice none 0 0], box b2 35 [.slice A3 p1.length c3], box b1 25 [.slice A1 p0.pages.length c1, .slice A2 p0.writes.length c2]] (by rfl) rfl (by kernel_rfl) (fun w' hw => exec_store (vs := [.slice A5 ((([] : List ByteArray) ++ p0.pages).length) c5, .slice none 0 0]) rfl rfl rfl rfl (by kernel_rfl) (one_of rfl) (by simp) rfl hw) ?_)
   refine T.nil ?_
   refine T.seq ?_
   refine T.seq ?_
   refine T.region ?_
   refine T.pure (.pointer (some ⟨b4, 1, none⟩)) (by kernel_rfl) (fun _ => by kernel_rfl) ?_
   refine T.look (.slice A2 p0.writes.length c2) (by kernel_rfl) (fun w' hh => exec_load1 rfl rfl (by kernel_rfl) (hh.cellBox (i := 3) (by rfl) 1)) ?_
   refine T.pure (.int .i64 (p0.writes.length : Int)) (by kernel_rfl) (fun _ => by kernel_rfl) ?_
   refine T.pure (.int .i64 0) (by kernel_rfl) (fun _ => by kernel_rfl) ?_
   refine T.nil ?_
   obtain ⟨z2, hz1, hX1⟩ := Option.bind_eq_some_iff.1 hX1
   refine T.mid (fun a w' => Fr 32 [(4, .pointer (some ⟨b5, 0, none⟩)), (5, .pointer (some ⟨b6, 0, none⟩))] a ∧ Hp w V1 [box b6 25 [.slice A5 z2.length c5, .slice none 0 0], row 9 eStr A5 c5 z2, box b5 25 [.slice none 0 0, .slice none 0 0], box b3 25 [.slice none 0 0, .slice none 0 0], box b2 35 [.slice A3 p1.length c3], box b1 25 [.slice A1 p0.pages.length c1, .slice A2 p0.writes.length c2]] w') ?_ ?_
   ·
    refine T.block ?_
    refine T.iter (fun s1 a w' => ∃ (x1 : List ByteArray) (x2 : Int), s1 = (x1, x2) ∧ Fr 32 [(1, .func (.func 26) #[] #[.pointer (some ⟨b2, 0, none⟩)]), (4, .pointer (some ⟨b5, 0, none⟩)), (5, .pointer (some ⟨b6, 0, none⟩)), (13, .slice A2 p0.writes.length c2), (14, .int .i64 (p0.writes.length : Int)), (15, .int .i64 x2)] a ∧ Hp w V1 [box b6 25 [.slice A5 x1.length c5, .slice none 0 0], row 9 eStr A5 c5 x1, box b5 25 [.slice none 0 0, .slice none 0 0], box b3 25 [.slice none 0 0, .slice none 0 0], box b2 35 [.slice A3 p1.length c3], box b1 25 [.slice A1 p0.pages.length c1, .slice A2 p0.writes.length c2]] w') hz1 ?_ ?_
    ·
     exact fun a w' hf hh => Exists.intro (([] : List ByteArray) ++ p0.pages) (Exists.intro 0 (And.intro rfl (And.intro (((((((Fr.nil hf).pick hf 15 rfl).pick hf 14 rfl).pick hf 13 rfl).pick hf 5 rfl).pick hf 4 rfl).pick hf 1 rfl) (hh.sub (.cons_cons _ (.cons_cons _ (.cons_cons _ (.cons _ (.cons_cons _ (.cons_cons _ (.cons_cons _ List.Sublist.slnil)))))))))))
    ·
     rintro s1 y2 hY1 hr1 a w' ⟨x1, x2, rfl, hf, hh⟩
     refine (?_ : T 32 w V1 [box b6 25 [.slice A5 x1.length c5, .slice none 0 0], row 9 eStr A5 c5 x1, box b5 25 [.slice none 0 0, .slice none 0 0], box b3 25 [.slice none 0 0, .slice none 0 0], box b2 35 [.slice A3 p1.length c3], box b1 25 [.slice A1 p0.pages.length c1, .slice A2 p0.writes.length c2]] [(1, .func (.func 26) #[] #[.pointer (some ⟨b2, 0, none⟩)]), (4, .pointer (some ⟨b5, 0, none⟩)), (5, .pointer (some ⟨b6, 0, none⟩)), (13, .slice A2 p0.writes.length c2), (14, .int .i64 (p0.writes.length : Int)), (15, .int .i64 x2)] _) a w' hf hh
     clear hf hh
     try dsimp only at hY1
     refine T.seq ?_
     refine T.region ?_
     refine T.pure (.bool (decide (x2 < (p0.writes.length : Int)))) (by kernel_rfl) (fun _ => by kernel_rfl) ?_
     refine T.nil ?_
     refine T.seq ?_
     refine T.cond (decide (x2 < (p0.writes.length : Int))) (by kernel_rfl) (by kernel_rfl) (fun hc2 => ?_) (fun hc2 => ?_)
     ·
      rw [hc2, cond_true] at hY1
      refine T.skip_code ?_
      obtain ⟨z3, hX2, hY1⟩ := Option.bind_eq_some_iff.1 hY1
      refine T.cut (fun a w' => Fr 32 [(1, .func (.func 26) #[] #[.pointer (some ⟨b2, 0, none⟩)]), (4, .pointer (some ⟨b5, 0, none⟩)), (5, .pointer (some ⟨b6, 0, none⟩)), (13, .slice A2 p0.writes.length c2), (14, .int .i64 (p0.writes.length : Int)), (15, .int .i64 x2)] a ∧ Hp w V1 [box b6 25 [.slice A5 z3.length c5, .slice none 0 0], row 9 eStr A5 c5 z3, box b5 25 [.slice none 0 0, .slice none 0 0], box b3 25 [.slice none 0 0, .slice none 0 0], box b2 35 [.slice A3 p1.length c3], box b1 25 [.slice A1 p0.pages.length c1, .slice A2 p0.writes.length c2]] w') ?_ ?_
      ·
       refine T.block ?_
       refine T.seq ?_
       refine T.region ?_
       refine T.pure (.int .i64 x2) (by kernel_rfl) (fun _ => by kernel_rfl) ?_
       obtain ⟨e1, hb3, hX2⟩ := Option.bind_eq_some_iff.1 hX2
       obtain ⟨hi1, hi2, hi3⟩ := idx_some hb3
       refine T.look (.pointer (some ((sadr A2).add (x2.toNat * 2)))) (by kernel_rfl) (fun w' hh => exec_indexAddr (e := 29) (s := 2) rfl rfl rfl (by kernel_rfl) (by kernel_rfl) hi1 hi2 ((SlOk.mono hs2 hV1).some_ hi3 (by decide))) ?_
       refine T.look (.agg #[.int .i64 e1.page, .string e1.text]) (by kernel_rfl) (fun w' hh => exec_loadN (cs := [.int .i64 e1.page, .string e1.text]) rfl rfl (by kernel_rfl) (by kernel_rfl) (fun j u hj => (hh.cell_view (SlOk.cellF (E := eWrite) (SlOk.mono hs2 hV1) hi3 j (fun _ _ _ h => h) hj)))) ?_
       refine T.step (W1.new 29 [.int .i64 0, .string (ByteArray.mk #[])] (fun b => .pointer (some ⟨b, 0, none⟩)) (by kernel_rfl) (fun _ => by kernel_rfl) (fun b7 => ?_))
       refine T.pure (.int .i64 x2) (by kernel_rfl) (fun _ => by kernel_rfl) ?_
       refine T.step (W1.store 0 [.int .i64 e1.page, .string e1.text] [box b7 29 [.int .i64 e1.page, .string e1.text], box b6 25 [.slice A5 x1.length c5, .slice none 0 0], row 9 eStr A5 c5 x1, box b5 25 [.slice none 0 0, .slice none 0 0], box b3 25 [.slice none 0 0, .slice none 0 0], box b2 35 [.slice A3 p1.length c3], box b1 25 [.slice A1 p0.pages.length c1, .slice A2 p0.writes.length c2]] (by rfl) rfl (by kernel_rfl) (fun w' hw => exec_store (vs := [.int .i64 e1.page, .string e1.text]) rfl rfl rfl rfl (by kernel_rfl) (one_of rfl) (by simp) rfl hw) ?_)
       refine T.nil ?_
       refine T.seq ?_
       refine T.region ?_
       refine T.pure (.func (.func 26) #[] #[.pointer (some ⟨b2, 0, none⟩)]) (by kernel_rfl) (fun _ => by kernel_rfl) ?_
       refine T.pure (.int .i64 x2) (by kernel_rfl) (fun _ => by kernel_rfl) ?_
       obtain ⟨z4, hX3, hX2⟩ := Option.bind_eq_some_iff.1 hX2
       refine T.step (W1.within 26 [.int .i64 x2, .pointer (some ⟨b2, 0, none⟩)] (fun v w' => v = .bool z4 ∧ Hp w V1 [box b7 29 [.int .i64 e1.page, .string e1.text], box b6 25 [.slice A5 x1.length c5, .slice none 0 0], row 9 eStr A5 c5 x1, box b5 25 [.slice none 0 0, .slice none 0 0], box b3 25 [.slice none 0 0, .slice none 0 0], box b2 35 [.slice A3 p1.length c3], box b1 25 [.slice A1 p0.pages.length c1, .slice A2 p0.writes.length c2]] w') Try.func26 rfl rfl (by kernel_rfl) (fun _ => by kernel_rfl) rfl ?_ ?_)
       ·
        refine T.seq ?_
        refine T.region ?_
        refine T.pure (.bool false) (by kernel_rfl) (fun _ => by kernel_rfl) ?_
        refine T.nil ?_
        obtain ⟨z5, hX4, hX3⟩ := Option.bind_eq_some_iff.1 hX3
        refine T.cut (fun a w' => Fr 14 [(3, .bool z5)] a ∧ Hp w V1 [box b7 29 [.int .i64 e1.page, .string e1.text], box b6 25 [.slice A5 x1.length c5, .slice none 0 0], row 9 eStr A5 c5 x1, box b5 25 [.slice none 0 0, .slice none 0 0], box b3 25 [.slice none 0 0, .slice none 0 0], box b2 35 [.slice A3 p1.length c3], box b1 25 [.slice A1 p0.pages.length c1, .slice A2 p0.writes.length c2]] w') ?_ ?_
        ·
         refine T.region ?_
         refine T.pure (.int .i64 x2) (by kernel_rfl) (fun _ => by kernel_rfl) ?_
         refine T.look (.slice A3 p1.length c3) (by kernel_rfl) (fun w' hh => exec_load1 rfl rfl (by kernel_rfl) (hh.cellBox (i := 5) (by rfl) 0)) ?_
         refine T.pure (.int .i64 (p1.length : Int)) (by kernel_rfl) (fun _ => by kernel_rfl) ?_
         refine T.pure (.bool (decide (x2 < (p1.length : Int)))) (by kernel_rfl) (fun _ => by kernel_rfl) ?_
         refine T.pure (.bool (decide (x2 < (p1.length : Int)))) (by kernel_rfl) (fun _ => by kernel_rfl) ?_
         cases hg1 : decide (x2 < (p1.length : Int))
         ·
          skip
          rw [hg1, cond_false] at hX4
          refine T.pass (by kernel_rfl) (by kernel_rfl) ?_
          refine T.pass (by kernel_rfl) (by kernel_rfl) ?_
          refine T.pass (by kernel_rfl) (by kernel_rfl) ?_
          refine T.pass (by kernel_rfl) (by kernel_rfl) ?_
          refine T.pure (.bool false) (by kernel_rfl) (fun _ => by kernel_rfl) ?_
          refine T.pure (.bool false) (by kernel_rfl) (fun _ => by kernel_rfl) ?_
          refine T.nil ?_
          cases hX4
          exact fun a w' hf hh => And.intro ((Fr.nil hf).pick hf 3 rfl) (hh.sub (.cons_cons _ (.cons_cons _ (.cons_cons _ (.cons_cons _ (.cons_cons _ (.cons_cons _ (.cons_cons _ List.Sublist.slnil))))))))
         ·
          skip
          rw [hg1, cond_true] at hX4
          refine T.look (.slice A3 p1.length c3) (by kernel_rfl) (fun w' hh => exec_load1 rfl rfl (by kernel_rfl) (hh.cellBox (i := 5) (by rfl) 0)) ?_
          refine T.pure (.int .i64 x2) (by kernel_rfl) (fun _ => by kernel_rfl) ?_
          obtain ⟨e2, hb4, hX4⟩ := Option.bind_eq_some_iff.1 hX4
          obtain ⟨hi4, hi5, hi6⟩ := idx_some hb4
          refine T.look (.pointer (some ((sadr A3).add (x2.toNat * 1)))) (by kernel_rfl) (fun w' hh => exec_indexAddr (e := 4) (s := 1) rfl rfl rfl (by kernel_rfl) (by kernel_rfl) hi4 hi5 ((SlOk.mono hs3 hV1).some_ hi6 (by decide))) ?_
          refine T.look (.bool e2) (by kernel_rfl) (fun w' hh => exec_load1 rfl rfl (by kernel_rfl) (hh.cell_view (SlOk.cellF0 (E := eBool) (SlOk.mono hs3 hV1) hi6 (fun _ _ _ h => h) rfl))) ?_
          refine T.pure (.bool e2) (by kernel_rfl) (fun _ => by kernel_rfl) ?_
          refine T.pure (.bool e2) (by kernel_rfl) (fun _ => by kernel_rfl) ?_
          refine T.nil ?_
          cases hX4
          exact fun a w' hf hh => And.intro ((Fr.nil hf).pick hf 3 rfl) (hh.sub (.cons_cons _ (.cons_cons _ (.cons_cons _ (.cons_cons _ (.cons_cons _ (.cons_cons _ (.cons_cons _ List.Sublist.slnil))))))))
        ·
         rintro a w' ⟨hf, hh⟩
         refine (?_ : T 14 w V1 [box b7 29 [.int .i64 e1.page, .string e1.text], box b6 25 [.slice A5 x1.length c5, .slice none 0 0], row 9 eStr A5 c5 x1, box b5 25 [.slice none 0 0, .slice none 0 0], box b3 25 [.slice none 0 0, .slice none 0 0], box b2 35 [.slice A3 p1.length c3], box b1 25 [.slice A1 p0.pages.length c1, .slice A2 p0.writes.length c2]] [(3, .bool z5)] _) a w' hf hh
         clear hf hh
         cases hX3
         refine T.ret rfl ?_
         exact T.ret1 rfl (ResIs.tmp rfl) fun w' hh => ⟨_, rfl, And.intro rfl (hh.sub (.cons_cons _ (.cons_cons _ (.cons_cons _ (.cons_cons _ (.cons_cons _ (.cons_cons _ (.cons_cons _ List.Sublist.slnil))))))))⟩
       ·
        rintro v w' ⟨rfl, hh⟩
        refine ⟨V1, [box b7 29 [.int .i64 e1.page, .string e1.text], box b6 25 [.slice A5 x1.length c5, .slice none 0 0], row 9 eStr A5 c5 x1, box b5 25 [.slice none 0 0, .slice none 0 0], box b3 25 [.slice none 0 0, .slice none 0 0], box b2 35 [.slice A3 p1.length c3], box b1 25 [.slice A1 p0.pages.length c1, .slice A2 p0.writes.length c2]], hh, ?_⟩
        clear hh
        refine T.nil ?_
        refine T.cond z4 (by kernel_rfl) (by kernel_rfl) (fun hc3 => ?_) (fun hc3 => ?_)
        ·
         rw [hc3, cond_true] at hX2
         refine T.region ?_
         refine T.pure (.pointer (some ⟨b6, 0, none⟩)) (by kernel_rfl) (fun _ => by kernel_rfl) ?_
         refine T.look (.slice A5 x1.length c5) (by kernel_rfl) (fun w' hh => exec_load1 rfl rfl (by kernel_rfl) (hh.cellBox (i := 1) (by rfl) 0)) ?_
         refine T.pure (.pointer (some ⟨b7, 0, none⟩)) (by kernel_rfl) (fun _ => by kernel_rfl) ?_
         refine T.look (.int .i64 e1.page) (by kernel_rfl) (fun w' hh => exec_load1 rfl rfl (by kernel_rfl) (hh.cellBox (i := 0) (by rfl) 0)) ?_
         refine T.pure (.pointer (some ⟨b7, 1, none⟩)) (by kernel_rfl) (fun _ => by kernel_rfl) ?_
         refine T.look (.string e1.text) (by kernel_rfl) (fun w' hh => exec_load1 rfl rfl (by kernel_rfl) (hh.cellBox (i := 0) (by rfl) 1)) ?_
         obtain ⟨e3, hb5, hX2⟩ := Option.bind_eq_some_iff.1 hX2
         obtain ⟨hi7, hi8, hi9⟩ := idx_some hb5
         refine T.look (.pointer (some ((sadr A5).add (e1.page.toNat * 1)))) (by kernel_rfl) (fun w' hh => exec_indexAddr (e := 9) (s := 1) rfl rfl rfl (by kernel_rfl) (by kernel_rfl) hi7 hi8 ((hh.row_slOk (i := 2) (by rfl)).some_ hi9 (by decide))) ?_
         refine T.step (W1.storeRow (E := eStr) 2 (e1.page.toNat) 0 e3 e1.text _ (vs := [.string e1.text]) (by rfl) (by kernel_rfl) rfl rfl (addr_add0 _).symm rfl rfl (fun _ => by kernel_rfl) (one_of rfl) hi9 (Nat.le_of_ble_eq_true (by kernel_rfl)) (fun _ _ h => by cases h; rfl) ?_)
         refine T.reslot 24 (.slice A5 ((x1.set e1.page.toNat e1.text).length) c5) rfl (by simp only [List.length_set]) ?_
         refine T.reH (H' := [box b7 29 [.int .i64 e1.page, .string e1.text], box b6 25 [.slice A5 ((x1.set e1.page.toNat e1.text).length) c5, .slice none 0 0], row 9 eStr A5 c5 (x1.set e1.page.toNat e1.text), box b5 25 [.slice none 0 0, .slice none 0 0], box b3 25 [.slice none 0 0, .slice none 0 0], box b2 35 [.slice A3 p1.length c3], box b1 25 [.slice A1 p0.pages.length c1, .slice A2 p0.writes.length c2]]) (by first | (simp only [List.length_set]; done) | (simp only [List.length_set]; rfl)) ?_
         refine T.nil ?_
         cases hX2
         exact fun a w' hf hh => And.intro (((((((Fr.nil hf).pick hf 15 rfl).pick hf 14 rfl).pick hf 13 rfl).pick hf 5 rfl).pick hf 4 rfl).pick hf 1 rfl) (hh.sub (.cons _ (.cons_cons _ (.cons_cons _ (.cons_cons _ (.cons_cons _ (.cons_cons _ (.cons_cons _ List.Sublist.slnil))))))))
        ·
         rw [hc3, cond_false] at hX2
         refine T.skip_code ?_
         cases hX2
         exact fun a w' hf hh => And.intro (((((((Fr.nil hf).pick hf 15 rfl).pick hf 14 rfl).pick hf 13 rfl).pick hf 5 rfl).pick hf 4 rfl).pick hf 1 rfl) (hh.sub (.cons _ (.cons_cons _ (.cons_cons _ (.cons_cons _ (.cons_cons _ (.cons_cons _ (.cons_cons _ List.Sublist.slnil))))))))
      ·
       rintro a w' ⟨hf, hh⟩
       refine (?_ : T 32 w V1 [box b6 25 [.slice A5 z3.length c5, .slice none 0 0], row 9 eStr A5 c5 z3, box b5 25 [.slice none 0 0, .slice none 0 0], box b3 25 [.slice none 0 0, .slice none 0 0], box b2 35 [.slice A3 p1.length c3], box b1 25 [.slice A1 p0.pages.length c1, .slice A2 p0.writes.length c2]] [(1, .func (.func 26) #[] #[.pointer (some ⟨b2, 0, none⟩)]), (4, .pointer (some ⟨b5, 0, none⟩)), (5, .pointer (some ⟨b6, 0, none⟩)), (13, .slice A2 p0.writes.length c2), (14, .int .i64 (p0.writes.length : Int)), (15, .int .i64 x2)] _) a w' hf hh
       clear hf hh
       refine T.region ?_
       refine T.pure (.int .i64 (IntKind.i64.wrap (x2 + 1))) (by kernel_rfl) (fun _ => by kernel_rfl) ?_
       refine T.pure (.int .i64 (IntKind.i64.wrap (x2 + 1))) (by kernel_rfl) (fun _ => by kernel_rfl) ?_
       refine T.nil ?_
       cases hY1
       exact fun a w' hf hh => Exists.intro (z3, IntKind.i64.wrap (x2 + 1)) (And.intro rfl (Exists.intro z3 (Exists.intro (IntKind.i64.wrap (x2 + 1)) (And.intro rfl (And.intro (((((((Fr.nil hf).pick hf 15 rfl).pick hf 14 rfl).pick hf 13 rfl).pick hf 5 rfl).pick hf 4 rfl).pick hf 1 rfl) (hh.sub (.cons_cons _ (.cons_cons _ (.cons_cons _ (.cons_cons _ (.cons_cons _ (.cons_cons _ List.Sublist.slnil))))))))))))
     ·
      rw [hc2, cond_false] at hY1
      refine T.exit ?_
      cases hY1
      cases (hr1 _ rfl)
      exact fun a w' hf hh => And.intro (((Fr.nil hf).pick hf 5 rfl).pick hf 4 rfl) (hh.sub (.cons_cons _ (.cons_cons _ (.cons_cons _ (.cons_cons _ (.cons_cons _ (.cons_cons _ List.Sublist.slnil)))))))
   ·
    rintro a w' ⟨hf, hh⟩
    refine (?_ : T 32 w V1 [box b6 25 [.slice A5 z2.length c5, .slice none 0 0], row 9 eStr A5 c5 z2, box b5 25 [.slice none 0 0, .slice none 0 0], box b3 25 [.slice none 0 0, .slice none 0 0], box b2 35 [.slice A3 p1.length c3], box b1 25 [.slice A1 p0.pages.length c1, .slice A2 p0.writes.length c2]] [(4, .pointer (some ⟨b5, 0, none⟩)), (5, .pointer (some ⟨b6, 0, none⟩))] _) a w' hf hh
    clear hf hh
    refine T.seq ?_
    refine T.region ?_
    refine T.look (.agg #[.slice A5 z2.length c5, .slice none 0 0]) (by kernel_rfl) (fun w' hh => exec_loadN (cs := [.slice A5 z2.length c5, .slice none 0 0]) rfl rfl (by kernel_rfl) (by kernel_rfl) (fun j u hj => (hh.box_at (i := 0) (cs := [.slice A5 z2.length c5, .slice none 0 0]) (by rfl) 0 j).trans (seg_at (n := 2) (by rfl) hj))) ?_
    refine T.step (W1.store 2 [.slice A5 z2.length c5, .slice none 0 0] [box b6 25 [.slice A5 z2.length c5, .slice none 0 0], row 9 eStr A5 c5 z2, box b5 25 [.slice A5 z2.length c5, .slice none 0 0], box b3 25 [.slice none 0 0, .slice none 0 0], box b2 35 [.slice A3 p1.length c3], box b1 25 [.slice A1 p0.pages.length c1, .slice A2 p0.writes.length c2]] (by rfl) rfl (by kernel_rfl) (fun w' hw => exec_store (vs := [.slice A5 z2.length c5, .slice none 0 0]) rfl rfl rfl rfl (by kernel_rfl) (one_of rfl) (by simp) rfl hw) ?_)
    refine T.nil ?_
    cases hX1
    refine T.ret rfl ?_
    exact T.ret1 rfl (ResIs.cellN 2 rfl (by rfl) (fun _ => by kernel_rfl) (fun _ => by kernel_rfl)) fun w' hh => ⟨_, rfl, Exists.intro A5 (Exists.intro c5 (And.intro rfl (hh.sub (.cons _ (.cons_cons _ (.cons _ (.cons_cons _ (.cons_cons _ (.cons_cons _ List.Sublist.slnil)))))))))⟩
  ·
   rintro v w' ⟨A4, c4, rfl, hh⟩
   refine ⟨V1, [row 9 eStr A4 c4 z1, box b3 25 [.slice none 0 0, .slice none 0 0], box b2 35 [.slice A3 p1.length c3], box b1 25 [.slice A1 p0.pages.length c1, .slice A2 p0.writes.length c2]], hh, ?_⟩
   clear hh
   refine T.step (W1.store 1 [.slice A4 z1.length c4, .slice none 0 0] [row 9 eStr A4 c4 z1, box b3 25 [.slice A4 z1.length c4, .slice none 0 0], box b2 35 [.slice A3 p1.length c3], box b1 25 [.slice A1 p0.pages.length c1, .slice A2 p0.writes.length c2]] (by rfl) rfl (by kernel_rfl) (fun w' hw => exec_store (vs := [.slice A4 z1.length c4, .slice none 0 0]) rfl rfl rfl rfl (by kernel_rfl) (one_of rfl) (by simp) rfl hw) ?_)
   refine T.pure (.int .i64 0) (by kernel_rfl) (fun _ => by kernel_rfl) ?_
   refine T.nil ?_
   refine T.rownil 29 eWrite ?_
   cases hF
   refine T.ret rfl ?_
   first | exact T.ret2 rfl (ResIs.cellN 2 rfl (by rfl) (fun _ => by kernel_rfl) (fun _ => by kernel_rfl)) (ResIs.tmp rfl) fun w' hh => ⟨(A4, c4, none, 0), rfl, trivial, gives_of (Hp.sub (H' := [row 9 eStr A4 c4 z1, row 29 eWrite none 0 ([] : List DWrite)]) (hh.perm (List.Perm.trans (List.Perm.swap _ _ _) (List.Perm.refl _))) (List.sublist_append_left _ _)) ⟨flat_row (fun _ _ _ _ h => h), flat_row (fun _ _ _ _ h => h), trivial⟩⟩ | (unfold Exit.then; dsimp only; exact T.ret2 rfl (ResIs.cellN 2 rfl (by rfl) (fun _ => by kernel_rfl) (fun _ => by kernel_rfl)) (ResIs.tmp rfl) fun w' hh => ⟨(A4, c4, none, 0), rfl, trivial, gives_of (Hp.sub (H' := [row 9 eStr A4 c4 z1, row 29 eWrite none 0 ([] : List DWrite)]) (hh.perm (List.Perm.trans (List.Perm.swap _ _ _) (List.Perm.refl _))) (List.sublist_append_left _ _)) ⟨flat_row (fun _ _ _ _ h => h), flat_row (fun _ _ _ _ h => h), trivial⟩⟩)

set_option maxRecDepth 100000 in
set_option maxHeartbeats 4000000 in
theorem annalref_SameDisk_l (F : Nat) (p0 : DDisk) (p1 : DDisk) (r : Bool) (hF : annalref_SameDisk F p0 p1 = some r) (w : World) (A1 : Option Addr) (c1 : Nat) (hs1 : SlOk (vw w) eStr A1 c1 p0.pages) (A2 : Option Addr) (c2 : Nat) (hs2 : SlOk (vw w) eWrite A2 c2 p0.writes) (A3 : Option Addr) (c3 : Nat) (hs3 : SlOk (vw w) eStr A3 c3 p1.pages) (A4 : Option Addr) (c4 : Nat) (hs4 : SlOk (vw w) eWrite A4 c4 p1.writes) :
    Calls Try.prog 11 #[.agg #[.slice A1 p0.pages.length c1, .slice A2 p0.writes.length c2], .agg #[.slice A3 p1.pages.length c3, .slice A4 p1.writes.length c4]] w (Post (vSc eBool) r w) := by
 unfold annalref_SameDisk at hF
 refine T.start (l := [.agg #[.slice A1 p0.pages.length c1, .slice A2 p0.writes.length c2], .agg #[.slice A3 p1.pages.length c3, .slice A4 p1.writes.length c4]]) Try.func11 rfl rfl rfl ?_
 refine T.seq ?_
 refine T.region ?_
 refine T.step (W1.new 25 [.slice A1 p0.pages.length c1, .slice A2 p0.writes.length c2] (fun b => .pointer (some ⟨b, 0, none⟩)) (by kernel_rfl) (fun _ => by kernel_rfl) (fun b1 => ?_))
 refine T.step (W1.new 25 [.slice A3 p1.pages.length c3, .slice A4 p1.writes.length c4] (fun b => .pointer (some ⟨b, 0, none⟩)) (by kernel_rfl) (fun _ => by kernel_rfl) (fun b2 => ?_))
 refine T.pure (.bool false) (by kernel_rfl) (fun _ => by kernel_rfl) ?_
 refine T.nil ?_
 obtain ⟨z1, hX1, hF⟩ := Option.bind_eq_some_iff.1 hF
 refine T.cut (fun a w' => ∃ (V1 : View), View.le (vw w) V1 ∧ Fr 17 [(4, .bool z1)] a ∧ Hp w V1 [] w') ?_ ?_
 ·
  refine T.region ?_
  refine T.pure (.pointer (some ⟨b1, 0, none⟩)) (by kernel_rfl) (fun _ => by kernel_rfl) ?_
  refine T.look (.slice A1 p0.pages.length c1) (by kernel_rfl) (fun w' hh => exec_load1 rfl rfl (by kernel_rfl) (hh.cellBox (i := 1) (by rfl) 0)) ?_
  refine T.pure (.pointer (some ⟨b2, 0, none⟩)) (by kernel_rfl) (fun _ => by kernel_rfl) ?_
  refine T.look (.slice A3 p1.pages.length c3) (by kernel_rfl) (fun w' hh => exec_load1 rfl rfl (by kernel_rfl) (hh.cellBox (i := 0) (by rfl) 0)) ?_
  obtain ⟨r1, hb1, hX1⟩ := Option.bind_eq_some_iff.1 hX1
  refine T.step (W1.call (vSc eBool) r1 37 #[.slice A1 p0.pages.length c1, .slice A3 p1.pages.length c3] (by kernel_rfl) (fun _ => by kernel_rfl) (fun w' hh => slices_Equal_string_l F p0.pages p1.pages r1 hb1 w' A1 c1 (SlOk.mono hs1 hh.view) A3 c3 (SlOk.mono hs3 hh.view)) ?_)
  intro u V2 hV2 hu
  obtain rfl := sureBool _ _ _ hu
  refine T.pure (.bool r1) (by kernel_rfl) (fun _ => by kernel_rfl) ?_
  cases hg1 : r1
  ·
   skip
   rw [hg1, cond_false] at hX1
   refine T.pass (by kernel_rfl) (by kernel_rfl) ?_
   refine T.pass (by kernel_rfl) (by kernel_rfl) ?_
   refine T.pass (by kernel_rfl) (by kernel_rfl) ?_
   refine T.pass (by kernel_rfl) (by kernel_rfl) ?_
   refine T.pass (by kernel_rfl) (by kernel_rfl) ?_
   refine T.pure (.bool false) (by kernel_rfl) (fun _ => by kernel_rfl) ?_
   refine T.pure (.bool false) (by kernel_rfl) (fun _ => by kernel_rfl) ?_
   refine T.nil ?_
   cases hX1
   exact fun a w' hf hh => Exists.intro V2 (And.intro hV2 (And.intro ((Fr.nil hf).pick hf 4 rfl) (hh.sub (.cons _ (.cons _ List.Sublist.slnil)))))
  ·
   skip
   rw [hg1, cond_true] at hX1
   refine T.pure (.pointer (some ⟨b1, 1, none⟩)) (by kernel_rfl) (fun _ => by kernel_rfl) ?_
   refine T.look (.slice A2 p0.writes.length c2) (by kernel_rfl) (fun w' hh => exec_load1 rfl rfl (by kernel_rfl) (hh.cellBox (i := 1) (by rfl) 1)) ?_
   refine T.pure (.pointer (some ⟨b2, 1, none⟩)) (by kernel_rfl) (fun _ => by kernel_rfl) ?_
   refine T.look (.slice A4 p1.writes.length c4) (by kernel_rfl) (fun w' hh => exec_load1 rfl rfl (by kernel_rfl) (hh.cellBox (i := 0) (by rfl) 1)) ?_
   obtain ⟨r2, hb2, hX1⟩ := Option.bind_eq_some_iff.1 hX1
   refine T.step (W1.call (vSc eBool) r2 38 #[.slice A2 p0.writes.length c2, .slice A4 p1.writes.length c4] (by kernel_rfl) (fun _ => by kernel_rfl) (fun w' hh => slices_Equal_Write_l F p0.writes p1.writes r2 hb2 w' A2 c2 (SlOk.mono (SlOk.mono hs2 hV2) hh.view) A4 c4 (SlOk.mono (SlOk.mono hs4 hV2) hh.view)) ?_)
   intro u V3 hV3 hu
   obtain rfl := sureBool _ _ _ hu
   refine T.pure (.bool r2) (by kernel_rfl) (fun _ => by kernel_rfl) ?_
   refine T.pure (.bool r2) (by kernel_rfl) (fun _ => by kernel_rfl) ?_
   refine T.nil ?_
   cases hX1
   exact fun a w' hf hh => Exists.intro V3 (And.intro (View.le_trans hV2 hV3) (And.intro ((Fr.nil hf).pick hf 4 rfl) (hh.sub (.cons _ (.cons _ List.Sublist.slnil)))))
 ·
  rintro a w' ⟨V1, hV1, hf, hh⟩
  refine (?_ : T 17 w V1 [] [(4, .bool z1)] _) a w' hf hh
  clear hf hh
  cases hF
  refine T.ret rfl ?_
  exact T.ret1 rfl (ResIs.tmp rfl) fun w' hh => ⟨_, rfl, hh.below, (show _ from rfl)⟩

end Go.Proofs.Ytjhkfonoobmecaa
