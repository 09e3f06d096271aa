/- The Go functions of group Eqs compute the pure functions of that group: written by walkgen.py. Condition of each: the pure function yields a result. -/
import Derived.Test.YtjhkfonoobmecaaEqsF
import Derived.Test.YtjhkfonoobmecaaEqL
namespace Go.Proofs.Ytjhkfonoobmecaa
set_option linter.unusedVariables false

set_option maxRecDepth 100000 in
set_option maxHeartbeats 4000000 in
theorem slices_Equal_Write_l (F : Nat) (p0 : (List DWrite)) (p1 : (List DWrite)) (r : Bool) (hF : slices_Equal_Write F p0 p1 = some r) (w : World) (A1 : Option Addr) (c1 : Nat) (hs1 : SlOk (vw w) eWrite A1 c1 p0) (A2 : Option Addr) (c2 : Nat) (hs2 : SlOk (vw w) eWrite A2 c2 p1) :
    Calls Try.prog 38 #[.slice A1 p0.length c1, .slice A2 p1.length c2] w (Post (vSc eBool) r w) := by
 unfold slices_Equal_Write at hF
 refine T.start (l := [.slice A1 p0.length c1, .slice A2 p1.length c2]) Try.func38 rfl rfl rfl ?_
 refine T.seq ?_
 refine T.region ?_
 refine T.pure (.bool false) (by kernel_rfl) (fun _ => by kernel_rfl) ?_
 refine T.nil ?_
 refine T.seq ?_
 refine T.seq ?_
 refine T.region ?_
 refine T.pure (.slice A1 p0.length c1) (by kernel_rfl) (fun _ => by kernel_rfl) ?_
 refine T.pure (.int .i64 (p0.length : Int)) (by kernel_rfl) (fun _ => by kernel_rfl) ?_
 refine T.pure (.slice A2 p1.length c2) (by kernel_rfl) (fun _ => by kernel_rfl) ?_
 refine T.pure (.int .i64 (p1.length : Int)) (by kernel_rfl) (fun _ => by kernel_rfl) ?_
 refine T.pure (.bool ((p0.length : Int) != (p1.length : Int))) (by kernel_rfl) (fun _ => by kernel_rfl) ?_
 refine T.nil ?_
 refine T.cond ((p0.length : Int) != (p1.length : Int)) (by kernel_rfl) (by kernel_rfl) (fun hc1 => ?_) (fun hc1 => ?_)
 ·
  rw [hc1, cond_true] at hF
  refine T.seq ?_
  refine T.region ?_
  refine T.pure (.bool false) (by kernel_rfl) (fun _ => by kernel_rfl) ?_
  refine T.nil ?_
  cases hF
  refine T.ret rfl ?_
  exact T.ret1 rfl (ResIs.tmp rfl) fun w' hh => ⟨_, rfl, hh.below, (show _ from rfl)⟩
 ·
  rw [hc1, cond_false] at hF
  refine T.skip_code ?_
  refine T.seq ?_
  refine T.seq ?_
  refine T.region ?_
  refine T.pure (.slice A1 p0.length c1) (by kernel_rfl) (fun _ => by kernel_rfl) ?_
  refine T.pure (.int .i64 (p0.length : Int)) (by kernel_rfl) (fun _ => by kernel_rfl) ?_
  refine T.pure (.int .i64 0) (by kernel_rfl) (fun _ => by kernel_rfl) ?_
  refine T.nil ?_
  obtain ⟨q1, hz1, hF⟩ := Option.bind_eq_some_iff.1 hF
  refine T.mid (fun a w' => q1 = Sum.inl () ∧ Fr 26 [] a ∧ Hp w (vw w) [] w') ?_ ?_
  ·
   refine T.block ?_
   refine T.iter (fun x1 a w' => Fr 26 [(0, .slice A1 p0.length c1), (1, .slice A2 p1.length c2), (12, .int .i64 (p0.length : Int)), (13, .int .i64 x1)] a ∧ Hp w (vw w) [] w') hz1 ?_ ?_
   ·
    exact fun a w' hf hh => And.intro (((((Fr.nil hf).pick hf 13 rfl).pick hf 12 rfl).pick hf 1 rfl).pick hf 0 rfl) (hh.sub List.Sublist.slnil)
   ·
    rintro x1 y1 hY1 hr1 a w' ⟨hf, hh⟩
    refine (?_ : T 26 w (vw w) [] [(0, .slice A1 p0.length c1), (1, .slice A2 p1.length c2), (12, .int .i64 (p0.length : Int)), (13, .int .i64 x1)] _) a w' hf hh
    clear hf hh
    try dsimp only at hY1
    refine T.seq ?_
    refine T.region ?_
    refine T.pure (.bool (decide (x1 < (p0.length : Int)))) (by kernel_rfl) (fun _ => by kernel_rfl) ?_
    refine T.nil ?_
    refine T.seq ?_
    refine T.cond (decide (x1 < (p0.length : Int))) (by kernel_rfl) (by kernel_rfl) (fun hc2 => ?_) (fun hc2 => ?_)
    ·
     rw [hc2, cond_true] at hY1
     refine T.skip_code ?_
     refine T.seq ?_
     refine T.block ?_
     refine T.seq ?_
     refine T.region ?_
     refine T.pure (.int .i64 x1) (by kernel_rfl) (fun _ => by kernel_rfl) ?_
     refine T.pure (.int .i64 x1) (by kernel_rfl) (fun _ => by kernel_rfl) ?_
     refine T.nil ?_
     refine T.seq ?_
     refine T.quiet (by kernel_rfl) (by kernel_rfl) ?_
     refine TQ.pure (.slice A1 p0.length c1) (by kernel_rfl) (fun _ => by kernel_rfl) ?_
     refine TQ.pure (.int .i64 x1) (by kernel_rfl) (fun _ => by kernel_rfl) ?_
     obtain ⟨e1, hb1, hY1⟩ := Option.bind_eq_some_iff.1 hY1
     obtain ⟨hi1, hi2, hi3⟩ := idx_some hb1
     refine TQ.look (.pointer (some ((sadr A1).add (x1.toNat * 2)))) (by kernel_rfl) (fun w' hh => exec_indexAddr (e := 29) (s := 2) rfl rfl rfl (by kernel_rfl) (by kernel_rfl) hi1 hi2 (hs1.some_ hi3 (by decide))) ?_
     refine TQ.look (.agg #[.int .i64 e1.page, .string e1.text]) (by kernel_rfl) (fun w' hh => exec_loadN (cs := [.int .i64 e1.page, .string e1.text]) rfl rfl (by kernel_rfl) (by kernel_rfl) (fun j u hj => (hh.cell_view (SlOk.cellF (E := eWrite) hs1 hi3 j (fun _ _ _ h => h) hj)))) ?_
     refine TQ.pure (.slice A2 p1.length c2) (by kernel_rfl) (fun _ => by kernel_rfl) ?_
     refine TQ.pure (.int .i64 x1) (by kernel_rfl) (fun _ => by kernel_rfl) ?_
     obtain ⟨e2, hb2, hY1⟩ := Option.bind_eq_some_iff.1 hY1
     obtain ⟨hi4, hi5, hi6⟩ := idx_some hb2
     refine TQ.look (.pointer (some ((sadr A2).add (x1.toNat * 2)))) (by kernel_rfl) (fun w' hh => exec_indexAddr (e := 29) (s := 2) rfl rfl rfl (by kernel_rfl) (by kernel_rfl) hi4 hi5 (hs2.some_ hi6 (by decide))) ?_
     refine TQ.look (.agg #[.int .i64 e2.page, .string e2.text]) (by kernel_rfl) (fun w' hh => exec_loadN (cs := [.int .i64 e2.page, .string e2.text]) rfl rfl (by kernel_rfl) (by kernel_rfl) (fun j u hj => (hh.cell_view (SlOk.cellF (E := eWrite) hs2 hi6 j (fun _ _ _ h => h) hj)))) ?_
     refine TQ.look (.bool (!(e1 == e2))) (by kernel_rfl) (fun w' hh => exec_neq_DWrite e1 e2 w' rfl rfl rfl) ?_
     refine TQ.nil ?_
     refine T.cond (!(e1 == e2)) (by kernel_rfl) (by kernel_rfl) (fun hc3 => ?_) (fun hc3 => ?_)
     ·
      rw [hc3, cond_true] at hY1
      refine T.seq ?_
      refine T.region ?_
      refine T.pure (.bool false) (by kernel_rfl) (fun _ => by kernel_rfl) ?_
      refine T.nil ?_
      cases hY1
      cases (hr1 _ rfl)
      try dsimp only at hF
      cases hF
      refine T.ret rfl ?_
      exact T.ret1 rfl (ResIs.tmp rfl) fun w' hh => ⟨_, rfl, hh.below, (show _ from rfl)⟩
     ·
      rw [hc3, cond_false] at hY1
      refine T.skip_code ?_
      refine T.region ?_
      refine T.pure (.int .i64 (IntKind.i64.wrap (x1 + 1))) (by kernel_rfl) (fun _ => by kernel_rfl) ?_
      refine T.pure (.int .i64 (IntKind.i64.wrap (x1 + 1))) (by kernel_rfl) (fun _ => by kernel_rfl) ?_
      refine T.nil ?_
      cases hY1
      exact fun a w' hf hh => Exists.intro (IntKind.i64.wrap (x1 + 1)) (And.intro rfl (And.intro (((((Fr.nil hf).pick hf 13 rfl).pick hf 12 rfl).pick hf 1 rfl).pick hf 0 rfl) (hh.sub List.Sublist.slnil)))
    ·
     rw [hc2, cond_false] at hY1
     refine T.exit ?_
     cases hY1
     cases (hr1 _ rfl)
     exact fun a w' hf hh => And.intro rfl (And.intro (Fr.nil hf) (hh.sub List.Sublist.slnil))
  ·
   rintro a w' ⟨rfl, hf, hh⟩
   try dsimp only at hF
   refine (?_ : T 26 w (vw w) [] [] _) a w' hf hh
   clear hf hh
   refine T.seq ?_
   refine T.region ?_
   refine T.pure (.bool true) (by kernel_rfl) (fun _ => by kernel_rfl) ?_
   refine T.nil ?_
   cases hF
   refine T.ret rfl ?_
   exact T.ret1 rfl (ResIs.tmp rfl) fun w' hh => ⟨_, rfl, hh.below, (show _ from rfl)⟩

set_option maxRecDepth 100000 in
set_option maxHeartbeats 4000000 in
theorem slices_Equal_string_l (F : Nat) (p0 : (List ByteArray)) (p1 : (List ByteArray)) (r : Bool) (hF : slices_Equal_string F p0 p1 = some r) (w : World) (A1 : Option Addr) (c1 : Nat) (hs1 : SlOk (vw w) eStr A1 c1 p0) (A2 : Option Addr) (c2 : Nat) (hs2 : SlOk (vw w) eStr A2 c2 p1) :
    Calls Try.prog 37 #[.slice A1 p0.length c1, .slice A2 p1.length c2] w (Post (vSc eBool) r w) := by
 unfold slices_Equal_string at hF
 refine T.start (l := [.slice A1 p0.length c1, .slice A2 p1.length c2]) Try.func37 rfl rfl rfl ?_
 refine T.seq ?_
 refine T.region ?_
 refine T.pure (.bool false) (by kernel_rfl) (fun _ => by kernel_rfl) ?_
 refine T.nil ?_
 refine T.seq ?_
 refine T.seq ?_
 refine T.region ?_
 refine T.pure (.slice A1 p0.length c1) (by kernel_rfl) (fun _ => by kernel_rfl) ?_
 refine T.pure (.int .i64 (p0.length : Int)) (by kernel_rfl) (fun _ => by kernel_rfl) ?_
 refine T.pure (.slice A2 p1.length c2) (by kernel_rfl) (fun _ => by kernel_rfl) ?_
 refine T.pure (.int .i64 (p1.length : Int)) (by kernel_rfl) (fun _ => by kernel_rfl) ?_
 refine T.pure (.bool ((p0.length : Int) != (p1.length : Int))) (by kernel_rfl) (fun _ => by kernel_rfl) ?_
 refine T.nil ?_
 refine T.cond ((p0.length : Int) != (p1.length : Int)) (by kernel_rfl) (by kernel_rfl) (fun hc1 => ?_) (fun hc1 => ?_)
 ·
  rw [hc1, cond_true] at hF
  refine T.seq ?_
  refine T.region ?_
  refine T.pure (.bool false) (by kernel_rfl) (fun _ => by kernel_rfl) ?_
  refine T.nil ?_
  cases hF
  refine T.ret rfl ?_
  exact T.ret1 rfl (ResIs.tmp rfl) fun w' hh => ⟨_, rfl, hh.below, (show _ from rfl)⟩
 ·
  rw [hc1, cond_false] at hF
  refine T.skip_code ?_
  refine T.seq ?_
  refine T.seq ?_
  refine T.region ?_
  refine T.pure (.slice A1 p0.length c1) (by kernel_rfl) (fun _ => by kernel_rfl) ?_
  refine T.pure (.int .i64 (p0.length : Int)) (by kernel_rfl) (fun _ => by kernel_rfl) ?_
  refine T.pure (.int .i64 0) (by kernel_rfl) (fun _ => by kernel_rfl) ?_
  refine T.nil ?_
  obtain ⟨q1, hz1, hF⟩ := Option.bind_eq_some_iff.1 hF
  refine T.mid (fun a w' => q1 = Sum.inl () ∧ Fr 26 [] a ∧ Hp w (vw w) [] w') ?_ ?_
  ·
   refine T.block ?_
   refine T.iter (fun x1 a w' => Fr 26 [(0, .slice A1 p0.length c1), (1, .slice A2 p1.length c2), (12, .int .i64 (p0.length : Int)), (13, .int .i64 x1)] a ∧ Hp w (vw w) [] w') hz1 ?_ ?_
   ·
    exact fun a w' hf hh => And.intro (((((Fr.nil hf).pick hf 13 rfl).pick hf 12 rfl).pick hf 1 rfl).pick hf 0 rfl) (hh.sub List.Sublist.slnil)
   ·
    rintro x1 y1 hY1 hr1 a w' ⟨hf, hh⟩
    refine (?_ : T 26 w (vw w) [] [(0, .slice A1 p0.length c1), (1, .slice A2 p1.length c2), (12, .int .i64 (p0.length : Int)), (13, .int .i64 x1)] _) a w' hf hh
    clear hf hh
    try dsimp only at hY1
    refine T.seq ?_
    refine T.region ?_
    refine T.pure (.bool (decide (x1 < (p0.length : Int)))) (by kernel_rfl) (fun _ => by kernel_rfl) ?_
    refine T.nil ?_
    refine T.seq ?_
    refine T.cond (decide (x1 < (p0.length : Int))) (by kernel_rfl) (by kernel_rfl) (fun hc2 => ?_) (fun hc2 => ?_)
    ·
     rw [hc2, cond_true] at hY1
     refine T.skip_code ?_
     refine T.seq ?_
     refine T.block ?_
     refine T.seq ?_
     refine T.region ?_
     refine T.pure (.int .i64 x1) (by kernel_rfl) (fun _ => by kernel_rfl) ?_
     refine T.pure (.int .i64 x1) (by kernel_rfl) (fun _ => by kernel_rfl) ?_
     refine T.nil ?_
     refine T.seq ?_
     refine T.quiet (by kernel_rfl) (by kernel_rfl) ?_
     refine TQ.pure (.slice A1 p0.length c1) (by kernel_rfl) (fun _ => by kernel_rfl) ?_
     refine TQ.pure (.int .i64 x1) (by kernel_rfl) (fun _ => by kernel_rfl) ?_
     obtain ⟨e1, hb1, hY1⟩ := Option.bind_eq_some_iff.1 hY1
     obtain ⟨hi1, hi2, hi3⟩ := idx_some hb1
     refine TQ.look (.pointer (some ((sadr A1).add (x1.toNat * 1)))) (by kernel_rfl) (fun w' hh => exec_indexAddr (e := 9) (s := 1) rfl rfl rfl (by kernel_rfl) (by kernel_rfl) hi1 hi2 (hs1.some_ hi3 (by decide))) ?_
     refine TQ.look (.string e1) (by kernel_rfl) (fun w' hh => exec_load1 rfl rfl (by kernel_rfl) (hh.cell_view (SlOk.cellF0 (E := eStr) hs1 hi3 (fun _ _ _ h => h) rfl))) ?_
     refine TQ.pure (.slice A2 p1.length c2) (by kernel_rfl) (fun _ => by kernel_rfl) ?_
     refine TQ.pure (.int .i64 x1) (by kernel_rfl) (fun _ => by kernel_rfl) ?_
     obtain ⟨e2, hb2, hY1⟩ := Option.bind_eq_some_iff.1 hY1
     obtain ⟨hi4, hi5, hi6⟩ := idx_some hb2
     refine TQ.look (.pointer (some ((sadr A2).add (x1.toNat * 1)))) (by kernel_rfl) (fun w' hh => exec_indexAddr (e := 9) (s := 1) rfl rfl rfl (by kernel_rfl) (by kernel_rfl) hi4 hi5 (hs2.some_ hi6 (by decide))) ?_
     refine TQ.look (.string e2) (by kernel_rfl) (fun w' hh => exec_load1 rfl rfl (by kernel_rfl) (hh.cell_view (SlOk.cellF0 (E := eStr) hs2 hi6 (fun _ _ _ h => h) rfl))) ?_
     refine TQ.pure (.bool (!(seq e1 e2))) (by kernel_rfl) (fun _ => by kernel_rfl) ?_
     refine TQ.nil ?_
     refine T.cond (!(seq e1 e2)) (by kernel_rfl) (by kernel_rfl) (fun hc3 => ?_) (fun hc3 => ?_)
     ·
      rw [hc3, cond_true] at hY1
      refine T.seq ?_
      refine T.region ?_
      refine T.pure (.bool false) (by kernel_rfl) (fun _ => by kernel_rfl) ?_
      refine T.nil ?_
      cases hY1
      cases (hr1 _ rfl)
      try dsimp only at hF
      cases hF
      refine T.ret rfl ?_
      exact T.ret1 rfl (ResIs.tmp rfl) fun w' hh => ⟨_, rfl, hh.below, (show _ from rfl)⟩
     ·
      rw [hc3, cond_false] at hY1
      refine T.skip_code ?_
      refine T.region ?_
      refine T.pure (.int .i64 (IntKind.i64.wrap (x1 + 1))) (by kernel_rfl) (fun _ => by kernel_rfl) ?_
      refine T.pure (.int .i64 (IntKind.i64.wrap (x1 + 1))) (by kernel_rfl) (fun _ => by kernel_rfl) ?_
      refine T.nil ?_
      cases hY1
      exact fun a w' hf hh => Exists.intro (IntKind.i64.wrap (x1 + 1)) (And.intro rfl (And.intro (((((Fr.nil hf).pick hf 13 rfl).pick hf 12 rfl).pick hf 1 rfl).pick hf 0 rfl) (hh.sub List.Sublist.slnil)))
    ·
     rw [hc2, cond_false] at hY1
     refine T.exit ?_
     cases hY1
     cases (hr1 _ rfl)
     exact fun a w' hf hh => And.intro rfl (And.intro (Fr.nil hf) (hh.sub List.Sublist.slnil))
  ·
   rintro a w' ⟨rfl, hf, hh⟩
   try dsimp only at hF
   refine (?_ : T 26 w (vw w) [] [] _) a w' hf hh
   clear hf hh
   refine T.seq ?_
   refine T.region ?_
   refine T.pure (.bool true) (by kernel_rfl) (fun _ => by kernel_rfl) ?_
   refine T.nil ?_
   cases hF
   refine T.ret rfl ?_
   exact T.ret1 rfl (ResIs.tmp rfl) fun w' hh => ⟨_, rfl, hh.below, (show _ from rfl)⟩

end Go.Proofs.Ytjhkfonoobmecaa
