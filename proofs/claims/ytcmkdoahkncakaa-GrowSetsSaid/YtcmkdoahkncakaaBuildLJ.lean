/- The Go functions of group Build compute the pure functions of that group: written by walkgen.py. Condition of each: the pure function yields a result. -/
import Derived.Test.YtcmkdoahkncakaaNodeLJ
import Derived.Test.YtcmkdoahkncakaaLocalJ
import Derived.Test.YtcmkdoahkncakaaBuildFJ
import Derived.Test.YtcmkdoahkncakaaEqLJ
namespace Go.Proofs.Ytcmkdoahkncakaa
set_option linter.unusedVariables false

set_option maxRecDepth 100000 in
set_option maxHeartbeats 4000000 in
theorem build_shares_l (F : Nat) (p0 : Int) (r : ((List Int))) (hF : build_shares F p0 = some r) (w : World)  :
    Calls Try.prog 72 #[.int .i64 p0] w (Post (vSc (eList eInt)) r w) := by
 unfold build_shares at hF
 refine T.start (l := [.int .i64 p0]) Try.func72 rfl rfl rfl ?_
 refine T.seq ?_
 refine T.region ?_
 refine T.pure (.slice none 0 0) (by kernel_rfl) (fun _ => by kernel_rfl) ?_
 refine T.nil ?_
 refine T.seq ?_
 refine T.region ?_
 refine T.pure (.int .i64 p0) (by kernel_rfl) (fun _ => by kernel_rfl) ?_
 refine T.pure (.int .i64 (IntKind.i64.wrap (p0 + 8))) (by kernel_rfl) (fun _ => by kernel_rfl) ?_
 refine T.pure (.int .i64 (IntKind.i64.wrap ((IntKind.i64.wrap (p0 + 8)) - 1))) (by kernel_rfl) (fun _ => by kernel_rfl) ?_
 refine T.pure (.int .i64 (IntKind.i64.wrap ((IntKind.i64.wrap ((IntKind.i64.wrap (p0 + 8)) - 1) : Int).tdiv 8))) (by kernel_rfl) (fun _ => by kernel_rfl) ?_
 refine T.pure (.int .i64 (if (1 : Int) < (IntKind.i64.wrap ((IntKind.i64.wrap ((IntKind.i64.wrap (p0 + 8)) - 1) : Int).tdiv 8)) then IntKind.i64.wrap ((IntKind.i64.wrap ((IntKind.i64.wrap (p0 + 8)) - 1) : Int).tdiv 8) else 1)) (by kernel_rfl) (fun _ => by kernel_rfl) ?_
 refine T.pure (.int .i64 (if (1 : Int) < (IntKind.i64.wrap ((IntKind.i64.wrap ((IntKind.i64.wrap (p0 + 8)) - 1) : Int).tdiv 8)) then IntKind.i64.wrap ((IntKind.i64.wrap ((IntKind.i64.wrap (p0 + 8)) - 1) : Int).tdiv 8) else 1)) (by kernel_rfl) (fun _ => by kernel_rfl) ?_
 refine T.nil ?_
 refine T.seq ?_
 refine T.region ?_
 refine T.pure (.slice none 0 0) (by kernel_rfl) (fun _ => by kernel_rfl) ?_
 refine T.nil ?_
 refine T.seq ?_
 refine T.seq ?_
 refine T.region ?_
 refine T.pure (.int .i64 (if (1 : Int) < (IntKind.i64.wrap ((IntKind.i64.wrap ((IntKind.i64.wrap (p0 + 8)) - 1) : Int).tdiv 8)) then IntKind.i64.wrap ((IntKind.i64.wrap ((IntKind.i64.wrap (p0 + 8)) - 1) : Int).tdiv 8) else 1)) (by kernel_rfl) (fun _ => by kernel_rfl) ?_
 refine T.pure (.int .i64 0) (by kernel_rfl) (fun _ => by kernel_rfl) ?_
 refine T.nil ?_
 refine T.rownil 3 eInt ?_
 obtain ⟨z1, hz1, hF⟩ := Option.bind_eq_some_iff.1 hF
 refine T.mid (fun a w' => ∃ (A2 : Option Addr) (c2 : Nat), Fr 32 [(4, .slice A2 z1.length c2)] a ∧ Hp w (vw w) [row 3 eInt A2 c2 z1] w') ?_ ?_
 ·
  refine T.block ?_
  refine T.iter (fun s1 a w' => ∃ (x1 : List Int) (x2 : Int), s1 = (x1, x2) ∧ ∃ (A1 : Option Addr) (c1 : Nat), Fr 32 [(0, .int .i64 p0), (3, .int .i64 (if (1 : Int) < (IntKind.i64.wrap ((IntKind.i64.wrap ((IntKind.i64.wrap (p0 + 8)) - 1) : Int).tdiv 8)) then IntKind.i64.wrap ((IntKind.i64.wrap ((IntKind.i64.wrap (p0 + 8)) - 1) : Int).tdiv 8) else 1)), (4, .slice A1 x1.length c1), (11, .int .i64 (if (1 : Int) < (IntKind.i64.wrap ((IntKind.i64.wrap ((IntKind.i64.wrap (p0 + 8)) - 1) : Int).tdiv 8)) then IntKind.i64.wrap ((IntKind.i64.wrap ((IntKind.i64.wrap (p0 + 8)) - 1) : Int).tdiv 8) else 1)), (12, .int .i64 x2)] a ∧ Hp w (vw w) [row 3 eInt A1 c1 x1] w') hz1 ?_ ?_
  ·
   exact fun a w' hf hh => Exists.intro [] (Exists.intro 0 (And.intro rfl (Exists.intro none (Exists.intro 0 (And.intro ((((((Fr.nil hf).pick hf 12 rfl).pick hf 11 rfl).pick hf 4 rfl).pick hf 3 rfl).pick hf 0 rfl) (hh.sub (.cons_cons _ List.Sublist.slnil)))))))
  ·
   rintro s1 y1 hY1 hr1 a w' ⟨x1, x2, rfl, A1, c1, hf, hh⟩
   refine (?_ : T 32 w (vw w) [row 3 eInt A1 c1 x1] [(0, .int .i64 p0), (3, .int .i64 (if (1 : Int) < (IntKind.i64.wrap ((IntKind.i64.wrap ((IntKind.i64.wrap (p0 + 8)) - 1) : Int).tdiv 8)) then IntKind.i64.wrap ((IntKind.i64.wrap ((IntKind.i64.wrap (p0 + 8)) - 1) : Int).tdiv 8) else 1)), (4, .slice A1 x1.length c1), (11, .int .i64 (if (1 : Int) < (IntKind.i64.wrap ((IntKind.i64.wrap ((IntKind.i64.wrap (p0 + 8)) - 1) : Int).tdiv 8)) then IntKind.i64.wrap ((IntKind.i64.wrap ((IntKind.i64.wrap (p0 + 8)) - 1) : Int).tdiv 8) else 1)), (12, .int .i64 x2)] _) a w' hf hh
   clear hf hh
   try dsimp only at hY1
   refine T.seq ?_
   refine T.region ?_
   refine T.pure (.bool (decide (x2 < (if (1 : Int) < (IntKind.i64.wrap ((IntKind.i64.wrap ((IntKind.i64.wrap (p0 + 8)) - 1) : Int).tdiv 8)) then IntKind.i64.wrap ((IntKind.i64.wrap ((IntKind.i64.wrap (p0 + 8)) - 1) : Int).tdiv 8) else 1)))) (by kernel_rfl) (fun _ => by kernel_rfl) ?_
   refine T.nil ?_
   refine T.seq ?_
   refine T.cond (decide (x2 < (if (1 : Int) < (IntKind.i64.wrap ((IntKind.i64.wrap ((IntKind.i64.wrap (p0 + 8)) - 1) : Int).tdiv 8)) then IntKind.i64.wrap ((IntKind.i64.wrap ((IntKind.i64.wrap (p0 + 8)) - 1) : Int).tdiv 8) else 1))) (by kernel_rfl) (by kernel_rfl) (fun hc1 => ?_) (fun hc1 => ?_)
   ·
    rw [hc1, cond_true] at hY1
    refine T.skip_code ?_
    refine T.seq ?_
    refine T.block ?_
    refine T.seq ?_
    refine T.region ?_
    refine T.pure (.int .i64 x2) (by kernel_rfl) (fun _ => by kernel_rfl) ?_
    refine T.pure (.int .i64 x2) (by kernel_rfl) (fun _ => by kernel_rfl) ?_
    refine T.nil ?_
    refine T.held [] (by kernel_rfl) ?_
    refine TA.take 0 (.slice A1 x1.length c1) rfl (by kernel_rfl) (by kernel_rfl) (by kernel_rfl) (fun _ _ _ h => h) (Hp.old (View.le_refl _) (View.le_refl _) (.cons _ List.Sublist.slnil) OldAll.nil) (by kernel_rfl) (fun _ _ => by kernel_rfl) ?_
    refine TA.take 1 (.int .i64 p0) rfl (by kernel_rfl) (by kernel_rfl) (by kernel_rfl) (fun _ _ _ h => h) (Hp.old (View.le_refl _) (View.le_refl _) (.cons _ List.Sublist.slnil) OldAll.nil) (by kernel_rfl) (fun _ _ => by kernel_rfl) ?_
    refine TA.take 2 (.int .i64 x2) rfl (by kernel_rfl) (by kernel_rfl) (by kernel_rfl) (fun _ _ _ h => h) (Hp.old (View.le_refl _) (View.le_refl _) (.cons _ List.Sublist.slnil) OldAll.nil) (by kernel_rfl) (fun _ _ => by kernel_rfl) ?_
    refine TA.take 3 (.int .i64 (IntKind.i64.wrap (x2 + 1))) rfl (by kernel_rfl) (by kernel_rfl) (by kernel_rfl) (fun _ _ _ h => h) (Hp.old (View.le_refl _) (View.le_refl _) (.cons _ List.Sublist.slnil) OldAll.nil) (by kernel_rfl) (fun _ _ => by kernel_rfl) ?_
    refine TA.take 4 (.int .i64 (IntKind.i64.wrap (p0 * (IntKind.i64.wrap (x2 + 1))))) rfl (by kernel_rfl) (by kernel_rfl) (by kernel_rfl) (fun _ _ _ h => h) (Hp.old (View.le_refl _) (View.le_refl _) (.cons _ List.Sublist.slnil) OldAll.nil) (by kernel_rfl) (fun _ _ => by kernel_rfl) ?_
    refine TA.take 5 (.int .i64 (if (1 : Int) < (IntKind.i64.wrap ((IntKind.i64.wrap ((IntKind.i64.wrap (p0 + 8)) - 1) : Int).tdiv 8)) then IntKind.i64.wrap ((IntKind.i64.wrap ((IntKind.i64.wrap (p0 + 8)) - 1) : Int).tdiv 8) else 1)) rfl (by kernel_rfl) (by kernel_rfl) (by kernel_rfl) (fun _ _ _ h => h) (Hp.old (View.le_refl _) (View.le_refl _) (.cons _ List.Sublist.slnil) OldAll.nil) (by kernel_rfl) (fun _ _ => by kernel_rfl) ?_
    obtain ⟨d1, hb1, hY1⟩ := Option.bind_eq_some_iff.1 hY1
    refine TA.take 6 (.int .i64 (IntKind.i64.wrap ((IntKind.i64.wrap (p0 * (IntKind.i64.wrap (x2 + 1)))).tdiv d1))) rfl (by kernel_rfl) (by kernel_rfl) (by kernel_rfl) (fun _ _ _ h => h) (Hp.old (View.le_refl _) (View.le_refl _) (.cons _ List.Sublist.slnil) OldAll.nil) (by kernel_rfl) (fun w' hh => exec_quo rfl rfl rfl hb1) ?_
    refine TA.take 7 (.int .i64 p0) rfl (by kernel_rfl) (by kernel_rfl) (by kernel_rfl) (fun _ _ _ h => h) (Hp.old (View.le_refl _) (View.le_refl _) (.cons _ List.Sublist.slnil) OldAll.nil) (by kernel_rfl) (fun _ _ => by kernel_rfl) ?_
    refine TA.take 8 (.int .i64 x2) rfl (by kernel_rfl) (by kernel_rfl) (by kernel_rfl) (fun _ _ _ h => h) (Hp.old (View.le_refl _) (View.le_refl _) (.cons _ List.Sublist.slnil) OldAll.nil) (by kernel_rfl) (fun _ _ => by kernel_rfl) ?_
    refine TA.take 9 (.int .i64 (IntKind.i64.wrap (p0 * x2))) rfl (by kernel_rfl) (by kernel_rfl) (by kernel_rfl) (fun _ _ _ h => h) (Hp.old (View.le_refl _) (View.le_refl _) (.cons _ List.Sublist.slnil) OldAll.nil) (by kernel_rfl) (fun _ _ => by kernel_rfl) ?_
    refine TA.take 10 (.int .i64 (if (1 : Int) < (IntKind.i64.wrap ((IntKind.i64.wrap ((IntKind.i64.wrap (p0 + 8)) - 1) : Int).tdiv 8)) then IntKind.i64.wrap ((IntKind.i64.wrap ((IntKind.i64.wrap (p0 + 8)) - 1) : Int).tdiv 8) else 1)) rfl (by kernel_rfl) (by kernel_rfl) (by kernel_rfl) (fun _ _ _ h => h) (Hp.old (View.le_refl _) (View.le_refl _) (.cons _ List.Sublist.slnil) OldAll.nil) (by kernel_rfl) (fun _ _ => by kernel_rfl) ?_
    obtain ⟨d2, hb2, hY1⟩ := Option.bind_eq_some_iff.1 hY1
    refine TA.take 11 (.int .i64 (IntKind.i64.wrap ((IntKind.i64.wrap (p0 * x2)).tdiv d2))) rfl (by kernel_rfl) (by kernel_rfl) (by kernel_rfl) (fun _ _ _ h => h) (Hp.old (View.le_refl _) (View.le_refl _) (.cons _ List.Sublist.slnil) OldAll.nil) (by kernel_rfl) (fun w' hh => exec_quo rfl rfl rfl hb2) ?_
    refine TA.take 12 (.int .i64 (IntKind.i64.wrap ((IntKind.i64.wrap ((IntKind.i64.wrap (p0 * (IntKind.i64.wrap (x2 + 1)))).tdiv d1)) - (IntKind.i64.wrap ((IntKind.i64.wrap (p0 * x2)).tdiv d2))))) rfl (by kernel_rfl) (by kernel_rfl) (by kernel_rfl) (fun _ _ _ h => h) (Hp.old (View.le_refl _) (View.le_refl _) (.cons _ List.Sublist.slnil) OldAll.nil) (by kernel_rfl) (fun _ _ => by kernel_rfl) ?_
    refine TA.all [13] (by kernel_rfl) rfl ⟨?_, trivial⟩
    refine TA.br rfl (W1.new 3 [.int .i64 (IntKind.i64.wrap ((IntKind.i64.wrap ((IntKind.i64.wrap (p0 * (IntKind.i64.wrap (x2 + 1)))).tdiv d1)) - (IntKind.i64.wrap ((IntKind.i64.wrap (p0 * x2)).tdiv d2))))] (fun b => .slice (some ⟨b, 0, none⟩) 1 1) (by kernel_rfl) (fun _ => by kernel_rfl) (fun b1 => ?_))
    refine TA.on (Hp.old (View.le_refl _) (View.le_refl _) (.cons _ (.cons _ List.Sublist.slnil)) OldAll.nil) ?_
    refine TA.all [14] (by kernel_rfl) rfl ⟨?_, trivial⟩
    obtain ⟨y2, hb3, hY1⟩ := Option.bind_eq_some_iff.1 hY1
    obtain ⟨hb3_r, hb3_m, rfl⟩ := grow_some hb3
    obtain ⟨ti, hti, hz1, hz2, hz3⟩ := info_parts (P := Try.prog) (e := 3) (z := .int .i64 0) (size := 1) (bytes := 8) (by kernel_rfl)
    refine TA.br rfl (W1.append (E := eInt) (l := x1) (m := [IntKind.i64.wrap ((IntKind.i64.wrap ((IntKind.i64.wrap (p0 * (IntKind.i64.wrap (x2 + 1)))).tdiv d1)) - (IntKind.i64.wrap ((IntKind.i64.wrap (p0 * x2)).tdiv d2)))]) 1 _ _ 8 ti _ (by rfl) (by kernel_rfl) rfl (by kernel_rfl) hti hz1 hz2 hz3 rfl (by decide) rfl rfl (fun w' hh => (SlOk.srcF (slok_lit (E := eInt) (f := (fun x => [.int .i64 x])) [IntKind.i64.wrap ((IntKind.i64.wrap ((IntKind.i64.wrap (p0 * (IntKind.i64.wrap (x2 + 1)))).tdiv d1)) - (IntKind.i64.wrap ((IntKind.i64.wrap (p0 * x2)).tdiv d2)))] (fun _ _ => rfl) (Nat.le_of_ble_eq_true (by rfl)) (fun j => hh.cellBox (i := 0) (by rfl) j)) (fun _ _ _ _ h => h))) hb3_r hb3_m (fun A3 c3 => ?_))
    refine TA.on (Hp.old (View.le_refl _) (View.le_refl _) (.cons _ (.cons _ List.Sublist.slnil)) OldAll.nil) ?_
    refine TA.take 15 (.slice A3 ((x1 ++ [IntKind.i64.wrap ((IntKind.i64.wrap ((IntKind.i64.wrap (p0 * (IntKind.i64.wrap (x2 + 1)))).tdiv d1)) - (IntKind.i64.wrap ((IntKind.i64.wrap (p0 * x2)).tdiv d2)))]).length) c3) rfl (by kernel_rfl) (by kernel_rfl) (by kernel_rfl) (fun _ _ _ h => h) (Hp.old (View.le_refl _) (View.le_refl _) (.cons _ (.cons _ List.Sublist.slnil)) OldAll.nil) (by kernel_rfl) (fun _ _ => by kernel_rfl) ?_
    refine TA.done (by kernel_rfl) ?_
    refine T.region ?_
    refine T.pure (.int .i64 (IntKind.i64.wrap (x2 + 1))) (by kernel_rfl) (fun _ => by kernel_rfl) ?_
    refine T.pure (.int .i64 (IntKind.i64.wrap (x2 + 1))) (by kernel_rfl) (fun _ => by kernel_rfl) ?_
    refine T.nil ?_
    cases hY1
    exact fun a w' hf hh => Exists.intro ((x1 ++ [IntKind.i64.wrap ((IntKind.i64.wrap ((IntKind.i64.wrap (p0 * (IntKind.i64.wrap (x2 + 1)))).tdiv d1)) - (IntKind.i64.wrap ((IntKind.i64.wrap (p0 * x2)).tdiv d2)))]), IntKind.i64.wrap (x2 + 1)) (And.intro rfl (Exists.intro (x1 ++ [IntKind.i64.wrap ((IntKind.i64.wrap ((IntKind.i64.wrap (p0 * (IntKind.i64.wrap (x2 + 1)))).tdiv d1)) - (IntKind.i64.wrap ((IntKind.i64.wrap (p0 * x2)).tdiv d2)))]) (Exists.intro (IntKind.i64.wrap (x2 + 1)) (And.intro rfl (Exists.intro A3 (Exists.intro c3 (And.intro ((((((Fr.nil hf).pick hf 12 rfl).pick hf 11 rfl).pick hf 4 rfl).pick hf 3 rfl).pick hf 0 rfl) (hh.sub (.cons _ (.cons_cons _ List.Sublist.slnil))))))))))
   ·
    rw [hc1, cond_false] at hY1
    refine T.exit ?_
    cases hY1
    cases (hr1 _ rfl)
    exact fun a w' hf hh => Exists.intro A1 (Exists.intro c1 (And.intro ((Fr.nil hf).pick hf 4 rfl) (hh.sub (.cons_cons _ List.Sublist.slnil))))
 ·
  rintro a w' ⟨A2, c2, hf, hh⟩
  refine (?_ : T 32 w (vw w) [row 3 eInt A2 c2 z1] [(4, .slice A2 z1.length c2)] _) a w' hf hh
  clear hf hh
  refine T.seq ?_
  refine T.region ?_
  refine T.pure (.slice A2 z1.length c2) (by kernel_rfl) (fun _ => by kernel_rfl) ?_
  refine T.pure (.slice A2 z1.length c2) (by kernel_rfl) (fun _ => by kernel_rfl) ?_
  refine T.nil ?_
  cases hF
  refine T.ret rfl ?_
  exact T.ret1 rfl (ResIs.tmp rfl) fun w' hh => ⟨_, rfl, hh.below, ⟨_, _, rfl, (hh.row_fresh (i := 0) (by rfl) (fun _ h => h))⟩⟩

set_option maxRecDepth 100000 in
set_option maxHeartbeats 4000000 in
theorem build_Of_l (F : Nat) (p0 : (List DElem)) (r : DTree × Int) (hF : build_Of F p0 = some r) (w : World) (A1 : Option Addr) (c1 : Nat) (hs1 : SlOk (vw w) eElem A1 c1 p0) :
    Calls Try.prog 46 #[.slice A1 p0.length c1] w (Post (vT2 (vAg eTree) (vSc eInt)) r w) := by
 unfold build_Of at hF
 refine T.start (l := [.slice A1 p0.length c1]) Try.func46 rfl rfl rfl ?_
 refine T.seq ?_
 refine T.region ?_
 refine T.step (W1.new 24 [.int .i64 0, .slice none 0 0] (fun b => .pointer (some ⟨b, 0, none⟩)) (by kernel_rfl) (fun _ => by kernel_rfl) (fun b1 => ?_))
 refine T.pure (.int .i64 0) (by kernel_rfl) (fun _ => by kernel_rfl) ?_
 refine T.nil ?_
 refine T.seq ?_
 refine T.seq ?_
 refine T.region ?_
 refine T.pure (.slice A1 p0.length c1) (by kernel_rfl) (fun _ => by kernel_rfl) ?_
 refine T.pure (.int .i64 (p0.length : Int)) (by kernel_rfl) (fun _ => by kernel_rfl) ?_
 refine T.pure (.bool (decide ((400 : Int) < (p0.length : Int)))) (by kernel_rfl) (fun _ => by kernel_rfl) ?_
 refine T.nil ?_
 refine T.cond (decide ((400 : Int) < (p0.length : Int))) (by kernel_rfl) (by kernel_rfl) (fun hc1 => ?_) (fun hc1 => ?_)
 ·
  rw [hc1, cond_true] at hF
  refine T.seq ?_
  refine T.region ?_
  refine T.pure (.agg #[.int .i64 0, .slice none 0 0]) (by kernel_rfl) (fun _ => by kernel_rfl) ?_
  refine T.step (W1.store 0 [.int .i64 0, .slice none 0 0] [box b1 24 [.int .i64 0, .slice none 0 0]] (by rfl) rfl (by kernel_rfl) (fun w' hw => exec_store (vs := [.int .i64 0, .slice none 0 0]) rfl rfl rfl rfl (by kernel_rfl) (one_of rfl) (by simp) rfl hw) ?_)
  refine T.pure (.int .i64 2) (by kernel_rfl) (fun _ => by kernel_rfl) ?_
  refine T.nil ?_
  cases hF
  refine T.ret rfl ?_
  exact T.ret2 rfl (ResIs.cellN 0 rfl (by rfl) (fun _ => by kernel_rfl) (fun _ => by kernel_rfl)) (ResIs.tmp rfl) fun w' hh => ⟨_, rfl, hh.below, (vT2.mk (vAg.mk ⟨_, _, rfl, (SlOk.nil _ _)⟩) (show _ from rfl))⟩
 ·
  rw [hc1, cond_false] at hF
  refine T.skip_code ?_
  refine T.seq ?_
  refine T.seq ?_
  refine T.region ?_
  refine T.pure (.slice A1 p0.length c1) (by kernel_rfl) (fun _ => by kernel_rfl) ?_
  refine T.pure (.int .i64 (p0.length : Int)) (by kernel_rfl) (fun _ => by kernel_rfl) ?_
  refine T.pure (.int .i64 0) (by kernel_rfl) (fun _ => by kernel_rfl) ?_
  refine T.nil ?_
  obtain ⟨q1, hz1, hF⟩ := Option.bind_eq_some_iff.1 hF
  refine T.mid (fun a w' => q1 = Sum.inl () ∧ ∃ (V2 : View), View.le (vw w) V2 ∧ Fr 166 [(0, .slice A1 p0.length c1), (2, .pointer (some ⟨b1, 0, none⟩))] a ∧ Hp w V2 [box b1 24 [.int .i64 0, .slice none 0 0]] w') ?_ ?_
  ·
   refine T.block ?_
   refine T.iter (fun x1 a w' => ∃ (V1 : View), View.le (vw w) V1 ∧ Fr 166 [(0, .slice A1 p0.length c1), (2, .pointer (some ⟨b1, 0, none⟩)), (22, .slice A1 p0.length c1), (23, .int .i64 (p0.length : Int)), (24, .int .i64 x1)] a ∧ Hp w V1 [box b1 24 [.int .i64 0, .slice none 0 0]] w') hz1 ?_ ?_
   ·
    exact fun a w' hf hh => Exists.intro (vw w) (And.intro (View.le_refl _) (And.intro ((((((Fr.nil hf).pick hf 24 rfl).pick hf 23 rfl).pick hf 22 rfl).pick hf 2 rfl).pick hf 0 rfl) (hh.sub (.cons_cons _ List.Sublist.slnil))))
   ·
    rintro x1 y1 hY1 hr1 a w' ⟨V1, hV1, hf, hh⟩
    refine (?_ : T 166 w V1 [box b1 24 [.int .i64 0, .slice none 0 0]] [(0, .slice A1 p0.length c1), (2, .pointer (some ⟨b1, 0, none⟩)), (22, .slice A1 p0.length c1), (23, .int .i64 (p0.length : Int)), (24, .int .i64 x1)] _) a w' hf hh
    clear hf hh
    try dsimp only at hY1
    refine T.seq ?_
    refine T.region ?_
    refine T.pure (.bool (decide (x1 < (p0.length : Int)))) (by kernel_rfl) (fun _ => by kernel_rfl) ?_
    refine T.nil ?_
    refine T.seq ?_
    refine T.cond (decide (x1 < (p0.length : Int))) (by kernel_rfl) (by kernel_rfl) (fun hc2 => ?_) (fun hc2 => ?_)
    ·
     rw [hc2, cond_true] at hY1
     refine T.skip_code ?_
     refine T.seq ?_
     refine T.block ?_
     refine T.seq ?_
     refine T.region ?_
     refine T.pure (.int .i64 x1) (by kernel_rfl) (fun _ => by kernel_rfl) ?_
     obtain ⟨e1, hb1, hY1⟩ := Option.bind_eq_some_iff.1 hY1
     obtain ⟨hi1, hi2, hi3⟩ := idx_some hb1
     refine T.look (.pointer (some ((sadr A1).add (x1.toNat * 6)))) (by kernel_rfl) (fun w' hh => exec_indexAddr (e := 28) (s := 6) rfl rfl rfl (by kernel_rfl) (by kernel_rfl) hi1 hi2 ((SlOk.mono hs1 hV1).some_ hi3 (by decide))) ?_
     refine T.look (.agg #[.int .i64 e1.key.pfs, .int .i64 e1.key.obj, .int .i64 e1.key.off, .int .i64 e1.made, .int .i64 e1.gone, .string e1.val]) (by kernel_rfl) (fun w' hh => exec_loadN (cs := [.int .i64 e1.key.pfs, .int .i64 e1.key.obj, .int .i64 e1.key.off, .int .i64 e1.made, .int .i64 e1.gone, .string e1.val]) rfl rfl (by kernel_rfl) (by kernel_rfl) (fun j u hj => (hh.cell_view (SlOk.cellF (E := eElem) (SlOk.mono hs1 hV1) hi3 j (fun _ _ _ h => h) hj)))) ?_
     refine T.step (W1.new 28 [.int .i64 0, .int .i64 0, .int .i64 0, .int .i64 0, .int .i64 0, .string (ByteArray.mk #[])] (fun b => .pointer (some ⟨b, 0, none⟩)) (by kernel_rfl) (fun _ => by kernel_rfl) (fun b2 => ?_))
     refine T.pure (.int .i64 x1) (by kernel_rfl) (fun _ => by kernel_rfl) ?_
     refine T.step (W1.store 0 [.int .i64 e1.key.pfs, .int .i64 e1.key.obj, .int .i64 e1.key.off, .int .i64 e1.made, .int .i64 e1.gone, .string e1.val] [box b2 28 [.int .i64 e1.key.pfs, .int .i64 e1.key.obj, .int .i64 e1.key.off, .int .i64 e1.made, .int .i64 e1.gone, .string e1.val], box b1 24 [.int .i64 0, .slice none 0 0]] (by rfl) rfl (by kernel_rfl) (fun w' hw => exec_store (vs := [.int .i64 e1.key.pfs, .int .i64 e1.key.obj, .int .i64 e1.key.off, .int .i64 e1.made, .int .i64 e1.gone, .string e1.val]) rfl rfl rfl rfl (by kernel_rfl) (one_of rfl) (by simp) rfl hw) ?_)
     refine T.nil ?_
     refine T.seq ?_
     refine T.seq ?_
     refine T.region ?_
     refine T.look (.agg #[.int .i64 e1.key.pfs, .int .i64 e1.key.obj, .int .i64 e1.key.off, .int .i64 e1.made, .int .i64 e1.gone, .string e1.val]) (by kernel_rfl) (fun w' hh => exec_loadN (cs := [.int .i64 e1.key.pfs, .int .i64 e1.key.obj, .int .i64 e1.key.off, .int .i64 e1.made, .int .i64 e1.gone, .string e1.val]) rfl rfl (by kernel_rfl) (by kernel_rfl) (fun j u hj => (hh.box_at (i := 0) (cs := [.int .i64 e1.key.pfs, .int .i64 e1.key.obj, .int .i64 e1.key.off, .int .i64 e1.made, .int .i64 e1.gone, .string e1.val]) (by rfl) 0 j).trans (seg_at (n := 6) (by rfl) hj))) ?_
     obtain ⟨r1, hb2, hY1⟩ := Option.bind_eq_some_iff.1 hY1
     refine T.step (W1.call (vSc eInt) r1 20 #[.agg #[.int .i64 e1.key.pfs, .int .i64 e1.key.obj, .int .i64 e1.key.off, .int .i64 e1.made, .int .i64 e1.gone, .string e1.val]] (by kernel_rfl) (fun _ => by kernel_rfl) (fun w' hh => elem_Check_l e1 r1 hb2 w' ) ?_)
     intro u V3 hV3 hu
     obtain rfl := sureInt _ _ _ hu
     refine T.pure (.int .i64 r1) (by kernel_rfl) (fun _ => by kernel_rfl) ?_
     refine T.nil ?_
     refine T.seq ?_
     refine T.region ?_
     refine T.pure (.int .i64 r1) (by kernel_rfl) (fun _ => by kernel_rfl) ?_
     refine T.pure (.bool (r1 != 0)) (by kernel_rfl) (fun _ => by kernel_rfl) ?_
     refine T.nil ?_
     refine T.cond (r1 != 0) (by kernel_rfl) (by kernel_rfl) (fun hc3 => ?_) (fun hc3 => ?_)
     ·
      rw [hc3, cond_true] at hY1
      refine T.seq ?_
      refine T.region ?_
      refine T.pure (.agg #[.int .i64 0, .slice none 0 0]) (by kernel_rfl) (fun _ => by kernel_rfl) ?_
      refine T.pure (.int .i64 r1) (by kernel_rfl) (fun _ => by kernel_rfl) ?_
      refine T.step (W1.store 1 [.int .i64 0, .slice none 0 0] [box b2 28 [.int .i64 e1.key.pfs, .int .i64 e1.key.obj, .int .i64 e1.key.off, .int .i64 e1.made, .int .i64 e1.gone, .string e1.val], box b1 24 [.int .i64 0, .slice none 0 0]] (by rfl) rfl (by kernel_rfl) (fun w' hw => exec_store (vs := [.int .i64 0, .slice none 0 0]) rfl rfl rfl rfl (by kernel_rfl) (one_of rfl) (by simp) rfl hw) ?_)
      refine T.pure (.int .i64 r1) (by kernel_rfl) (fun _ => by kernel_rfl) ?_
      refine T.nil ?_
      cases hY1
      cases (hr1 _ rfl)
      try dsimp only at hF
      cases hF
      refine T.ret rfl ?_
      exact T.ret2 rfl (ResIs.cellN 1 rfl (by rfl) (fun _ => by kernel_rfl) (fun _ => by kernel_rfl)) (ResIs.tmp rfl) fun w' hh => ⟨_, rfl, hh.below, (vT2.mk (vAg.mk ⟨_, _, rfl, (SlOk.nil _ _)⟩) (show _ from rfl))⟩
     ·
      rw [hc3, cond_false] at hY1
      refine T.skip_code ?_
      obtain ⟨z1, hX1, hY1⟩ := Option.bind_eq_some_iff.1 hY1
      refine T.cut (fun a w' => Fr 166 [(0, .slice A1 p0.length c1), (2, .pointer (some ⟨b1, 0, none⟩)), (22, .slice A1 p0.length c1), (23, .int .i64 (p0.length : Int)), (24, .int .i64 x1), (48, .bool z1)] a ∧ Hp w V3 [box b1 24 [.int .i64 0, .slice none 0 0]] w') ?_ ?_
      ·
       refine T.quiet (by kernel_rfl) (by kernel_rfl) ?_
       refine TQ.pure (.int .i64 x1) (by kernel_rfl) (fun _ => by kernel_rfl) ?_
       refine TQ.pure (.bool (decide ((0 : Int) < x1))) (by kernel_rfl) (fun _ => by kernel_rfl) ?_
       refine TQ.pure (.bool (decide ((0 : Int) < x1))) (by kernel_rfl) (fun _ => by kernel_rfl) ?_
       cases hg1 : decide ((0 : Int) < x1)
       ·
        skip
        rw [hg1, cond_false] at hX1
        refine TQ.pass (by kernel_rfl) (by kernel_rfl) ?_
        refine TQ.pass (by kernel_rfl) (by kernel_rfl) ?_
        refine TQ.pass (by kernel_rfl) (by kernel_rfl) ?_
        refine TQ.pass (by kernel_rfl) (by kernel_rfl) ?_
        refine TQ.pass (by kernel_rfl) (by kernel_rfl) ?_
        refine TQ.pass (by kernel_rfl) (by kernel_rfl) ?_
        refine TQ.pass (by kernel_rfl) (by kernel_rfl) ?_
        refine TQ.pass (by kernel_rfl) (by kernel_rfl) ?_
        refine TQ.pass (by kernel_rfl) (by kernel_rfl) ?_
        refine TQ.pass (by kernel_rfl) (by kernel_rfl) ?_
        refine TQ.pure (.bool false) (by kernel_rfl) (fun _ => by kernel_rfl) ?_
        refine TQ.nil ?_
        cases hX1
        exact fun a w' hf hh => And.intro (((((((Fr.nil hf).pick hf 48 rfl).pick hf 24 rfl).pick hf 23 rfl).pick hf 22 rfl).pick hf 2 rfl).pick hf 0 rfl) (hh.sub (.cons _ (.cons_cons _ List.Sublist.slnil)))
       ·
        skip
        rw [hg1, cond_true] at hX1
        refine TQ.pure (.slice A1 p0.length c1) (by kernel_rfl) (fun _ => by kernel_rfl) ?_
        refine TQ.pure (.int .i64 x1) (by kernel_rfl) (fun _ => by kernel_rfl) ?_
        refine TQ.pure (.int .i64 (IntKind.i64.wrap (x1 - 1))) (by kernel_rfl) (fun _ => by kernel_rfl) ?_
        obtain ⟨e2, hb3, hX1⟩ := Option.bind_eq_some_iff.1 hX1
        obtain ⟨hi4, hi5, hi6⟩ := idx_some hb3
        refine TQ.look (.pointer (some ((sadr A1).add (((IntKind.i64.wrap (x1 - 1)).toNat) * 6)))) (by kernel_rfl) (fun w' hh => exec_indexAddr (e := 28) (s := 6) rfl rfl rfl (by kernel_rfl) (by kernel_rfl) hi4 hi5 ((SlOk.mono hs1 (View.le_trans hV1 hV3)).some_ hi6 (by decide))) ?_
        refine TQ.look (.agg #[.int .i64 e2.key.pfs, .int .i64 e2.key.obj, .int .i64 e2.key.off, .int .i64 e2.made, .int .i64 e2.gone, .string e2.val]) (by kernel_rfl) (fun w' hh => exec_loadN (cs := [.int .i64 e2.key.pfs, .int .i64 e2.key.obj, .int .i64 e2.key.off, .int .i64 e2.made, .int .i64 e2.gone, .string e2.val]) rfl rfl (by kernel_rfl) (by kernel_rfl) (fun j u hj => (hh.cell_view (SlOk.cellF (E := eElem) (SlOk.mono hs1 (View.le_trans hV1 hV3)) hi6 j (fun _ _ _ h => h) hj)))) ?_
        obtain ⟨r2, hb4, hX1⟩ := Option.bind_eq_some_iff.1 hX1
        refine TQ.call (vAg eSpot) r2 22 #[.agg #[.int .i64 e2.key.pfs, .int .i64 e2.key.obj, .int .i64 e2.key.off, .int .i64 e2.made, .int .i64 e2.gone, .string e2.val]] (.agg #[.int .i64 r2.key.pfs, .int .i64 r2.key.obj, .int .i64 r2.key.off, .int .i64 r2.made]) (fun V u hu => sureSpot V u _ hu) (by kernel_rfl) (fun _ => by kernel_rfl) (fun w' hh => elem_Spot_l e2 r2 hb4 w' ) ?_
        refine TQ.look (.agg #[.int .i64 e1.key.pfs, .int .i64 e1.key.obj, .int .i64 e1.key.off, .int .i64 e1.made, .int .i64 e1.gone, .string e1.val]) (by kernel_rfl) (fun w' hh => exec_loadN (cs := [.int .i64 e1.key.pfs, .int .i64 e1.key.obj, .int .i64 e1.key.off, .int .i64 e1.made, .int .i64 e1.gone, .string e1.val]) rfl rfl (by kernel_rfl) (by kernel_rfl) (fun j u hj => (hh.box_at (i := 0) (cs := [.int .i64 e1.key.pfs, .int .i64 e1.key.obj, .int .i64 e1.key.off, .int .i64 e1.made, .int .i64 e1.gone, .string e1.val]) (by rfl) 0 j).trans (seg_at (n := 6) (by rfl) hj))) ?_
        obtain ⟨r3, hb5, hX1⟩ := Option.bind_eq_some_iff.1 hX1
        refine TQ.call (vAg eSpot) r3 22 #[.agg #[.int .i64 e1.key.pfs, .int .i64 e1.key.obj, .int .i64 e1.key.off, .int .i64 e1.made, .int .i64 e1.gone, .string e1.val]] (.agg #[.int .i64 r3.key.pfs, .int .i64 r3.key.obj, .int .i64 r3.key.off, .int .i64 r3.made]) (fun V u hu => sureSpot V u _ hu) (by kernel_rfl) (fun _ => by kernel_rfl) (fun w' hh => elem_Spot_l e1 r3 hb5 w' ) ?_
        obtain ⟨r4, hb6, hX1⟩ := Option.bind_eq_some_iff.1 hX1
        refine TQ.call (vSc eInt) r4 62 #[.agg #[.int .i64 r2.key.pfs, .int .i64 r2.key.obj, .int .i64 r2.key.off, .int .i64 r2.made], .agg #[.int .i64 r3.key.pfs, .int .i64 r3.key.obj, .int .i64 r3.key.off, .int .i64 r3.made]] (.int .i64 r4) (fun V u hu => sureInt V u _ hu) (by kernel_rfl) (fun _ => by kernel_rfl) (fun w' hh => key_CmpSpot_l r2 r3 r4 hb6 w' ) ?_
        refine TQ.pure (.bool (decide ((0 : Int) ≤ r4))) (by kernel_rfl) (fun _ => by kernel_rfl) ?_
        refine TQ.pure (.bool (decide ((0 : Int) ≤ r4))) (by kernel_rfl) (fun _ => by kernel_rfl) ?_
        refine TQ.nil ?_
        cases hX1
        exact fun a w' hf hh => And.intro (((((((Fr.nil hf).pick hf 48 rfl).pick hf 24 rfl).pick hf 23 rfl).pick hf 22 rfl).pick hf 2 rfl).pick hf 0 rfl) (hh.sub (.cons _ (.cons_cons _ List.Sublist.slnil)))
      ·
       rintro a w' ⟨hf, hh⟩
       refine (?_ : T 166 w V3 [box b1 24 [.int .i64 0, .slice none 0 0]] [(0, .slice A1 p0.length c1), (2, .pointer (some ⟨b1, 0, none⟩)), (22, .slice A1 p0.length c1), (23, .int .i64 (p0.length : Int)), (24, .int .i64 x1), (48, .bool z1)] _) a w' hf hh
       clear hf hh
       refine T.cond z1 (by kernel_rfl) (by kernel_rfl) (fun hc4 => ?_) (fun hc4 => ?_)
       ·
        rw [hc4, cond_true] at hY1
        refine T.seq ?_
        refine T.region ?_
        refine T.pure (.agg #[.int .i64 0, .slice none 0 0]) (by kernel_rfl) (fun _ => by kernel_rfl) ?_
        refine T.step (W1.store 0 [.int .i64 0, .slice none 0 0] [box b1 24 [.int .i64 0, .slice none 0 0]] (by rfl) rfl (by kernel_rfl) (fun w' hw => exec_store (vs := [.int .i64 0, .slice none 0 0]) rfl rfl rfl rfl (by kernel_rfl) (one_of rfl) (by simp) rfl hw) ?_)
        refine T.pure (.int .i64 3) (by kernel_rfl) (fun _ => by kernel_rfl) ?_
        refine T.nil ?_
        cases hY1
        cases (hr1 _ rfl)
        try dsimp only at hF
        cases hF
        refine T.ret rfl ?_
        exact T.ret2 rfl (ResIs.cellN 0 rfl (by rfl) (fun _ => by kernel_rfl) (fun _ => by kernel_rfl)) (ResIs.tmp rfl) fun w' hh => ⟨_, rfl, hh.below, (vT2.mk (vAg.mk ⟨_, _, rfl, (SlOk.nil _ _)⟩) (show _ from rfl))⟩
       ·
        rw [hc4, cond_false] at hY1
        refine T.skip_code ?_
        refine T.region ?_
        refine T.pure (.int .i64 (IntKind.i64.wrap (x1 + 1))) (by kernel_rfl) (fun _ => by kernel_rfl) ?_
        refine T.pure (.int .i64 (IntKind.i64.wrap (x1 + 1))) (by kernel_rfl) (fun _ => by kernel_rfl) ?_
        refine T.nil ?_
        cases hY1
        exact fun a w' hf hh => Exists.intro (IntKind.i64.wrap (x1 + 1)) (And.intro rfl (Exists.intro V3 (And.intro (View.le_trans hV1 hV3) (And.intro ((((((Fr.nil hf).pick hf 24 rfl).pick hf 23 rfl).pick hf 22 rfl).pick hf 2 rfl).pick hf 0 rfl) (hh.sub (.cons_cons _ List.Sublist.slnil))))))
    ·
     rw [hc2, cond_false] at hY1
     refine T.exit ?_
     cases hY1
     cases (hr1 _ rfl)
     exact fun a w' hf hh => And.intro rfl (Exists.intro V1 (And.intro hV1 (And.intro (((Fr.nil hf).pick hf 2 rfl).pick hf 0 rfl) (hh.sub (.cons_cons _ List.Sublist.slnil)))))
  ·
   rintro a w' ⟨rfl, V2, hV2, hf, hh⟩
   try dsimp only at hF
   refine (?_ : T 166 w V2 [box b1 24 [.int .i64 0, .slice none 0 0]] [(0, .slice A1 p0.length c1), (2, .pointer (some ⟨b1, 0, none⟩))] _) a w' hf hh
   clear hf hh
   refine T.seq ?_
   refine T.region ?_
   refine T.step (W1.new 24 [.int .i64 0, .slice none 0 0] (fun b => .pointer (some ⟨b, 0, none⟩)) (by kernel_rfl) (fun _ => by kernel_rfl) (fun b3 => ?_))
   refine T.nil ?_
   refine T.seq ?_
   refine T.region ?_
   refine T.pure (.slice none 0 0) (by kernel_rfl) (fun _ => by kernel_rfl) ?_
   refine T.nil ?_
   refine T.seq ?_
   refine T.seq ?_
   refine T.region ?_
   refine T.pure (.slice A1 p0.length c1) (by kernel_rfl) (fun _ => by kernel_rfl) ?_
   refine T.pure (.int .i64 (p0.length : Int)) (by kernel_rfl) (fun _ => by kernel_rfl) ?_
   obtain ⟨r5, hb7, hF⟩ := Option.bind_eq_some_iff.1 hF
   refine T.step (W1.call (vSc (eList eInt)) r5 72 #[.int .i64 (p0.length : Int)] (by kernel_rfl) (fun _ => by kernel_rfl) (fun w' hh => build_shares_l F (p0.length : Int) r5 hb7 w' ) ?_)
   intro u V4 hV4 hu
   obtain ⟨A2, c2, rfl, hs2⟩ := vlist_elim hu
   refine T.pure (.int .i64 (r5.length : Int)) (by kernel_rfl) (fun _ => by kernel_rfl) ?_
   refine T.pure (.int .i64 0) (by kernel_rfl) (fun _ => by kernel_rfl) ?_
   refine T.nil ?_
   refine T.rownil 123 ebuild_low ?_
   refine T.rownil 97 (eAt w eNode) ?_
   obtain ⟨q2, hz2, hF⟩ := Option.bind_eq_some_iff.1 hF
   refine T.mid (fun a w' => ∃ (z2 : List DNode) (z3 : List Dbuild_low), q2 = (z2, z3) ∧ ∃ (A6 : Option Addr) (c6 : Nat) (A7 : Option Addr) (c7 : Nat) (V6 : View), View.le V4 V6 ∧ Fr 166 [(2, .pointer (some ⟨b1, 0, none⟩)), (7, .pointer (some ⟨b3, 0, none⟩)), (8, .slice A7 z3.length c7)] a ∧ Hp w V6 [row 97 (eAt w eNode) A6 c6 z2, row 123 ebuild_low A7 c7 z3, box b3 24 [.int .i64 0, .slice A6 z2.length c6], box b1 24 [.int .i64 0, .slice none 0 0]] w') ?_ ?_
   ·
    refine T.block ?_
    refine T.iter (fun s1 a w' => ∃ (x2 : List DNode) (x3 : List Dbuild_low) (x4 : List DElem) (x5 : Int), s1 = (x2, x3, x4, x5) ∧ ∃ (A3 : Option Addr) (c3 : Nat) (A4 : Option Addr) (c4 : Nat) (A5 : Option Addr) (c5 : Nat) (V5 : View), View.le V4 V5 ∧ SlOk V5 eElem A5 c5 x4 ∧ Fr 166 [(0, .slice A5 x4.length c5), (2, .pointer (some ⟨b1, 0, none⟩)), (7, .pointer (some ⟨b3, 0, none⟩)), (8, .slice A4 x3.length c4), (53, .slice A2 r5.length c2), (54, .int .i64 (r5.length : Int)), (55, .int .i64 x5)] a ∧ Hp w V5 [row 97 (eAt w eNode) A3 c3 x2, row 123 ebuild_low A4 c4 x3, box b3 24 [.int .i64 0, .slice A3 x2.length c3], box b1 24 [.int .i64 0, .slice none 0 0]] w') hz2 ?_ ?_
    ·
     exact fun a w' hf hh => Exists.intro [] (Exists.intro [] (Exists.intro p0 (Exists.intro 0 (And.intro rfl (Exists.intro none (Exists.intro 0 (Exists.intro none (Exists.intro 0 (Exists.intro A1 (Exists.intro c1 (Exists.intro V4 (And.intro (View.le_refl _) (And.intro (SlOk.mono hs1 (View.le_trans hV2 hV4)) (And.intro ((((((((Fr.nil hf).pick hf 55 rfl).pick hf 54 rfl).pick hf 53 rfl).pick hf 8 rfl).pick hf 7 rfl).pick hf 2 rfl).pick hf 0 rfl) (hh.sub (.cons_cons _ (.cons_cons _ (.cons_cons _ (.cons_cons _ List.Sublist.slnil)))))))))))))))))))
    ·
     rintro s1 y2 hY2 hr2 a w' ⟨x2, x3, x4, x5, rfl, A3, c3, A4, c4, A5, c5, V5, hV5, hs3, hf, hh⟩
     refine (?_ : T 166 w V5 [row 97 (eAt w eNode) A3 c3 x2, row 123 ebuild_low A4 c4 x3, box b3 24 [.int .i64 0, .slice A3 x2.length c3], box b1 24 [.int .i64 0, .slice none 0 0]] [(0, .slice A5 x4.length c5), (2, .pointer (some ⟨b1, 0, none⟩)), (7, .pointer (some ⟨b3, 0, none⟩)), (8, .slice A4 x3.length c4), (53, .slice A2 r5.length c2), (54, .int .i64 (r5.length : Int)), (55, .int .i64 x5)] _) a w' hf hh
     clear hf hh
     try dsimp only at hY2
     refine T.seq ?_
     refine T.region ?_
     refine T.pure (.bool (decide (x5 < (r5.length : Int)))) (by kernel_rfl) (fun _ => by kernel_rfl) ?_
     refine T.nil ?_
     refine T.seq ?_
     refine T.cond (decide (x5 < (r5.length : Int))) (by kernel_rfl) (by kernel_rfl) (fun hc5 => ?_) (fun hc5 => ?_)
     ·
      rw [hc5, cond_true] at hY2
      refine T.skip_code ?_
      refine T.seq ?_
      refine T.block ?_
      refine T.seq ?_
      refine T.region ?_
      obtain ⟨e3, hb8, hY2⟩ := Option.bind_eq_some_iff.1 hY2
      obtain ⟨hi7, hi8, hi9⟩ := idx_some hb8
      refine T.look (.pointer (some ((sadr A2).add (x5.toNat * 1)))) (by kernel_rfl) (fun w' hh => exec_indexAddr (e := 3) (s := 1) rfl rfl rfl (by kernel_rfl) (by kernel_rfl) hi7 hi8 ((SlOk.mono hs2 (View.le_trans (made_le _ _) hV5)).some_ hi9 (by decide))) ?_
      refine T.look (.int .i64 e3) (by kernel_rfl) (fun w' hh => exec_load1 rfl rfl (by kernel_rfl) (hh.cell_view (SlOk.cellF0 (E := eInt) (SlOk.mono hs2 (View.le_trans (made_le _ _) hV5)) hi9 (fun _ _ _ h => h) rfl))) ?_
      refine T.pure (.int .i64 e3) (by kernel_rfl) (fun _ => by kernel_rfl) ?_
      refine T.nil ?_
      refine T.seq ?_
      refine T.region ?_
      refine T.pure (.pointer (some ⟨b3, 1, none⟩)) (by kernel_rfl) (fun _ => by kernel_rfl) ?_
      refine T.look (.slice A3 x2.length c3) (by kernel_rfl) (fun w' hh => exec_load1 rfl rfl (by kernel_rfl) (hh.cellBox (i := 2) (by rfl) 1)) ?_
      refine T.pure (.int .i64 (x2.length : Int)) (by kernel_rfl) (fun _ => by kernel_rfl) ?_
      refine T.pure (.agg #[.int .i64 (x2.length : Int), .int .i64 0, .int .i64 0, .int .i64 0, .int .i64 0]) (by kernel_rfl) (fun _ => by kernel_rfl) ?_
      refine T.step (W1.new 123 [.int .i64 0, .int .i64 0, .int .i64 0, .int .i64 0, .int .i64 0] (fun b => .pointer (some ⟨b, 0, none⟩)) (by kernel_rfl) (fun _ => by kernel_rfl) (fun b4 => ?_))
      refine T.step (W1.store 0 [.int .i64 (x2.length : Int), .int .i64 0, .int .i64 0, .int .i64 0, .int .i64 0] [box b4 123 [.int .i64 (x2.length : Int), .int .i64 0, .int .i64 0, .int .i64 0, .int .i64 0], row 97 (eAt w eNode) A3 c3 x2, row 123 ebuild_low A4 c4 x3, box b3 24 [.int .i64 0, .slice A3 x2.length c3], box b1 24 [.int .i64 0, .slice none 0 0]] (by rfl) rfl (by kernel_rfl) (fun w' hw => exec_store (vs := [.int .i64 (x2.length : Int), .int .i64 0, .int .i64 0, .int .i64 0, .int .i64 0]) rfl rfl rfl rfl (by kernel_rfl) (one_of rfl) (by simp) rfl hw) ?_)
      refine T.nil ?_
      obtain ⟨q3, hX2, hY2⟩ := Option.bind_eq_some_iff.1 hY2
      refine T.cut (fun a w' => ∃ (z4 : Int) (z5 : Int) (z6 : Int) (z7 : Int), q3 = (z4, z5, z6, z7) ∧ ∃ (V7 : View), View.le V5 V7 ∧ Fr 166 [(0, .slice A5 x4.length c5), (2, .pointer (some ⟨b1, 0, none⟩)), (7, .pointer (some ⟨b3, 0, none⟩)), (8, .slice A4 x3.length c4), (10, .int .i64 e3), (11, .pointer (some ⟨b4, 0, none⟩)), (53, .slice A2 r5.length c2), (54, .int .i64 (r5.length : Int)), (55, .int .i64 x5)] a ∧ Hp w V7 [box b4 123 [.int .i64 (x2.length : Int), .int .i64 z4, .int .i64 z5, .int .i64 z6, .int .i64 z7], row 97 (eAt w eNode) A3 c3 x2, row 123 ebuild_low A4 c4 x3, box b3 24 [.int .i64 0, .slice A3 x2.length c3], box b1 24 [.int .i64 0, .slice none 0 0]] w') ?_ ?_
      ·
       refine T.seq ?_
       refine T.region ?_
       refine T.pure (.int .i64 e3) (by kernel_rfl) (fun _ => by kernel_rfl) ?_
       refine T.pure (.bool (decide ((0 : Int) < e3))) (by kernel_rfl) (fun _ => by kernel_rfl) ?_
       refine T.nil ?_
       refine T.cond (decide ((0 : Int) < e3)) (by kernel_rfl) (by kernel_rfl) (fun hc6 => ?_) (fun hc6 => ?_)
       ·
        rw [hc6, cond_true] at hX2
        refine T.region ?_
        refine T.pure (.slice A5 x4.length c5) (by kernel_rfl) (fun _ => by kernel_rfl) ?_
        obtain ⟨e4, hb9, hX2⟩ := Option.bind_eq_some_iff.1 hX2
        obtain ⟨hi10, hi11, hi12⟩ := idx_some hb9
        refine T.look (.pointer (some ((sadr A5).add (((0 : Int).toNat) * 6)))) (by kernel_rfl) (fun w' hh => exec_indexAddr (e := 28) (s := 6) rfl rfl rfl (by kernel_rfl) (by kernel_rfl) hi10 hi11 (hs3.some_ hi12 (by decide))) ?_
        refine T.look (.agg #[.int .i64 e4.key.pfs, .int .i64 e4.key.obj, .int .i64 e4.key.off, .int .i64 e4.made, .int .i64 e4.gone, .string e4.val]) (by kernel_rfl) (fun w' hh => exec_loadN (cs := [.int .i64 e4.key.pfs, .int .i64 e4.key.obj, .int .i64 e4.key.off, .int .i64 e4.made, .int .i64 e4.gone, .string e4.val]) rfl rfl (by kernel_rfl) (by kernel_rfl) (fun j u hj => (hh.cell_view (SlOk.cellF (E := eElem) hs3 hi12 j (fun _ _ _ h => h) hj)))) ?_
        obtain ⟨r8, hb10, hX2⟩ := Option.bind_eq_some_iff.1 hX2
        refine T.step (W1.call (vAg eSpot) r8 22 #[.agg #[.int .i64 e4.key.pfs, .int .i64 e4.key.obj, .int .i64 e4.key.off, .int .i64 e4.made, .int .i64 e4.gone, .string e4.val]] (by kernel_rfl) (fun _ => by kernel_rfl) (fun w' hh => elem_Spot_l e4 r8 hb10 w' ) ?_)
        intro u V8 hV8 hu
        obtain rfl := sureSpot _ _ _ hu
        refine T.pure (.pointer (some ⟨b4, 1, none⟩)) (by kernel_rfl) (fun _ => by kernel_rfl) ?_
        refine T.step (W1.store 0 [.int .i64 (x2.length : Int), .int .i64 r8.key.pfs, .int .i64 r8.key.obj, .int .i64 r8.key.off, .int .i64 r8.made] [box b4 123 [.int .i64 (x2.length : Int), .int .i64 r8.key.pfs, .int .i64 r8.key.obj, .int .i64 r8.key.off, .int .i64 r8.made], row 97 (eAt w eNode) A3 c3 x2, row 123 ebuild_low A4 c4 x3, box b3 24 [.int .i64 0, .slice A3 x2.length c3], box b1 24 [.int .i64 0, .slice none 0 0]] (by rfl) rfl (by kernel_rfl) (fun w' hw => exec_store (vs := [.int .i64 r8.key.pfs, .int .i64 r8.key.obj, .int .i64 r8.key.off, .int .i64 r8.made]) rfl rfl rfl rfl (by kernel_rfl) (one_of rfl) (by simp) rfl hw) ?_)
        refine T.nil ?_
        cases hX2
        exact fun a w' hf hh => Exists.intro r8.key.pfs (Exists.intro r8.key.obj (Exists.intro r8.key.off (Exists.intro r8.made (And.intro rfl (Exists.intro V8 (And.intro hV8 (And.intro ((((((((((Fr.nil hf).pick hf 55 rfl).pick hf 54 rfl).pick hf 53 rfl).pick hf 11 rfl).pick hf 10 rfl).pick hf 8 rfl).pick hf 7 rfl).pick hf 2 rfl).pick hf 0 rfl) (hh.sub (.cons_cons _ (.cons_cons _ (.cons_cons _ (.cons_cons _ (.cons_cons _ List.Sublist.slnil)))))))))))))
       ·
        rw [hc6, cond_false] at hX2
        refine T.skip_code ?_
        cases hX2
        exact fun a w' hf hh => Exists.intro 0 (Exists.intro 0 (Exists.intro 0 (Exists.intro 0 (And.intro rfl (Exists.intro V5 (And.intro (View.le_refl _) (And.intro ((((((((((Fr.nil hf).pick hf 55 rfl).pick hf 54 rfl).pick hf 53 rfl).pick hf 11 rfl).pick hf 10 rfl).pick hf 8 rfl).pick hf 7 rfl).pick hf 2 rfl).pick hf 0 rfl) (hh.sub (.cons_cons _ (.cons_cons _ (.cons_cons _ (.cons_cons _ (.cons_cons _ List.Sublist.slnil)))))))))))))
      ·
       rintro a w' ⟨z4, z5, z6, z7, rfl, V7, hV7, hf, hh⟩
       try dsimp only at hY2
       refine (?_ : T 166 w V7 [box b4 123 [.int .i64 (x2.length : Int), .int .i64 z4, .int .i64 z5, .int .i64 z6, .int .i64 z7], row 97 (eAt w eNode) A3 c3 x2, row 123 ebuild_low A4 c4 x3, box b3 24 [.int .i64 0, .slice A3 x2.length c3], box b1 24 [.int .i64 0, .slice none 0 0]] [(0, .slice A5 x4.length c5), (2, .pointer (some ⟨b1, 0, none⟩)), (7, .pointer (some ⟨b3, 0, none⟩)), (8, .slice A4 x3.length c4), (10, .int .i64 e3), (11, .pointer (some ⟨b4, 0, none⟩)), (53, .slice A2 r5.length c2), (54, .int .i64 (r5.length : Int)), (55, .int .i64 x5)] _) a w' hf hh
       clear hf hh
       refine T.seq ?_
       obtain ⟨s2, hb11, hY2⟩ := Option.bind_eq_some_iff.1 hY2
       obtain ⟨y3, hb12, hY2⟩ := Option.bind_eq_some_iff.1 hY2
       obtain ⟨y4, hb13, hY2⟩ := Option.bind_eq_some_iff.1 hY2
       refine T.mid (fun a w' => ∃ (A10 : Option Addr) (c10 : Nat) (V10 : View), View.le V7 V10 ∧ Fr 166 [(0, .slice A5 x4.length c5), (2, .pointer (some ⟨b1, 0, none⟩)), (7, .pointer (some ⟨b3, 0, none⟩)), (8, .slice A4 x3.length c4), (10, .int .i64 e3), (11, .pointer (some ⟨b4, 0, none⟩)), (53, .slice A2 r5.length c2), (54, .int .i64 (r5.length : Int)), (55, .int .i64 x5)] a ∧ Hp w V10 [box b4 123 [.int .i64 (x2.length : Int), .int .i64 z4, .int .i64 z5, .int .i64 z6, .int .i64 z7], row 97 (eAt w eNode) A10 c10 (x2 ++ [(DNode.mk 1 (([] : List DElem) ++ s2) [] [] [])]), row 123 ebuild_low A4 c4 x3, box b3 24 [.int .i64 0, .slice A10 ((x2 ++ [(DNode.mk 1 (([] : List DElem) ++ s2) [] [] [])]).length) c10], box b1 24 [.int .i64 0, .slice none 0 0]] w') ?_ ?_
       ·
        refine T.held [box b4 123 [.int .i64 (x2.length : Int), .int .i64 z4, .int .i64 z5, .int .i64 z6, .int .i64 z7], row 123 ebuild_low A4 c4 x3, box b1 24 [.int .i64 0, .slice none 0 0]] (by kernel_rfl) ?_
        refine TA.take 0 (.pointer (some ⟨b3, 1, none⟩)) rfl (by kernel_rfl) (by kernel_rfl) (by kernel_rfl) (fun _ _ _ h => h) (Hp.old (View.le_refl _) (View.le_trans (View.le_trans (View.le_trans hV2 hV4) hV5) hV7) (.cons_cons _ (.cons _ (.cons_cons _ (.cons _ (.cons_cons _ List.Sublist.slnil))))) (OldAll.box (OldAll.row (fun _ _ _ _ h => h) (OldAll.box OldAll.nil)))) (by kernel_rfl) (fun _ _ => by kernel_rfl) ?_
        refine TA.take 2 (.slice A5 x4.length c5) rfl (by kernel_rfl) (by kernel_rfl) (by kernel_rfl) (fun _ _ _ h => h) (Hp.old (View.le_refl _) (View.le_trans (View.le_trans (View.le_trans hV2 hV4) hV5) hV7) (.cons_cons _ (.cons _ (.cons_cons _ (.cons _ (.cons_cons _ List.Sublist.slnil))))) (OldAll.box (OldAll.row (fun _ _ _ _ h => h) (OldAll.box OldAll.nil)))) (by kernel_rfl) (fun _ _ => by kernel_rfl) ?_
        refine TA.take 3 (.int .i64 e3) rfl (by kernel_rfl) (by kernel_rfl) (by kernel_rfl) (fun _ _ _ h => h) (Hp.old (View.le_refl _) (View.le_trans (View.le_trans (View.le_trans hV2 hV4) hV5) hV7) (.cons_cons _ (.cons _ (.cons_cons _ (.cons _ (.cons_cons _ List.Sublist.slnil))))) (OldAll.box (OldAll.row (fun _ _ _ _ h => h) (OldAll.box OldAll.nil)))) (by kernel_rfl) (fun _ _ => by kernel_rfl) ?_
        refine TA.take 4 (.slice A5 s2.length c5) rfl (by kernel_rfl) (by kernel_rfl) (by kernel_rfl) (fun _ _ _ h => h) (Hp.old (View.le_refl _) (View.le_trans (View.le_trans (View.le_trans hV2 hV4) hV5) hV7) (.cons_cons _ (.cons _ (.cons_cons _ (.cons _ (.cons_cons _ List.Sublist.slnil))))) (OldAll.box (OldAll.row (fun _ _ _ _ h => h) (OldAll.box OldAll.nil)))) (by kernel_rfl) (fun w' hh => exec_slice_list0 (e := 28) (s := 6) (lx := none) (hx := (some _)) (k := .i64) (k' := .i64) rfl rfl (by kernel_rfl) (by kernel_rfl) ((SlOk.mono hs3 hV7)).1 rfl rfl hb11) ?_
        refine TA.all [1, 5] (by kernel_rfl) rfl ⟨?_, ?_, trivial⟩
        ·
         refine TA.br rfl (W1.look (.slice A3 x2.length c3) (by kernel_rfl) (fun w' hh => exec_load1 rfl rfl (by kernel_rfl) (hh.cellBox (i := 3) (by rfl) 1)) ?_)
         refine TA.on (Hp.old (View.le_refl _) (View.le_trans (View.le_trans (View.le_trans hV2 hV4) hV5) hV7) (.cons_cons _ (.cons _ (.cons_cons _ (.cons _ (.cons_cons _ List.Sublist.slnil))))) (OldAll.box (OldAll.row (fun _ _ _ _ h => h) (OldAll.box OldAll.nil)))) ?_
         refine TA.all [5] (by kernel_rfl) rfl ⟨?_, trivial⟩
         refine TA.br rfl (W1.rownil 28 eElem ?_)
         obtain ⟨hb12_r, hb12_m, rfl⟩ := grow_some hb12
         obtain ⟨ti, hti, hz1, hz2, hz3⟩ := info_parts (P := Try.prog) (e := 28) (z := .agg #[.int .i64 0, .int .i64 0, .int .i64 0, .int .i64 0, .int .i64 0, .string (ByteArray.mk #[])]) (size := 6) (bytes := 56) (by kernel_rfl)
         refine  (W1.append (E := eElem) (l := ([] : List DElem)) (m := s2) 0 _ _ 56 ti _ (by rfl) (by kernel_rfl) rfl (by kernel_rfl) hti hz1 hz2 hz3 rfl (by decide) rfl rfl (fun w' hh => (SlOk.srcF (SlOk.cut0 (SlOk.mono (SlOk.mono hs3 hV7) hh.view) hb11) (fun _ _ _ _ h => h))) hb12_r hb12_m (fun A8 c8 => ?_))
         refine TA.on (Hp.old (View.le_refl _) (View.le_trans (View.le_trans (View.le_trans hV2 hV4) hV5) hV7) (.cons _ (.cons_cons _ (.cons _ (.cons_cons _ (.cons _ (.cons_cons _ List.Sublist.slnil)))))) (OldAll.box (OldAll.row (fun _ _ _ _ h => h) (OldAll.box OldAll.nil)))) ?_
         refine TA.take 6 (.agg #[.int .i64 1, .slice A8 ((([] : List DElem) ++ s2).length) c8, .slice none 0 0, .slice none 0 0, .slice none 0 0]) rfl (by kernel_rfl) (by kernel_rfl) (by kernel_rfl) (fun _ _ _ h => h) (Hp.old (View.le_refl _) (View.le_trans (View.le_trans (View.le_trans hV2 hV4) hV5) hV7) (.cons _ (.cons_cons _ (.cons _ (.cons_cons _ (.cons _ (.cons_cons _ List.Sublist.slnil)))))) (OldAll.box (OldAll.row (fun _ _ _ _ h => h) (OldAll.box OldAll.nil)))) (by kernel_rfl) (fun _ _ => by kernel_rfl) ?_
         refine TA.all [7] (by kernel_rfl) rfl ⟨?_, trivial⟩
         refine TA.br rfl (W1.new 97 [.int .i64 1, .slice A8 ((([] : List DElem) ++ s2).length) c8, .slice none 0 0, .slice none 0 0, .slice none 0 0] (fun b => .slice (some ⟨b, 0, none⟩) 1 1) (by kernel_rfl) (fun _ => by kernel_rfl) (fun b5 => ?_))
         refine TA.on (Hp.old (View.le_refl _) (View.le_trans (View.le_trans (View.le_trans hV2 hV4) hV5) hV7) (.cons _ (.cons _ (.cons_cons _ (.cons _ (.cons_cons _ (.cons _ (.cons_cons _ List.Sublist.slnil))))))) (OldAll.box (OldAll.row (fun _ _ _ _ h => h) (OldAll.box OldAll.nil)))) ?_
         refine TA.all [8] (by kernel_rfl) rfl ⟨?_, trivial⟩
         refine TA.br rfl ?_
         refine W1.ofT ?_
         refine T.freezeF (E := eElem) (H' := [box b5 97 [.int .i64 1, .slice A8 ((([] : List DElem) ++ s2).length) c8, .slice none 0 0, .slice none 0 0, .slice none 0 0], box b4 123 [.int .i64 (x2.length : Int), .int .i64 z4, .int .i64 z5, .int .i64 z6, .int .i64 z7], row 97 (eAt w eNode) A3 c3 x2, row 123 ebuild_low A4 c4 x3, box b3 24 [.int .i64 0, .slice A3 x2.length c3], box b1 24 [.int .i64 0, .slice none 0 0]]) 1 (by rfl) rfl (fun _ _ _ _ h => h) (fun V9 hV9 hs4 => ?_)
         obtain ⟨hb13_r, hb13_m, rfl⟩ := grow_some hb13
         obtain ⟨ti, hti, hz1, hz2, hz3⟩ := info_parts (P := Try.prog) (e := 97) (z := .agg #[.int .i64 0, .slice none 0 0, .slice none 0 0, .slice none 0 0, .slice none 0 0]) (size := 5) (bytes := 104) (by kernel_rfl)
         refine W1.toT (W1.append (E := (eAt w eNode)) (l := x2) (m := [(DNode.mk 1 (([] : List DElem) ++ s2) [] [] [])]) 2 _ _ 104 ti _ (by rfl) (by kernel_rfl) rfl (by kernel_rfl) hti hz1 hz2 hz3 rfl (Nat.le_of_ble_eq_true rfl) rfl rfl (fun w' hh => (src_one (E := (eAt w eNode)) hh (i := 0) (by rfl) ⟨A8, c8, none, 0, none, 0, none, 0, rfl, (SlOk.mono hs4 (made_mono (View.le_refl _))), (SlOk.nil _ _), (SlOk.nil _ _), (SlOk.nil _ _)⟩)) hb13_r hb13_m (fun A9 c9 => ?_))
         refine TA.on (Hp.old hV9 (View.le_trans (View.le_trans (View.le_trans hV2 hV4) hV5) hV7) (.cons _ (.cons_cons _ (.cons _ (.cons_cons _ (.cons _ (.cons_cons _ List.Sublist.slnil)))))) (OldAll.box (OldAll.row (fun _ _ _ _ h => h) (OldAll.box OldAll.nil)))) ?_
         refine TA.take 9 (.pointer (some ⟨b3, 1, none⟩)) rfl (by kernel_rfl) (by kernel_rfl) (by kernel_rfl) (fun _ _ _ h => h) (Hp.old hV9 (View.le_trans (View.le_trans (View.le_trans hV2 hV4) hV5) hV7) (.cons _ (.cons_cons _ (.cons _ (.cons_cons _ (.cons _ (.cons_cons _ List.Sublist.slnil)))))) (OldAll.box (OldAll.row (fun _ _ _ _ h => h) (OldAll.box OldAll.nil)))) (by kernel_rfl) (fun _ _ => by kernel_rfl) ?_
         refine TA.all [10] (by kernel_rfl) rfl ⟨?_, trivial⟩
         refine TA.br rfl (W1.store 4 [.int .i64 0, .slice A9 ((x2 ++ [(DNode.mk 1 (([] : List DElem) ++ s2) [] [] [])]).length) c9] [box b5 97 [.int .i64 1, .slice A8 ((([] : List DElem) ++ s2).length) c8, .slice none 0 0, .slice none 0 0, .slice none 0 0], box b4 123 [.int .i64 (x2.length : Int), .int .i64 z4, .int .i64 z5, .int .i64 z6, .int .i64 z7], row 97 (eAt w eNode) A9 c9 (x2 ++ [(DNode.mk 1 (([] : List DElem) ++ s2) [] [] [])]), row 123 ebuild_low A4 c4 x3, box b3 24 [.int .i64 0, .slice A9 ((x2 ++ [(DNode.mk 1 (([] : List DElem) ++ s2) [] [] [])]).length) c9], box b1 24 [.int .i64 0, .slice none 0 0]] (by rfl) rfl (by kernel_rfl) (fun w' hw => exec_store (vs := [.slice A9 ((x2 ++ [(DNode.mk 1 (([] : List DElem) ++ s2) [] [] [])]).length) c9]) rfl rfl rfl rfl (by kernel_rfl) (one_of rfl) (by simp) rfl hw) ?_)
         refine TA.on (Hp.old hV9 (View.le_trans (View.le_trans (View.le_trans hV2 hV4) hV5) hV7) (.cons _ (.cons_cons _ (.cons _ (.cons_cons _ (.cons _ (.cons_cons _ List.Sublist.slnil)))))) (OldAll.box (OldAll.row (fun _ _ _ _ h => h) (OldAll.box OldAll.nil)))) ?_
         refine TA.done (by kernel_rfl) ?_
         exact fun a w' hf hh => Exists.intro A9 (Exists.intro c9 (Exists.intro V9 (And.intro hV9 (And.intro ((((((((((Fr.nil hf).pick hf 55 rfl).pick hf 54 rfl).pick hf 53 rfl).pick hf 11 rfl).pick hf 10 rfl).pick hf 8 rfl).pick hf 7 rfl).pick hf 2 rfl).pick hf 0 rfl) (hh.sub (.cons _ (.cons_cons _ (.cons_cons _ (.cons_cons _ (.cons_cons _ (.cons_cons _ List.Sublist.slnil)))))))))))
        ·
         refine TA.br rfl (W1.rownil 28 eElem ?_)
         obtain ⟨hb12_r, hb12_m, rfl⟩ := grow_some hb12
         obtain ⟨ti, hti, hz1, hz2, hz3⟩ := info_parts (P := Try.prog) (e := 28) (z := .agg #[.int .i64 0, .int .i64 0, .int .i64 0, .int .i64 0, .int .i64 0, .string (ByteArray.mk #[])]) (size := 6) (bytes := 56) (by kernel_rfl)
         refine  (W1.append (E := eElem) (l := ([] : List DElem)) (m := s2) 0 _ _ 56 ti _ (by rfl) (by kernel_rfl) rfl (by kernel_rfl) hti hz1 hz2 hz3 rfl (by decide) rfl rfl (fun w' hh => (SlOk.srcF (SlOk.cut0 (SlOk.mono (SlOk.mono hs3 hV7) hh.view) hb11) (fun _ _ _ _ h => h))) hb12_r hb12_m (fun A8 c8 => ?_))
         refine TA.on (Hp.old (View.le_refl _) (View.le_trans (View.le_trans (View.le_trans hV2 hV4) hV5) hV7) (.cons _ (.cons_cons _ (.cons _ (.cons_cons _ (.cons _ (.cons_cons _ List.Sublist.slnil)))))) (OldAll.box (OldAll.row (fun _ _ _ _ h => h) (OldAll.box OldAll.nil)))) ?_
         refine TA.take 6 (.agg #[.int .i64 1, .slice A8 ((([] : List DElem) ++ s2).length) c8, .slice none 0 0, .slice none 0 0, .slice none 0 0]) rfl (by kernel_rfl) (by kernel_rfl) (by kernel_rfl) (fun _ _ _ h => h) (Hp.old (View.le_refl _) (View.le_trans (View.le_trans (View.le_trans hV2 hV4) hV5) hV7) (.cons _ (.cons_cons _ (.cons _ (.cons_cons _ (.cons _ (.cons_cons _ List.Sublist.slnil)))))) (OldAll.box (OldAll.row (fun _ _ _ _ h => h) (OldAll.box OldAll.nil)))) (by kernel_rfl) (fun _ _ => by kernel_rfl) ?_
         refine TA.all [1, 7] (by kernel_rfl) rfl ⟨?_, ?_, trivial⟩
         ·
          refine TA.br rfl (W1.look (.slice A3 x2.length c3) (by kernel_rfl) (fun w' hh => exec_load1 rfl rfl (by kernel_rfl) (hh.cellBox (i := 4) (by rfl) 1)) ?_)
          refine TA.on (Hp.old (View.le_refl _) (View.le_trans (View.le_trans (View.le_trans hV2 hV4) hV5) hV7) (.cons _ (.cons_cons _ (.cons _ (.cons_cons _ (.cons _ (.cons_cons _ List.Sublist.slnil)))))) (OldAll.box (OldAll.row (fun _ _ _ _ h => h) (OldAll.box OldAll.nil)))) ?_
          refine TA.all [7] (by kernel_rfl) rfl ⟨?_, trivial⟩
          refine TA.br rfl (W1.new 97 [.int .i64 1, .slice A8 ((([] : List DElem) ++ s2).length) c8, .slice none 0 0, .slice none 0 0, .slice none 0 0] (fun b => .slice (some ⟨b, 0, none⟩) 1 1) (by kernel_rfl) (fun _ => by kernel_rfl) (fun b5 => ?_))
          refine TA.on (Hp.old (View.le_refl _) (View.le_trans (View.le_trans (View.le_trans hV2 hV4) hV5) hV7) (.cons _ (.cons _ (.cons_cons _ (.cons _ (.cons_cons _ (.cons _ (.cons_cons _ List.Sublist.slnil))))))) (OldAll.box (OldAll.row (fun _ _ _ _ h => h) (OldAll.box OldAll.nil)))) ?_
          refine TA.all [8] (by kernel_rfl) rfl ⟨?_, trivial⟩
          refine TA.br rfl ?_
          refine W1.ofT ?_
          refine T.freezeF (E := eElem) (H' := [box b5 97 [.int .i64 1, .slice A8 ((([] : List DElem) ++ s2).length) c8, .slice none 0 0, .slice none 0 0, .slice none 0 0], box b4 123 [.int .i64 (x2.length : Int), .int .i64 z4, .int .i64 z5, .int .i64 z6, .int .i64 z7], row 97 (eAt w eNode) A3 c3 x2, row 123 ebuild_low A4 c4 x3, box b3 24 [.int .i64 0, .slice A3 x2.length c3], box b1 24 [.int .i64 0, .slice none 0 0]]) 1 (by rfl) rfl (fun _ _ _ _ h => h) (fun V9 hV9 hs4 => ?_)
          obtain ⟨hb13_r, hb13_m, rfl⟩ := grow_some hb13
          obtain ⟨ti, hti, hz1, hz2, hz3⟩ := info_parts (P := Try.prog) (e := 97) (z := .agg #[.int .i64 0, .slice none 0 0, .slice none 0 0, .slice none 0 0, .slice none 0 0]) (size := 5) (bytes := 104) (by kernel_rfl)
          refine W1.toT (W1.append (E := (eAt w eNode)) (l := x2) (m := [(DNode.mk 1 (([] : List DElem) ++ s2) [] [] [])]) 2 _ _ 104 ti _ (by rfl) (by kernel_rfl) rfl (by kernel_rfl) hti hz1 hz2 hz3 rfl (Nat.le_of_ble_eq_true rfl) rfl rfl (fun w' hh => (src_one (E := (eAt w eNode)) hh (i := 0) (by rfl) ⟨A8, c8, none, 0, none, 0, none, 0, rfl, (SlOk.mono hs4 (made_mono (View.le_refl _))), (SlOk.nil _ _), (SlOk.nil _ _), (SlOk.nil _ _)⟩)) hb13_r hb13_m (fun A9 c9 => ?_))
          refine TA.on (Hp.old hV9 (View.le_trans (View.le_trans (View.le_trans hV2 hV4) hV5) hV7) (.cons _ (.cons_cons _ (.cons _ (.cons_cons _ (.cons _ (.cons_cons _ List.Sublist.slnil)))))) (OldAll.box (OldAll.row (fun _ _ _ _ h => h) (OldAll.box OldAll.nil)))) ?_
          refine TA.take 9 (.pointer (some ⟨b3, 1, none⟩)) rfl (by kernel_rfl) (by kernel_rfl) (by kernel_rfl) (fun _ _ _ h => h) (Hp.old hV9 (View.le_trans (View.le_trans (View.le_trans hV2 hV4) hV5) hV7) (.cons _ (.cons_cons _ (.cons _ (.cons_cons _ (.cons _ (.cons_cons _ List.Sublist.slnil)))))) (OldAll.box (OldAll.row (fun _ _ _ _ h => h) (OldAll.box OldAll.nil)))) (by kernel_rfl) (fun _ _ => by kernel_rfl) ?_
          refine TA.all [10] (by kernel_rfl) rfl ⟨?_, trivial⟩
          refine TA.br rfl (W1.store 4 [.int .i64 0, .slice A9 ((x2 ++ [(DNode.mk 1 (([] : List DElem) ++ s2) [] [] [])]).length) c9] [box b5 97 [.int .i64 1, .slice A8 ((([] : List DElem) ++ s2).length) c8, .slice none 0 0, .slice none 0 0, .slice none 0 0], box b4 123 [.int .i64 (x2.length : Int), .int .i64 z4, .int .i64 z5, .int .i64 z6, .int .i64 z7], row 97 (eAt w eNode) A9 c9 (x2 ++ [(DNode.mk 1 (([] : List DElem) ++ s2) [] [] [])]), row 123 ebuild_low A4 c4 x3, box b3 24 [.int .i64 0, .slice A9 ((x2 ++ [(DNode.mk 1 (([] : List DElem) ++ s2) [] [] [])]).length) c9], box b1 24 [.int .i64 0, .slice none 0 0]] (by rfl) rfl (by kernel_rfl) (fun w' hw => exec_store (vs := [.slice A9 ((x2 ++ [(DNode.mk 1 (([] : List DElem) ++ s2) [] [] [])]).length) c9]) rfl rfl rfl rfl (by kernel_rfl) (one_of rfl) (by simp) rfl hw) ?_)
          refine TA.on (Hp.old hV9 (View.le_trans (View.le_trans (View.le_trans hV2 hV4) hV5) hV7) (.cons _ (.cons_cons _ (.cons _ (.cons_cons _ (.cons _ (.cons_cons _ List.Sublist.slnil)))))) (OldAll.box (OldAll.row (fun _ _ _ _ h => h) (OldAll.box OldAll.nil)))) ?_
          refine TA.done (by kernel_rfl) ?_
          exact fun a w' hf hh => Exists.intro A9 (Exists.intro c9 (Exists.intro V9 (And.intro hV9 (And.intro ((((((((((Fr.nil hf).pick hf 55 rfl).pick hf 54 rfl).pick hf 53 rfl).pick hf 11 rfl).pick hf 10 rfl).pick hf 8 rfl).pick hf 7 rfl).pick hf 2 rfl).pick hf 0 rfl) (hh.sub (.cons _ (.cons_cons _ (.cons_cons _ (.cons_cons _ (.cons_cons _ (.cons_cons _ List.Sublist.slnil)))))))))))
         ·
          refine TA.br rfl (W1.new 97 [.int .i64 1, .slice A8 ((([] : List DElem) ++ s2).length) c8, .slice none 0 0, .slice none 0 0, .slice none 0 0] (fun b => .slice (some ⟨b, 0, none⟩) 1 1) (by kernel_rfl) (fun _ => by kernel_rfl) (fun b5 => ?_))
          refine TA.on (Hp.old (View.le_refl _) (View.le_trans (View.le_trans (View.le_trans hV2 hV4) hV5) hV7) (.cons _ (.cons _ (.cons_cons _ (.cons _ (.cons_cons _ (.cons _ (.cons_cons _ List.Sublist.slnil))))))) (OldAll.box (OldAll.row (fun _ _ _ _ h => h) (OldAll.box OldAll.nil)))) ?_
          refine TA.all [1] (by kernel_rfl) rfl ⟨?_, trivial⟩
          refine TA.br rfl (W1.look (.slice A3 x2.length c3) (by kernel_rfl) (fun w' hh => exec_load1 rfl rfl (by kernel_rfl) (hh.cellBox (i := 5) (by rfl) 1)) ?_)
          refine TA.on (Hp.old (View.le_refl _) (View.le_trans (View.le_trans (View.le_trans hV2 hV4) hV5) hV7) (.cons _ (.cons _ (.cons_cons _ (.cons _ (.cons_cons _ (.cons _ (.cons_cons _ List.Sublist.slnil))))))) (OldAll.box (OldAll.row (fun _ _ _ _ h => h) (OldAll.box OldAll.nil)))) ?_
          refine TA.all [8] (by kernel_rfl) rfl ⟨?_, trivial⟩
          refine TA.br rfl ?_
          refine W1.ofT ?_
          refine T.freezeF (E := eElem) (H' := [box b5 97 [.int .i64 1, .slice A8 ((([] : List DElem) ++ s2).length) c8, .slice none 0 0, .slice none 0 0, .slice none 0 0], box b4 123 [.int .i64 (x2.length : Int), .int .i64 z4, .int .i64 z5, .int .i64 z6, .int .i64 z7], row 97 (eAt w eNode) A3 c3 x2, row 123 ebuild_low A4 c4 x3, box b3 24 [.int .i64 0, .slice A3 x2.length c3], box b1 24 [.int .i64 0, .slice none 0 0]]) 1 (by rfl) rfl (fun _ _ _ _ h => h) (fun V9 hV9 hs4 => ?_)
          obtain ⟨hb13_r, hb13_m, rfl⟩ := grow_some hb13
          obtain ⟨ti, hti, hz1, hz2, hz3⟩ := info_parts (P := Try.prog) (e := 97) (z := .agg #[.int .i64 0, .slice none 0 0, .slice none 0 0, .slice none 0 0, .slice none 0 0]) (size := 5) (bytes := 104) (by kernel_rfl)
          refine W1.toT (W1.append (E := (eAt w eNode)) (l := x2) (m := [(DNode.mk 1 (([] : List DElem) ++ s2) [] [] [])]) 2 _ _ 104 ti _ (by rfl) (by kernel_rfl) rfl (by kernel_rfl) hti hz1 hz2 hz3 rfl (Nat.le_of_ble_eq_true rfl) rfl rfl (fun w' hh => (src_one (E := (eAt w eNode)) hh (i := 0) (by rfl) ⟨A8, c8, none, 0, none, 0, none, 0, rfl, (SlOk.mono hs4 (made_mono (View.le_refl _))), (SlOk.nil _ _), (SlOk.nil _ _), (SlOk.nil _ _)⟩)) hb13_r hb13_m (fun A9 c9 => ?_))
          refine TA.on (Hp.old hV9 (View.le_trans (View.le_trans (View.le_trans hV2 hV4) hV5) hV7) (.cons _ (.cons_cons _ (.cons _ (.cons_cons _ (.cons _ (.cons_cons _ List.Sublist.slnil)))))) (OldAll.box (OldAll.row (fun _ _ _ _ h => h) (OldAll.box OldAll.nil)))) ?_
          refine TA.take 9 (.pointer (some ⟨b3, 1, none⟩)) rfl (by kernel_rfl) (by kernel_rfl) (by kernel_rfl) (fun _ _ _ h => h) (Hp.old hV9 (View.le_trans (View.le_trans (View.le_trans hV2 hV4) hV5) hV7) (.cons _ (.cons_cons _ (.cons _ (.cons_cons _ (.cons _ (.cons_cons _ List.Sublist.slnil)))))) (OldAll.box (OldAll.row (fun _ _ _ _ h => h) (OldAll.box OldAll.nil)))) (by kernel_rfl) (fun _ _ => by kernel_rfl) ?_
          refine TA.all [10] (by kernel_rfl) rfl ⟨?_, trivial⟩
          refine TA.br rfl (W1.store 4 [.int .i64 0, .slice A9 ((x2 ++ [(DNode.mk 1 (([] : List DElem) ++ s2) [] [] [])]).length) c9] [box b5 97 [.int .i64 1, .slice A8 ((([] : List DElem) ++ s2).length) c8, .slice none 0 0, .slice none 0 0, .slice none 0 0], box b4 123 [.int .i64 (x2.length : Int), .int .i64 z4, .int .i64 z5, .int .i64 z6, .int .i64 z7], row 97 (eAt w eNode) A9 c9 (x2 ++ [(DNode.mk 1 (([] : List DElem) ++ s2) [] [] [])]), row 123 ebuild_low A4 c4 x3, box b3 24 [.int .i64 0, .slice A9 ((x2 ++ [(DNode.mk 1 (([] : List DElem) ++ s2) [] [] [])]).length) c9], box b1 24 [.int .i64 0, .slice none 0 0]] (by rfl) rfl (by kernel_rfl) (fun w' hw => exec_store (vs := [.slice A9 ((x2 ++ [(DNode.mk 1 (([] : List DElem) ++ s2) [] [] [])]).length) c9]) rfl rfl rfl rfl (by kernel_rfl) (one_of rfl) (by simp) rfl hw) ?_)
          refine TA.on (Hp.old hV9 (View.le_trans (View.le_trans (View.le_trans hV2 hV4) hV5) hV7) (.cons _ (.cons_cons _ (.cons _ (.cons_cons _ (.cons _ (.cons_cons _ List.Sublist.slnil)))))) (OldAll.box (OldAll.row (fun _ _ _ _ h => h) (OldAll.box OldAll.nil)))) ?_
          refine TA.done (by kernel_rfl) ?_
          exact fun a w' hf hh => Exists.intro A9 (Exists.intro c9 (Exists.intro V9 (And.intro hV9 (And.intro ((((((((((Fr.nil hf).pick hf 55 rfl).pick hf 54 rfl).pick hf 53 rfl).pick hf 11 rfl).pick hf 10 rfl).pick hf 8 rfl).pick hf 7 rfl).pick hf 2 rfl).pick hf 0 rfl) (hh.sub (.cons _ (.cons_cons _ (.cons_cons _ (.cons_cons _ (.cons_cons _ (.cons_cons _ List.Sublist.slnil)))))))))))
       ·
        rintro a w' ⟨A10, c10, V10, hV10, hf, hh⟩
        refine (?_ : T 166 w V10 [box b4 123 [.int .i64 (x2.length : Int), .int .i64 z4, .int .i64 z5, .int .i64 z6, .int .i64 z7], row 97 (eAt w eNode) A10 c10 (x2 ++ [(DNode.mk 1 (([] : List DElem) ++ s2) [] [] [])]), row 123 ebuild_low A4 c4 x3, box b3 24 [.int .i64 0, .slice A10 ((x2 ++ [(DNode.mk 1 (([] : List DElem) ++ s2) [] [] [])]).length) c10], box b1 24 [.int .i64 0, .slice none 0 0]] [(0, .slice A5 x4.length c5), (2, .pointer (some ⟨b1, 0, none⟩)), (7, .pointer (some ⟨b3, 0, none⟩)), (8, .slice A4 x3.length c4), (10, .int .i64 e3), (11, .pointer (some ⟨b4, 0, none⟩)), (53, .slice A2 r5.length c2), (54, .int .i64 (r5.length : Int)), (55, .int .i64 x5)] _) a w' hf hh
        clear hf hh
        refine T.seq ?_
        refine T.region ?_
        refine T.pure (.slice A4 x3.length c4) (by kernel_rfl) (fun _ => by kernel_rfl) ?_
        refine T.look (.agg #[.int .i64 (x2.length : Int), .int .i64 z4, .int .i64 z5, .int .i64 z6, .int .i64 z7]) (by kernel_rfl) (fun w' hh => exec_loadN (cs := [.int .i64 (x2.length : Int), .int .i64 z4, .int .i64 z5, .int .i64 z6, .int .i64 z7]) rfl rfl (by kernel_rfl) (by kernel_rfl) (fun j u hj => (hh.box_at (i := 0) (cs := [.int .i64 (x2.length : Int), .int .i64 z4, .int .i64 z5, .int .i64 z6, .int .i64 z7]) (by rfl) 0 j).trans (seg_at (n := 5) (by rfl) hj))) ?_
        refine T.step (W1.new 123 [.int .i64 (x2.length : Int), .int .i64 z4, .int .i64 z5, .int .i64 z6, .int .i64 z7] (fun b => .slice (some ⟨b, 0, none⟩) 1 1) (by kernel_rfl) (fun _ => by kernel_rfl) (fun b6 => ?_))
        obtain ⟨y5, hb14, hY2⟩ := Option.bind_eq_some_iff.1 hY2
        obtain ⟨hb14_r, hb14_m, rfl⟩ := grow_some hb14
        obtain ⟨ti, hti, hz1, hz2, hz3⟩ := info_parts (P := Try.prog) (e := 123) (z := .agg #[.int .i64 0, .int .i64 0, .int .i64 0, .int .i64 0, .int .i64 0]) (size := 5) (bytes := 40) (by kernel_rfl)
        refine T.step (W1.append (E := ebuild_low) (l := x3) (m := [(Dbuild_low.mk (x2.length : Int) (DSpot.mk (DKey.mk z4 z5 z6) z7))]) 3 _ _ 40 ti _ (by rfl) (by kernel_rfl) rfl (by kernel_rfl) hti hz1 hz2 hz3 rfl (by decide) rfl rfl (fun w' hh => (SlOk.srcF (slok_lit (E := ebuild_low) (f := Dbuild_low.cells) [(Dbuild_low.mk (x2.length : Int) (DSpot.mk (DKey.mk z4 z5 z6) z7))] (fun _ _ => rfl) (Nat.le_of_ble_eq_true (by rfl)) (fun j => hh.cellBox (i := 0) (by rfl) j)) (fun _ _ _ _ h => h))) hb14_r hb14_m (fun A11 c11 => ?_))
        refine T.pure (.slice A11 ((x3 ++ [(Dbuild_low.mk (x2.length : Int) (DSpot.mk (DKey.mk z4 z5 z6) z7))]).length) c11) (by kernel_rfl) (fun _ => by kernel_rfl) ?_
        refine T.nil ?_
        refine T.region ?_
        refine T.pure (.slice A5 x4.length c5) (by kernel_rfl) (fun _ => by kernel_rfl) ?_
        refine T.pure (.int .i64 e3) (by kernel_rfl) (fun _ => by kernel_rfl) ?_
        obtain ⟨s3, hb15, hY2⟩ := Option.bind_eq_some_iff.1 hY2
        refine T.look (.slice (cutA A5 c5 e3.toNat 6) s3.length (c5 - e3.toNat)) (by kernel_rfl) (fun w' hh => exec_slice_list (e := 28) (s := 6) (lx := (some _)) (hx := none) (k := .i64) (k' := .i64) rfl rfl (by kernel_rfl) (by kernel_rfl) ((SlOk.mono hs3 (View.le_trans hV7 hV10))).1 rfl rfl hb15) ?_
        refine T.pure (.slice (cutA A5 c5 e3.toNat 6) s3.length (c5 - e3.toNat)) (by kernel_rfl) (fun _ => by kernel_rfl) ?_
        refine T.nil ?_
        refine T.region ?_
        refine T.pure (.int .i64 (IntKind.i64.wrap (x5 + 1))) (by kernel_rfl) (fun _ => by kernel_rfl) ?_
        refine T.pure (.int .i64 (IntKind.i64.wrap (x5 + 1))) (by kernel_rfl) (fun _ => by kernel_rfl) ?_
        refine T.nil ?_
        cases hY2
        exact fun a w' hf hh => Exists.intro ((x2 ++ [(DNode.mk 1 (([] : List DElem) ++ s2) [] [] [])]), (x3 ++ [(Dbuild_low.mk (x2.length : Int) (DSpot.mk (DKey.mk z4 z5 z6) z7))]), s3, IntKind.i64.wrap (x5 + 1)) (And.intro rfl (Exists.intro (x2 ++ [(DNode.mk 1 (([] : List DElem) ++ s2) [] [] [])]) (Exists.intro (x3 ++ [(Dbuild_low.mk (x2.length : Int) (DSpot.mk (DKey.mk z4 z5 z6) z7))]) (Exists.intro s3 (Exists.intro (IntKind.i64.wrap (x5 + 1)) (And.intro rfl (Exists.intro A10 (Exists.intro c10 (Exists.intro A11 (Exists.intro c11 (Exists.intro (cutA A5 c5 e3.toNat 6) (Exists.intro (c5 - e3.toNat) (Exists.intro V10 (And.intro (View.le_trans (View.le_trans hV5 hV7) hV10) (And.intro (SlOk.cut (SlOk.mono hs3 (View.le_trans hV7 hV10)) hb15) (And.intro ((((((((Fr.nil hf).pick hf 55 rfl).pick hf 54 rfl).pick hf 53 rfl).pick hf 8 rfl).pick hf 7 rfl).pick hf 2 rfl).pick hf 0 rfl) (hh.sub (.cons _ (.cons _ (.cons_cons _ (.cons_cons _ (.cons_cons _ (.cons_cons _ List.Sublist.slnil)))))))))))))))))))))))
     ·
      rw [hc5, cond_false] at hY2
      refine T.exit ?_
      cases hY2
      cases (hr2 _ rfl)
      exact fun a w' hf hh => Exists.intro x2 (Exists.intro x3 (And.intro rfl (Exists.intro A3 (Exists.intro c3 (Exists.intro A4 (Exists.intro c4 (Exists.intro V5 (And.intro hV5 (And.intro ((((Fr.nil hf).pick hf 8 rfl).pick hf 7 rfl).pick hf 2 rfl) (hh.sub (.cons_cons _ (.cons_cons _ (.cons_cons _ (.cons_cons _ List.Sublist.slnil))))))))))))))
   ·
    rintro a w' ⟨z2, z3, rfl, A6, c6, A7, c7, V6, hV6, hf, hh⟩
    try dsimp only at hF
    refine (?_ : T 166 w V6 [row 97 (eAt w eNode) A6 c6 z2, row 123 ebuild_low A7 c7 z3, box b3 24 [.int .i64 0, .slice A6 z2.length c6], box b1 24 [.int .i64 0, .slice none 0 0]] [(2, .pointer (some ⟨b1, 0, none⟩)), (7, .pointer (some ⟨b3, 0, none⟩)), (8, .slice A7 z3.length c7)] _) a w' hf hh
    clear hf hh
    refine T.freezeF (E := ebuild_low) (H' := [row 97 (eAt w eNode) A6 c6 z2, box b3 24 [.int .i64 0, .slice A6 z2.length c6], box b1 24 [.int .i64 0, .slice none 0 0]]) 1 (by rfl) rfl (fun _ _ _ _ h => h) (fun V11 hV11 hs5 => ?_)
    obtain ⟨q4, hz3, hF⟩ := Option.bind_eq_some_iff.1 hF
    refine T.cut (fun a w' => ∃ (z8 : List DNode) (z9 : List Dbuild_low), q4 = (z8, z9) ∧ ∃ (A14 : Option Addr) (c14 : Nat) (A15 : Option Addr) (c15 : Nat) (V13 : View), View.le V11 V13 ∧ SlOk (made w V13) ebuild_low A15 c15 z9 ∧ Fr 166 [(2, .pointer (some ⟨b1, 0, none⟩)), (7, .pointer (some ⟨b3, 0, none⟩)), (8, .slice A15 z9.length c15)] a ∧ Hp w V13 [row 97 (eAt w eNode) A14 c14 z8, box b3 24 [.int .i64 0, .slice A14 z8.length c14], box b1 24 [.int .i64 0, .slice none 0 0]] w') ?_ ?_
    ·
     refine T.block ?_
     refine T.iter (fun s4 a w' => ∃ (x6 : List DNode) (x7 : List Dbuild_low), s4 = (x6, x7) ∧ ∃ (A12 : Option Addr) (c12 : Nat) (A13 : Option Addr) (c13 : Nat) (V12 : View), View.le V11 V12 ∧ SlOk (made w V12) ebuild_low A13 c13 x7 ∧ Fr 166 [(2, .pointer (some ⟨b1, 0, none⟩)), (7, .pointer (some ⟨b3, 0, none⟩)), (8, .slice A13 x7.length c13)] a ∧ Hp w V12 [row 97 (eAt w eNode) A12 c12 x6, box b3 24 [.int .i64 0, .slice A12 x6.length c12], box b1 24 [.int .i64 0, .slice none 0 0]] w') hz3 ?_ ?_
     ·
      exact fun a w' hf hh => Exists.intro z2 (Exists.intro z3 (And.intro rfl (Exists.intro A6 (Exists.intro c6 (Exists.intro A7 (Exists.intro c7 (Exists.intro V11 (And.intro (View.le_refl _) (And.intro (SlOk.mono hs5 (made_mono (View.le_refl _))) (And.intro ((((Fr.nil hf).pick hf 8 rfl).pick hf 7 rfl).pick hf 2 rfl) (hh.sub (.cons_cons _ (.cons_cons _ (.cons_cons _ List.Sublist.slnil))))))))))))))
     ·
      rintro s4 y6 hY3 hr3 a w' ⟨x6, x7, rfl, A12, c12, A13, c13, V12, hV12, hs6, hf, hh⟩
      refine (?_ : T 166 w V12 [row 97 (eAt w eNode) A12 c12 x6, box b3 24 [.int .i64 0, .slice A12 x6.length c12], box b1 24 [.int .i64 0, .slice none 0 0]] [(2, .pointer (some ⟨b1, 0, none⟩)), (7, .pointer (some ⟨b3, 0, none⟩)), (8, .slice A13 x7.length c13)] _) a w' hf hh
      clear hf hh
      try dsimp only at hY3
      refine T.seq ?_
      refine T.seq ?_
      refine T.region ?_
      refine T.pure (.slice A13 x7.length c13) (by kernel_rfl) (fun _ => by kernel_rfl) ?_
      refine T.pure (.int .i64 (x7.length : Int)) (by kernel_rfl) (fun _ => by kernel_rfl) ?_
      refine T.pure (.bool (decide ((1 : Int) < (x7.length : Int)))) (by kernel_rfl) (fun _ => by kernel_rfl) ?_
      refine T.nil ?_
      refine T.cond (decide ((1 : Int) < (x7.length : Int))) (by kernel_rfl) (by kernel_rfl) (fun hc7 => ?_) (fun hc7 => ?_)
      ·
       rw [hc7, cond_true] at hY3
       refine T.skip_code ?_
       refine T.block ?_
       refine T.seq ?_
       refine T.region ?_
       refine T.pure (.slice none 0 0) (by kernel_rfl) (fun _ => by kernel_rfl) ?_
       refine T.nil ?_
       refine T.seq ?_
       refine T.seq ?_
       refine T.region ?_
       refine T.pure (.slice A13 x7.length c13) (by kernel_rfl) (fun _ => by kernel_rfl) ?_
       refine T.pure (.int .i64 (x7.length : Int)) (by kernel_rfl) (fun _ => by kernel_rfl) ?_
       obtain ⟨r10, hb16, hY3⟩ := Option.bind_eq_some_iff.1 hY3
       refine T.step (W1.call (vSc (eList eInt)) r10 72 #[.int .i64 (x7.length : Int)] (by kernel_rfl) (fun _ => by kernel_rfl) (fun w' hh => build_shares_l F (x7.length : Int) r10 hb16 w' ) ?_)
       intro u V14 hV14 hu
       obtain ⟨A16, c16, rfl, hs8⟩ := vlist_elim hu
       refine T.pure (.int .i64 (r10.length : Int)) (by kernel_rfl) (fun _ => by kernel_rfl) ?_
       refine T.pure (.int .i64 0) (by kernel_rfl) (fun _ => by kernel_rfl) ?_
       refine T.nil ?_
       refine T.rownil 123 ebuild_low ?_
       obtain ⟨q5, hz4, hY3⟩ := Option.bind_eq_some_iff.1 hY3
       refine T.mid (fun a w' => ∃ (z10 : List Dbuild_low) (z11 : List DNode), q5 = (z10, z11) ∧ ∃ (A20 : Option Addr) (c20 : Nat) (A21 : Option Addr) (c21 : Nat) (V16 : View), View.le V14 V16 ∧ Fr 166 [(2, .pointer (some ⟨b1, 0, none⟩)), (7, .pointer (some ⟨b3, 0, none⟩)), (12, .slice A20 z10.length c20)] a ∧ Hp w V16 [row 123 ebuild_low A20 c20 z10, row 97 (eAt w eNode) A21 c21 z11, box b3 24 [.int .i64 0, .slice A21 z11.length c21], box b1 24 [.int .i64 0, .slice none 0 0]] w') ?_ ?_
       ·
        refine T.block ?_
        refine T.iter (fun s5 a w' => ∃ (x8 : List Dbuild_low) (x9 : List DNode) (x10 : List Dbuild_low) (x11 : Int), s5 = (x8, x9, x10, x11) ∧ ∃ (A17 : Option Addr) (c17 : Nat) (A18 : Option Addr) (c18 : Nat) (A19 : Option Addr) (c19 : Nat) (V15 : View), View.le V14 V15 ∧ SlOk (made w V15) ebuild_low A19 c19 x10 ∧ Fr 166 [(2, .pointer (some ⟨b1, 0, none⟩)), (7, .pointer (some ⟨b3, 0, none⟩)), (8, .slice A19 x10.length c19), (12, .slice A17 x8.length c17), (93, .slice A16 r10.length c16), (94, .int .i64 (r10.length : Int)), (95, .int .i64 x11)] a ∧ Hp w V15 [row 123 ebuild_low A17 c17 x8, row 97 (eAt w eNode) A18 c18 x9, box b3 24 [.int .i64 0, .slice A18 x9.length c18], box b1 24 [.int .i64 0, .slice none 0 0]] w') hz4 ?_ ?_
        ·
         exact fun a w' hf hh => Exists.intro [] (Exists.intro x6 (Exists.intro x7 (Exists.intro 0 (And.intro rfl (Exists.intro none (Exists.intro 0 (Exists.intro A12 (Exists.intro c12 (Exists.intro A13 (Exists.intro c13 (Exists.intro V14 (And.intro (View.le_refl _) (And.intro (SlOk.mono hs6 (made_mono hV14)) (And.intro ((((((((Fr.nil hf).pick hf 95 rfl).pick hf 94 rfl).pick hf 93 rfl).pick hf 12 rfl).pick hf 8 rfl).pick hf 7 rfl).pick hf 2 rfl) (hh.sub (.cons_cons _ (.cons_cons _ (.cons_cons _ (.cons_cons _ List.Sublist.slnil)))))))))))))))))))
        ·
         rintro s5 y7 hY4 hr4 a w' ⟨x8, x9, x10, x11, rfl, A17, c17, A18, c18, A19, c19, V15, hV15, hs9, hf, hh⟩
         refine (?_ : T 166 w V15 [row 123 ebuild_low A17 c17 x8, row 97 (eAt w eNode) A18 c18 x9, box b3 24 [.int .i64 0, .slice A18 x9.length c18], box b1 24 [.int .i64 0, .slice none 0 0]] [(2, .pointer (some ⟨b1, 0, none⟩)), (7, .pointer (some ⟨b3, 0, none⟩)), (8, .slice A19 x10.length c19), (12, .slice A17 x8.length c17), (93, .slice A16 r10.length c16), (94, .int .i64 (r10.length : Int)), (95, .int .i64 x11)] _) a w' hf hh
         clear hf hh
         try dsimp only at hY4
         refine T.seq ?_
         refine T.region ?_
         refine T.pure (.bool (decide (x11 < (r10.length : Int)))) (by kernel_rfl) (fun _ => by kernel_rfl) ?_
         refine T.nil ?_
         refine T.seq ?_
         refine T.cond (decide (x11 < (r10.length : Int))) (by kernel_rfl) (by kernel_rfl) (fun hc8 => ?_) (fun hc8 => ?_)
         ·
          rw [hc8, cond_true] at hY4
          refine T.skip_code ?_
          refine T.seq ?_
          refine T.block ?_
          refine T.seq ?_
          refine T.region ?_
          obtain ⟨e5, hb17, hY4⟩ := Option.bind_eq_some_iff.1 hY4
          obtain ⟨hi13, hi14, hi15⟩ := idx_some hb17
          refine T.look (.pointer (some ((sadr A16).add (x11.toNat * 1)))) (by kernel_rfl) (fun w' hh => exec_indexAddr (e := 3) (s := 1) rfl rfl rfl (by kernel_rfl) (by kernel_rfl) hi13 hi14 ((SlOk.mono hs8 (View.le_trans (made_le _ _) hV15)).some_ hi15 (by decide))) ?_
          refine T.look (.int .i64 e5) (by kernel_rfl) (fun w' hh => exec_load1 rfl rfl (by kernel_rfl) (hh.cell_view (SlOk.cellF0 (E := eInt) (SlOk.mono hs8 (View.le_trans (made_le _ _) hV15)) hi15 (fun _ _ _ h => h) rfl))) ?_
          refine T.pure (.int .i64 e5) (by kernel_rfl) (fun _ => by kernel_rfl) ?_
          refine T.nil ?_
          refine T.seq ?_
          refine T.region ?_
          refine T.pure (.agg #[.int .i64 2, .slice none 0 0, .slice none 0 0, .slice none 0 0, .slice none 0 0]) (by kernel_rfl) (fun _ => by kernel_rfl) ?_
          refine T.step (W1.new 97 [.int .i64 0, .slice none 0 0, .slice none 0 0, .slice none 0 0, .slice none 0 0] (fun b => .pointer (some ⟨b, 0, none⟩)) (by kernel_rfl) (fun _ => by kernel_rfl) (fun b7 => ?_))
          refine T.step (W1.store 0 [.int .i64 2, .slice none 0 0, .slice none 0 0, .slice none 0 0, .slice none 0 0] [box b7 97 [.int .i64 2, .slice none 0 0, .slice none 0 0, .slice none 0 0, .slice none 0 0], row 123 ebuild_low A17 c17 x8, row 97 (eAt w eNode) A18 c18 x9, box b3 24 [.int .i64 0, .slice A18 x9.length c18], box b1 24 [.int .i64 0, .slice none 0 0]] (by rfl) rfl (by kernel_rfl) (fun w' hw => exec_store (vs := [.int .i64 2, .slice none 0 0, .slice none 0 0, .slice none 0 0, .slice none 0 0]) rfl rfl rfl rfl (by kernel_rfl) (one_of rfl) (by simp) rfl hw) ?_)
          refine T.nil ?_
          refine T.seq ?_
          refine T.seq ?_
          refine T.region ?_
          refine T.pure (.slice A19 x10.length c19) (by kernel_rfl) (fun _ => by kernel_rfl) ?_
          refine T.pure (.int .i64 e5) (by kernel_rfl) (fun _ => by kernel_rfl) ?_
          obtain ⟨s6, hb18, hY4⟩ := Option.bind_eq_some_iff.1 hY4
          refine T.look (.slice A19 s6.length c19) (by kernel_rfl) (fun w' hh => exec_slice_list0 (e := 123) (s := 5) (lx := none) (hx := (some _)) (k := .i64) (k' := .i64) rfl rfl (by kernel_rfl) (by kernel_rfl) ((SlOk.mono hs9 (View.le_trans (made_le _ _) (View.le_refl _)))).1 rfl rfl hb18) ?_
          refine T.pure (.int .i64 (s6.length : Int)) (by kernel_rfl) (fun _ => by kernel_rfl) ?_
          refine T.pure (.int .i64 0) (by kernel_rfl) (fun _ => by kernel_rfl) ?_
          refine T.nil ?_
          refine T.rownil 3 eInt ?_
          refine T.rownil 3 eInt ?_
          refine T.rownil 43 eSpot ?_
          obtain ⟨q6, hz5, hY4⟩ := Option.bind_eq_some_iff.1 hY4
          refine T.mid (fun a w' => ∃ (z12 : List DSpot) (z13 : List Int) (z14 : List Int), q6 = (z12, z13, z14) ∧ ∃ (A26 : Option Addr) (c26 : Nat) (A27 : Option Addr) (c27 : Nat) (A28 : Option Addr) (c28 : Nat) (V18 : View), View.le V15 V18 ∧ Fr 166 [(2, .pointer (some ⟨b1, 0, none⟩)), (7, .pointer (some ⟨b3, 0, none⟩)), (8, .slice A19 x10.length c19), (12, .slice A17 x8.length c17), (14, .int .i64 e5), (15, .pointer (some ⟨b7, 0, none⟩)), (93, .slice A16 r10.length c16), (94, .int .i64 (r10.length : Int)), (95, .int .i64 x11)] a ∧ Hp w V18 [row 43 eSpot A26 c26 z12, row 3 eInt A27 c27 z13, row 3 eInt A28 c28 z14, box b7 97 [.int .i64 2, .slice none 0 0, .slice A28 z14.length c28, .slice A26 z12.length c26, .slice A27 z13.length c27], row 123 ebuild_low A17 c17 x8, row 97 (eAt w eNode) A18 c18 x9, box b3 24 [.int .i64 0, .slice A18 x9.length c18], box b1 24 [.int .i64 0, .slice none 0 0]] w') ?_ ?_
          ·
           refine T.block ?_
           refine T.iter (fun s7 a w' => ∃ (x12 : List DSpot) (x13 : List Int) (x14 : List Int) (x15 : Int), s7 = (x12, x13, x14, x15) ∧ ∃ (A22 : Option Addr) (c22 : Nat) (A23 : Option Addr) (c23 : Nat) (A24 : Option Addr) (c24 : Nat) (A25 : Option Addr) (c25 : Nat) (V17 : View), View.le V15 V17 ∧ SlOk (made w V17) ebuild_low A25 c25 s6 ∧ Fr 166 [(2, .pointer (some ⟨b1, 0, none⟩)), (7, .pointer (some ⟨b3, 0, none⟩)), (8, .slice A19 x10.length c19), (12, .slice A17 x8.length c17), (14, .int .i64 e5), (15, .pointer (some ⟨b7, 0, none⟩)), (93, .slice A16 r10.length c16), (94, .int .i64 (r10.length : Int)), (95, .int .i64 x11), (102, .slice A25 s6.length c25), (103, .int .i64 (s6.length : Int)), (104, .int .i64 x15)] a ∧ Hp w V17 [row 43 eSpot A22 c22 x12, row 3 eInt A23 c23 x13, row 3 eInt A24 c24 x14, box b7 97 [.int .i64 2, .slice none 0 0, .slice A24 x14.length c24, .slice A22 x12.length c22, .slice A23 x13.length c23], row 123 ebuild_low A17 c17 x8, row 97 (eAt w eNode) A18 c18 x9, box b3 24 [.int .i64 0, .slice A18 x9.length c18], box b1 24 [.int .i64 0, .slice none 0 0]] w') hz5 ?_ ?_
           ·
            exact fun a w' hf hh => Exists.intro [] (Exists.intro [] (Exists.intro [] (Exists.intro 0 (And.intro rfl (Exists.intro none (Exists.intro 0 (Exists.intro none (Exists.intro 0 (Exists.intro none (Exists.intro 0 (Exists.intro A19 (Exists.intro c19 (Exists.intro V15 (And.intro (View.le_refl _) (And.intro (SlOk.cut0 (SlOk.mono hs9 (made_mono (View.le_refl _))) hb18) (And.intro (((((((((((((Fr.nil hf).pick hf 104 rfl).pick hf 103 rfl).pick hf 102 rfl).pick hf 95 rfl).pick hf 94 rfl).pick hf 93 rfl).pick hf 15 rfl).pick hf 14 rfl).pick hf 12 rfl).pick hf 8 rfl).pick hf 7 rfl).pick hf 2 rfl) (hh.sub (.cons_cons _ (.cons_cons _ (.cons_cons _ (.cons_cons _ (.cons_cons _ (.cons_cons _ (.cons_cons _ (.cons_cons _ List.Sublist.slnil)))))))))))))))))))))))))
           ·
            rintro s7 y8 hY5 hr5 a w' ⟨x12, x13, x14, x15, rfl, A22, c22, A23, c23, A24, c24, A25, c25, V17, hV17, hs10, hf, hh⟩
            refine (?_ : T 166 w V17 [row 43 eSpot A22 c22 x12, row 3 eInt A23 c23 x13, row 3 eInt A24 c24 x14, box b7 97 [.int .i64 2, .slice none 0 0, .slice A24 x14.length c24, .slice A22 x12.length c22, .slice A23 x13.length c23], row 123 ebuild_low A17 c17 x8, row 97 (eAt w eNode) A18 c18 x9, box b3 24 [.int .i64 0, .slice A18 x9.length c18], box b1 24 [.int .i64 0, .slice none 0 0]] [(2, .pointer (some ⟨b1, 0, none⟩)), (7, .pointer (some ⟨b3, 0, none⟩)), (8, .slice A19 x10.length c19), (12, .slice A17 x8.length c17), (14, .int .i64 e5), (15, .pointer (some ⟨b7, 0, none⟩)), (93, .slice A16 r10.length c16), (94, .int .i64 (r10.length : Int)), (95, .int .i64 x11), (102, .slice A25 s6.length c25), (103, .int .i64 (s6.length : Int)), (104, .int .i64 x15)] _) a w' hf hh
            clear hf hh
            try dsimp only at hY5
            refine T.seq ?_
            refine T.region ?_
            refine T.pure (.bool (decide (x15 < (s6.length : Int)))) (by kernel_rfl) (fun _ => by kernel_rfl) ?_
            refine T.nil ?_
            refine T.seq ?_
            refine T.cond (decide (x15 < (s6.length : Int))) (by kernel_rfl) (by kernel_rfl) (fun hc9 => ?_) (fun hc9 => ?_)
            ·
             rw [hc9, cond_true] at hY5
             refine T.skip_code ?_
             obtain ⟨q7, hX3, hY5⟩ := Option.bind_eq_some_iff.1 hY5
             refine T.cut (fun a w' => ∃ (z15 : List DSpot) (z16 : List Int) (z17 : List Int), q7 = (z15, z16, z17) ∧ ∃ (A29 : Option Addr) (c29 : Nat) (A30 : Option Addr) (c30 : Nat) (A31 : Option Addr) (c31 : Nat) (V19 : View), View.le V17 V19 ∧ Fr 166 [(2, .pointer (some ⟨b1, 0, none⟩)), (7, .pointer (some ⟨b3, 0, none⟩)), (8, .slice A19 x10.length c19), (12, .slice A17 x8.length c17), (14, .int .i64 e5), (15, .pointer (some ⟨b7, 0, none⟩)), (93, .slice A16 r10.length c16), (94, .int .i64 (r10.length : Int)), (95, .int .i64 x11), (102, .slice A25 s6.length c25), (103, .int .i64 (s6.length : Int)), (104, .int .i64 x15)] a ∧ Hp w V19 [row 43 eSpot A29 c29 z15, row 3 eInt A30 c30 z16, row 3 eInt A31 c31 z17, box b7 97 [.int .i64 2, .slice none 0 0, .slice A31 z17.length c31, .slice A29 z15.length c29, .slice A30 z16.length c30], row 123 ebuild_low A17 c17 x8, row 97 (eAt w eNode) A18 c18 x9, box b3 24 [.int .i64 0, .slice A18 x9.length c18], box b1 24 [.int .i64 0, .slice none 0 0]] w') ?_ ?_
             ·
              refine T.block ?_
              refine T.seq ?_
              refine T.region ?_
              refine T.pure (.int .i64 x15) (by kernel_rfl) (fun _ => by kernel_rfl) ?_
              obtain ⟨e6, hb19, hX3⟩ := Option.bind_eq_some_iff.1 hX3
              obtain ⟨hi16, hi17, hi18⟩ := idx_some hb19
              refine T.look (.pointer (some ((sadr A25).add (x15.toNat * 5)))) (by kernel_rfl) (fun w' hh => exec_indexAddr (e := 123) (s := 5) rfl rfl rfl (by kernel_rfl) (by kernel_rfl) hi16 hi17 ((SlOk.mono hs10 (View.le_trans (made_le _ _) (View.le_refl _))).some_ hi18 (by decide))) ?_
              refine T.look (.agg #[.int .i64 e6.i, .int .i64 e6.s.key.pfs, .int .i64 e6.s.key.obj, .int .i64 e6.s.key.off, .int .i64 e6.s.made]) (by kernel_rfl) (fun w' hh => exec_loadN (cs := [.int .i64 e6.i, .int .i64 e6.s.key.pfs, .int .i64 e6.s.key.obj, .int .i64 e6.s.key.off, .int .i64 e6.s.made]) rfl rfl (by kernel_rfl) (by kernel_rfl) (fun j u hj => (hh.cell_view (SlOk.cellF (E := ebuild_low) (SlOk.mono hs10 (View.le_trans (made_le _ _) (View.le_refl _))) hi18 j (fun _ _ _ h => h) hj)))) ?_
              refine T.step (W1.new 123 [.int .i64 0, .int .i64 0, .int .i64 0, .int .i64 0, .int .i64 0] (fun b => .pointer (some ⟨b, 0, none⟩)) (by kernel_rfl) (fun _ => by kernel_rfl) (fun b8 => ?_))
              refine T.pure (.int .i64 x15) (by kernel_rfl) (fun _ => by kernel_rfl) ?_
              refine T.step (W1.store 0 [.int .i64 e6.i, .int .i64 e6.s.key.pfs, .int .i64 e6.s.key.obj, .int .i64 e6.s.key.off, .int .i64 e6.s.made] [box b8 123 [.int .i64 e6.i, .int .i64 e6.s.key.pfs, .int .i64 e6.s.key.obj, .int .i64 e6.s.key.off, .int .i64 e6.s.made], row 43 eSpot A22 c22 x12, row 3 eInt A23 c23 x13, row 3 eInt A24 c24 x14, box b7 97 [.int .i64 2, .slice none 0 0, .slice A24 x14.length c24, .slice A22 x12.length c22, .slice A23 x13.length c23], row 123 ebuild_low A17 c17 x8, row 97 (eAt w eNode) A18 c18 x9, box b3 24 [.int .i64 0, .slice A18 x9.length c18], box b1 24 [.int .i64 0, .slice none 0 0]] (by rfl) rfl (by kernel_rfl) (fun w' hw => exec_store (vs := [.int .i64 e6.i, .int .i64 e6.s.key.pfs, .int .i64 e6.s.key.obj, .int .i64 e6.s.key.off, .int .i64 e6.s.made]) rfl rfl rfl rfl (by kernel_rfl) (one_of rfl) (by simp) rfl hw) ?_)
              refine T.nil ?_
              refine T.seq ?_
              refine T.region ?_
              refine T.pure (.pointer (some ⟨b7, 2, none⟩)) (by kernel_rfl) (fun _ => by kernel_rfl) ?_
              refine T.look (.slice A24 x14.length c24) (by kernel_rfl) (fun w' hh => exec_load1 rfl rfl (by kernel_rfl) (hh.cellBox (i := 4) (by rfl) 2)) ?_
              refine T.pure (.pointer (some ⟨b8, 0, none⟩)) (by kernel_rfl) (fun _ => by kernel_rfl) ?_
              refine T.look (.int .i64 e6.i) (by kernel_rfl) (fun w' hh => exec_load1 rfl rfl (by kernel_rfl) (hh.cellBox (i := 0) (by rfl) 0)) ?_
              refine T.step (W1.new 3 [.int .i64 e6.i] (fun b => .slice (some ⟨b, 0, none⟩) 1 1) (by kernel_rfl) (fun _ => by kernel_rfl) (fun b9 => ?_))
              obtain ⟨y9, hb20, hX3⟩ := Option.bind_eq_some_iff.1 hX3
              obtain ⟨hb20_r, hb20_m, rfl⟩ := grow_some hb20
              obtain ⟨ti, hti, hz1, hz2, hz3⟩ := info_parts (P := Try.prog) (e := 3) (z := .int .i64 0) (size := 1) (bytes := 8) (by kernel_rfl)
              refine T.step (W1.append (E := eInt) (l := x14) (m := [e6.i]) 4 _ _ 8 ti _ (by rfl) (by kernel_rfl) rfl (by kernel_rfl) hti hz1 hz2 hz3 rfl (by decide) rfl rfl (fun w' hh => (SlOk.srcF (slok_lit (E := eInt) (f := (fun x => [.int .i64 x])) [e6.i] (fun _ _ => rfl) (Nat.le_of_ble_eq_true (by rfl)) (fun j => hh.cellBox (i := 0) (by rfl) j)) (fun _ _ _ _ h => h))) hb20_r hb20_m (fun A32 c32 => ?_))
              refine T.pure (.pointer (some ⟨b7, 2, none⟩)) (by kernel_rfl) (fun _ => by kernel_rfl) ?_
              refine T.step (W1.store 5 [.int .i64 2, .slice none 0 0, .slice A32 ((x14 ++ [e6.i]).length) c32, .slice A22 x12.length c22, .slice A23 x13.length c23] [box b9 3 [.int .i64 e6.i], box b8 123 [.int .i64 e6.i, .int .i64 e6.s.key.pfs, .int .i64 e6.s.key.obj, .int .i64 e6.s.key.off, .int .i64 e6.s.made], row 43 eSpot A22 c22 x12, row 3 eInt A23 c23 x13, row 3 eInt A32 c32 (x14 ++ [e6.i]), box b7 97 [.int .i64 2, .slice none 0 0, .slice A32 ((x14 ++ [e6.i]).length) c32, .slice A22 x12.length c22, .slice A23 x13.length c23], row 123 ebuild_low A17 c17 x8, row 97 (eAt w eNode) A18 c18 x9, box b3 24 [.int .i64 0, .slice A18 x9.length c18], box b1 24 [.int .i64 0, .slice none 0 0]] (by rfl) rfl (by kernel_rfl) (fun w' hw => exec_store (vs := [.slice A32 ((x14 ++ [e6.i]).length) c32]) rfl rfl rfl rfl (by kernel_rfl) (one_of rfl) (by simp) rfl hw) ?_)
              refine T.nil ?_
              refine T.seq ?_
              obtain ⟨e7, hb21, hX3⟩ := Option.bind_eq_some_iff.1 hX3
              obtain ⟨r15, hb22, hX3⟩ := Option.bind_eq_some_iff.1 hX3
              obtain ⟨y10, hb23, hX3⟩ := Option.bind_eq_some_iff.1 hX3
              refine T.mid (fun a w' => ∃ (A38 : Option Addr) (c38 : Nat) (V21 : View), View.le V17 V21 ∧ Fr 166 [(2, .pointer (some ⟨b1, 0, none⟩)), (7, .pointer (some ⟨b3, 0, none⟩)), (8, .slice A19 x10.length c19), (12, .slice A17 x8.length c17), (14, .int .i64 e5), (15, .pointer (some ⟨b7, 0, none⟩)), (16, .int .i64 x15), (17, .pointer (some ⟨b8, 0, none⟩)), (93, .slice A16 r10.length c16), (94, .int .i64 (r10.length : Int)), (95, .int .i64 x11), (102, .slice A25 s6.length c25), (103, .int .i64 (s6.length : Int)), (104, .int .i64 x15)] a ∧ Hp w V21 [box b8 123 [.int .i64 e6.i, .int .i64 e6.s.key.pfs, .int .i64 e6.s.key.obj, .int .i64 e6.s.key.off, .int .i64 e6.s.made], row 43 eSpot A22 c22 x12, row 3 eInt A38 c38 (x13 ++ [r15]), row 3 eInt A32 c32 (x14 ++ [e6.i]), box b7 97 [.int .i64 2, .slice none 0 0, .slice A32 ((x14 ++ [e6.i]).length) c32, .slice A22 x12.length c22, .slice A38 ((x13 ++ [r15]).length) c38], row 123 ebuild_low A17 c17 x8, row 97 (eAt w eNode) A18 c18 x9, box b3 24 [.int .i64 0, .slice A18 x9.length c18], box b1 24 [.int .i64 0, .slice none 0 0]] w') ?_ ?_
              ·
               refine T.held [box b9 3 [.int .i64 e6.i], box b8 123 [.int .i64 e6.i, .int .i64 e6.s.key.pfs, .int .i64 e6.s.key.obj, .int .i64 e6.s.key.off, .int .i64 e6.s.made], row 43 eSpot A22 c22 x12, row 3 eInt A32 c32 (x14 ++ [e6.i]), row 123 ebuild_low A17 c17 x8, box b3 24 [.int .i64 0, .slice A18 x9.length c18], box b1 24 [.int .i64 0, .slice none 0 0]] (by kernel_rfl) ?_
               refine TA.take 0 (.pointer (some ⟨b7, 4, none⟩)) rfl (by kernel_rfl) (by kernel_rfl) (by kernel_rfl) (fun _ _ _ h => h) (Hp.old (View.le_refl _) (View.le_trans (View.le_trans (View.le_trans (View.le_trans (View.le_trans (View.le_trans (View.le_trans hV2 hV4) hV6) hV11) hV12) hV14) hV15) hV17) (.cons_cons _ (.cons_cons _ (.cons_cons _ (.cons _ (.cons_cons _ (.cons _ (.cons_cons _ (.cons _ (.cons_cons _ (.cons_cons _ List.Sublist.slnil)))))))))) (OldAll.box (OldAll.box (OldAll.row (fun _ _ _ _ h => h) (OldAll.row (fun _ _ _ _ h => h) (OldAll.row (fun _ _ _ _ h => h) (OldAll.box (OldAll.box OldAll.nil)))))))) (by kernel_rfl) (fun _ _ => by kernel_rfl) ?_
               refine TA.take 2 (.pointer (some ⟨b3, 1, none⟩)) rfl (by kernel_rfl) (by kernel_rfl) (by kernel_rfl) (fun _ _ _ h => h) (Hp.old (View.le_refl _) (View.le_trans (View.le_trans (View.le_trans (View.le_trans (View.le_trans (View.le_trans (View.le_trans hV2 hV4) hV6) hV11) hV12) hV14) hV15) hV17) (.cons_cons _ (.cons_cons _ (.cons_cons _ (.cons _ (.cons_cons _ (.cons _ (.cons_cons _ (.cons _ (.cons_cons _ (.cons_cons _ List.Sublist.slnil)))))))))) (OldAll.box (OldAll.box (OldAll.row (fun _ _ _ _ h => h) (OldAll.row (fun _ _ _ _ h => h) (OldAll.row (fun _ _ _ _ h => h) (OldAll.box (OldAll.box OldAll.nil)))))))) (by kernel_rfl) (fun _ _ => by kernel_rfl) ?_
               refine TA.take 3 (.slice A18 x9.length c18) rfl (by kernel_rfl) (by kernel_rfl) (by kernel_rfl) (fun _ _ _ h => h) (Hp.old (View.le_refl _) (View.le_trans (View.le_trans (View.le_trans (View.le_trans (View.le_trans (View.le_trans (View.le_trans hV2 hV4) hV6) hV11) hV12) hV14) hV15) hV17) (.cons_cons _ (.cons_cons _ (.cons_cons _ (.cons _ (.cons_cons _ (.cons _ (.cons_cons _ (.cons _ (.cons_cons _ (.cons_cons _ List.Sublist.slnil)))))))))) (OldAll.box (OldAll.box (OldAll.row (fun _ _ _ _ h => h) (OldAll.row (fun _ _ _ _ h => h) (OldAll.row (fun _ _ _ _ h => h) (OldAll.box (OldAll.box OldAll.nil)))))))) (by kernel_rfl) (fun w' hh => exec_load1 rfl rfl (by kernel_rfl) (hh.cellBox (i := 5) (by rfl) 1)) ?_
               refine TA.take 4 (.pointer (some ⟨b8, 0, none⟩)) rfl (by kernel_rfl) (by kernel_rfl) (by kernel_rfl) (fun _ _ _ h => h) (Hp.old (View.le_refl _) (View.le_trans (View.le_trans (View.le_trans (View.le_trans (View.le_trans (View.le_trans (View.le_trans hV2 hV4) hV6) hV11) hV12) hV14) hV15) hV17) (.cons_cons _ (.cons_cons _ (.cons_cons _ (.cons _ (.cons_cons _ (.cons _ (.cons_cons _ (.cons _ (.cons_cons _ (.cons_cons _ List.Sublist.slnil)))))))))) (OldAll.box (OldAll.box (OldAll.row (fun _ _ _ _ h => h) (OldAll.row (fun _ _ _ _ h => h) (OldAll.row (fun _ _ _ _ h => h) (OldAll.box (OldAll.box OldAll.nil)))))))) (by kernel_rfl) (fun _ _ => by kernel_rfl) ?_
               refine TA.take 5 (.int .i64 e6.i) rfl (by kernel_rfl) (by kernel_rfl) (by kernel_rfl) (fun _ _ _ h => h) (Hp.old (View.le_refl _) (View.le_trans (View.le_trans (View.le_trans (View.le_trans (View.le_trans (View.le_trans (View.le_trans hV2 hV4) hV6) hV11) hV12) hV14) hV15) hV17) (.cons_cons _ (.cons_cons _ (.cons_cons _ (.cons _ (.cons_cons _ (.cons _ (.cons_cons _ (.cons _ (.cons_cons _ (.cons_cons _ List.Sublist.slnil)))))))))) (OldAll.box (OldAll.box (OldAll.row (fun _ _ _ _ h => h) (OldAll.row (fun _ _ _ _ h => h) (OldAll.row (fun _ _ _ _ h => h) (OldAll.box (OldAll.box OldAll.nil)))))))) (by kernel_rfl) (fun w' hh => exec_load1 rfl rfl (by kernel_rfl) (hh.cellBox (i := 1) (by rfl) 0)) ?_
               refine TA.all [1, 6] (by kernel_rfl) rfl ⟨?_, ?_, trivial⟩
               ·
                refine TA.br rfl (W1.look (.slice A23 x13.length c23) (by kernel_rfl) (fun w' hh => exec_load1 rfl rfl (by kernel_rfl) (hh.cellBox (i := 5) (by rfl) 4)) ?_)
                refine TA.on (Hp.old (View.le_refl _) (View.le_trans (View.le_trans (View.le_trans (View.le_trans (View.le_trans (View.le_trans (View.le_trans hV2 hV4) hV6) hV11) hV12) hV14) hV15) hV17) (.cons_cons _ (.cons_cons _ (.cons_cons _ (.cons _ (.cons_cons _ (.cons _ (.cons_cons _ (.cons _ (.cons_cons _ (.cons_cons _ List.Sublist.slnil)))))))))) (OldAll.box (OldAll.box (OldAll.row (fun _ _ _ _ h => h) (OldAll.row (fun _ _ _ _ h => h) (OldAll.row (fun _ _ _ _ h => h) (OldAll.box (OldAll.box OldAll.nil)))))))) ?_
                refine TA.all [6] (by kernel_rfl) rfl ⟨?_, trivial⟩
                obtain ⟨hi19, hi20, hi21⟩ := idx_some hb21
                refine TA.br rfl (W1.look (.pointer (some ((sadr A18).add (e6.i.toNat * 5)))) (by kernel_rfl) (fun w' hh => exec_indexAddr (e := 97) (s := 5) rfl rfl rfl (by kernel_rfl) (by kernel_rfl) hi19 hi20 ((hh.row_slOk (i := 7) (by rfl)).some_ hi21 (Nat.le_of_ble_eq_true rfl))) ?_)
                refine TA.on (Hp.old (View.le_refl _) (View.le_trans (View.le_trans (View.le_trans (View.le_trans (View.le_trans (View.le_trans (View.le_trans hV2 hV4) hV6) hV11) hV12) hV14) hV15) hV17) (.cons_cons _ (.cons_cons _ (.cons_cons _ (.cons _ (.cons_cons _ (.cons _ (.cons_cons _ (.cons _ (.cons_cons _ (.cons_cons _ List.Sublist.slnil)))))))))) (OldAll.box (OldAll.box (OldAll.row (fun _ _ _ _ h => h) (OldAll.row (fun _ _ _ _ h => h) (OldAll.row (fun _ _ _ _ h => h) (OldAll.box (OldAll.box OldAll.nil)))))))) ?_
                refine TA.all [7] (by kernel_rfl) rfl ⟨?_, trivial⟩
                refine TA.br rfl (W1.lookE (fun v => ∃ cs : List Value, v = .agg cs.toArray ∧ eNode.rep (made w V17) cs e7) (by kernel_rfl) (fun w' hh => ?_) ?_)
                ·
                 obtain ⟨cs, hr, hl⟩ := hh.row_elem (i := 7) (by rfl) hi21
                 exact ⟨.agg cs.toArray, exec_loadN (cs := cs) rfl rfl (by kernel_rfl) (by rw [show cs.length = 5 from Enc.len _ hr]; kernel_rfl) hl, cs, rfl, hr⟩
                ·
                 rintro v ⟨cs1, rfl, hr6⟩
                 obtain ⟨A33, c33, A34, c34, A35, c35, A36, c36, rfl, hs11, hs12, hs13, hs14⟩ := hr6
                 refine TA.on (Hp.old (View.le_refl _) (View.le_trans (View.le_trans (View.le_trans (View.le_trans (View.le_trans (View.le_trans (View.le_trans hV2 hV4) hV6) hV11) hV12) hV14) hV15) hV17) (.cons_cons _ (.cons_cons _ (.cons_cons _ (.cons _ (.cons_cons _ (.cons _ (.cons_cons _ (.cons _ (.cons_cons _ (.cons_cons _ List.Sublist.slnil)))))))))) (OldAll.box (OldAll.box (OldAll.row (fun _ _ _ _ h => h) (OldAll.row (fun _ _ _ _ h => h) (OldAll.row (fun _ _ _ _ h => h) (OldAll.box (OldAll.box OldAll.nil)))))))) ?_
                 refine TA.all [8] (by kernel_rfl) rfl ⟨?_, trivial⟩
                 refine TA.br rfl (W1.call (vSc eInt) r15 60 #[.agg #[.int .i64 e7.kind, .slice A33 e7.elems.length c33, .slice A34 e7.kids.length c34, .slice A35 e7.seps.length c35, .slice A36 e7.tids.length c36]] (by kernel_rfl) (fun _ => by kernel_rfl) (fun w' hh => node_Greatest_l F e7 r15 hb22 w' A33 c33 (SlOk.mono (SlOk.mono hs11 (View.le_trans (made_le _ _) (View.le_refl _))) hh.view) A34 c34 (SlOk.mono (SlOk.mono hs12 (View.le_trans (made_le _ _) (View.le_refl _))) hh.view) A35 c35 (SlOk.mono (SlOk.mono hs13 (View.le_trans (made_le _ _) (View.le_refl _))) hh.view) A36 c36 (SlOk.mono (SlOk.mono hs14 (View.le_trans (made_le _ _) (View.le_refl _))) hh.view)) ?_)
                 intro u V20 hV20 hu
                 obtain rfl := sureInt _ _ _ hu
                 refine TA.on (Hp.old hV20 (View.le_trans (View.le_trans (View.le_trans (View.le_trans (View.le_trans (View.le_trans (View.le_trans hV2 hV4) hV6) hV11) hV12) hV14) hV15) hV17) (.cons_cons _ (.cons_cons _ (.cons_cons _ (.cons _ (.cons_cons _ (.cons _ (.cons_cons _ (.cons _ (.cons_cons _ (.cons_cons _ List.Sublist.slnil)))))))))) (OldAll.box (OldAll.box (OldAll.row (fun _ _ _ _ h => h) (OldAll.row (fun _ _ _ _ h => h) (OldAll.row (fun _ _ _ _ h => h) (OldAll.box (OldAll.box OldAll.nil)))))))) ?_
                 refine TA.all [9] (by kernel_rfl) rfl ⟨?_, trivial⟩
                 refine TA.br rfl (W1.new 3 [.int .i64 r15] (fun b => .slice (some ⟨b, 0, none⟩) 1 1) (by kernel_rfl) (fun _ => by kernel_rfl) (fun b10 => ?_))
                 refine TA.on (Hp.old hV20 (View.le_trans (View.le_trans (View.le_trans (View.le_trans (View.le_trans (View.le_trans (View.le_trans hV2 hV4) hV6) hV11) hV12) hV14) hV15) hV17) (.cons _ (.cons_cons _ (.cons_cons _ (.cons_cons _ (.cons _ (.cons_cons _ (.cons _ (.cons_cons _ (.cons _ (.cons_cons _ (.cons_cons _ List.Sublist.slnil))))))))))) (OldAll.box (OldAll.box (OldAll.row (fun _ _ _ _ h => h) (OldAll.row (fun _ _ _ _ h => h) (OldAll.row (fun _ _ _ _ h => h) (OldAll.box (OldAll.box OldAll.nil)))))))) ?_
                 refine TA.all [10] (by kernel_rfl) rfl ⟨?_, trivial⟩
                 obtain ⟨hb23_r, hb23_m, rfl⟩ := grow_some hb23
                 obtain ⟨ti, hti, hz1, hz2, hz3⟩ := info_parts (P := Try.prog) (e := 3) (z := .int .i64 0) (size := 1) (bytes := 8) (by kernel_rfl)
                 refine TA.br rfl (W1.append (E := eInt) (l := x13) (m := [r15]) 4 _ _ 8 ti _ (by rfl) (by kernel_rfl) rfl (by kernel_rfl) hti hz1 hz2 hz3 rfl (by decide) rfl rfl (fun w' hh => (SlOk.srcF (slok_lit (E := eInt) (f := (fun x => [.int .i64 x])) [r15] (fun _ _ => rfl) (Nat.le_of_ble_eq_true (by rfl)) (fun j => hh.cellBox (i := 0) (by rfl) j)) (fun _ _ _ _ h => h))) hb23_r hb23_m (fun A37 c37 => ?_))
                 refine TA.on (Hp.old hV20 (View.le_trans (View.le_trans (View.le_trans (View.le_trans (View.le_trans (View.le_trans (View.le_trans hV2 hV4) hV6) hV11) hV12) hV14) hV15) hV17) (.cons _ (.cons_cons _ (.cons_cons _ (.cons_cons _ (.cons _ (.cons_cons _ (.cons _ (.cons_cons _ (.cons _ (.cons_cons _ (.cons_cons _ List.Sublist.slnil))))))))))) (OldAll.box (OldAll.box (OldAll.row (fun _ _ _ _ h => h) (OldAll.row (fun _ _ _ _ h => h) (OldAll.row (fun _ _ _ _ h => h) (OldAll.box (OldAll.box OldAll.nil)))))))) ?_
                 refine TA.take 11 (.pointer (some ⟨b7, 4, none⟩)) rfl (by kernel_rfl) (by kernel_rfl) (by kernel_rfl) (fun _ _ _ h => h) (Hp.old hV20 (View.le_trans (View.le_trans (View.le_trans (View.le_trans (View.le_trans (View.le_trans (View.le_trans hV2 hV4) hV6) hV11) hV12) hV14) hV15) hV17) (.cons _ (.cons_cons _ (.cons_cons _ (.cons_cons _ (.cons _ (.cons_cons _ (.cons _ (.cons_cons _ (.cons _ (.cons_cons _ (.cons_cons _ List.Sublist.slnil))))))))))) (OldAll.box (OldAll.box (OldAll.row (fun _ _ _ _ h => h) (OldAll.row (fun _ _ _ _ h => h) (OldAll.row (fun _ _ _ _ h => h) (OldAll.box (OldAll.box OldAll.nil)))))))) (by kernel_rfl) (fun _ _ => by kernel_rfl) ?_
                 refine TA.all [12] (by kernel_rfl) rfl ⟨?_, trivial⟩
                 refine TA.br rfl (W1.store 6 [.int .i64 2, .slice none 0 0, .slice A32 ((x14 ++ [e6.i]).length) c32, .slice A22 x12.length c22, .slice A37 ((x13 ++ [r15]).length) c37] [box b10 3 [.int .i64 r15], box b9 3 [.int .i64 e6.i], box b8 123 [.int .i64 e6.i, .int .i64 e6.s.key.pfs, .int .i64 e6.s.key.obj, .int .i64 e6.s.key.off, .int .i64 e6.s.made], row 43 eSpot A22 c22 x12, row 3 eInt A37 c37 (x13 ++ [r15]), row 3 eInt A32 c32 (x14 ++ [e6.i]), box b7 97 [.int .i64 2, .slice none 0 0, .slice A32 ((x14 ++ [e6.i]).length) c32, .slice A22 x12.length c22, .slice A37 ((x13 ++ [r15]).length) c37], row 123 ebuild_low A17 c17 x8, row 97 (eAt w eNode) A18 c18 x9, box b3 24 [.int .i64 0, .slice A18 x9.length c18], box b1 24 [.int .i64 0, .slice none 0 0]] (by rfl) rfl (by kernel_rfl) (fun w' hw => exec_store (vs := [.slice A37 ((x13 ++ [r15]).length) c37]) rfl rfl rfl rfl (by kernel_rfl) (one_of rfl) (by simp) rfl hw) ?_)
                 refine TA.on (Hp.old hV20 (View.le_trans (View.le_trans (View.le_trans (View.le_trans (View.le_trans (View.le_trans (View.le_trans hV2 hV4) hV6) hV11) hV12) hV14) hV15) hV17) (.cons _ (.cons_cons _ (.cons_cons _ (.cons_cons _ (.cons _ (.cons_cons _ (.cons _ (.cons_cons _ (.cons _ (.cons_cons _ (.cons_cons _ List.Sublist.slnil))))))))))) (OldAll.box (OldAll.box (OldAll.row (fun _ _ _ _ h => h) (OldAll.row (fun _ _ _ _ h => h) (OldAll.row (fun _ _ _ _ h => h) (OldAll.box (OldAll.box OldAll.nil)))))))) ?_
                 refine TA.done (by kernel_rfl) ?_
                 exact fun a w' hf hh => Exists.intro A37 (Exists.intro c37 (Exists.intro V20 (And.intro hV20 (And.intro (((((((((((((((Fr.nil hf).pick hf 104 rfl).pick hf 103 rfl).pick hf 102 rfl).pick hf 95 rfl).pick hf 94 rfl).pick hf 93 rfl).pick hf 17 rfl).pick hf 16 rfl).pick hf 15 rfl).pick hf 14 rfl).pick hf 12 rfl).pick hf 8 rfl).pick hf 7 rfl).pick hf 2 rfl) (hh.sub (.cons _ (.cons _ (.cons_cons _ (.cons_cons _ (.cons_cons _ (.cons_cons _ (.cons_cons _ (.cons_cons _ (.cons_cons _ (.cons_cons _ (.cons_cons _ List.Sublist.slnil))))))))))))))))
               ·
                obtain ⟨hi19, hi20, hi21⟩ := idx_some hb21
                refine TA.br rfl (W1.look (.pointer (some ((sadr A18).add (e6.i.toNat * 5)))) (by kernel_rfl) (fun w' hh => exec_indexAddr (e := 97) (s := 5) rfl rfl rfl (by kernel_rfl) (by kernel_rfl) hi19 hi20 ((hh.row_slOk (i := 7) (by rfl)).some_ hi21 (Nat.le_of_ble_eq_true rfl))) ?_)
                refine TA.on (Hp.old (View.le_refl _) (View.le_trans (View.le_trans (View.le_trans (View.le_trans (View.le_trans (View.le_trans (View.le_trans hV2 hV4) hV6) hV11) hV12) hV14) hV15) hV17) (.cons_cons _ (.cons_cons _ (.cons_cons _ (.cons _ (.cons_cons _ (.cons _ (.cons_cons _ (.cons _ (.cons_cons _ (.cons_cons _ List.Sublist.slnil)))))))))) (OldAll.box (OldAll.box (OldAll.row (fun _ _ _ _ h => h) (OldAll.row (fun _ _ _ _ h => h) (OldAll.row (fun _ _ _ _ h => h) (OldAll.box (OldAll.box OldAll.nil)))))))) ?_
                refine TA.all [1, 7] (by kernel_rfl) rfl ⟨?_, ?_, trivial⟩
                ·
                 refine TA.br rfl (W1.look (.slice A23 x13.length c23) (by kernel_rfl) (fun w' hh => exec_load1 rfl rfl (by kernel_rfl) (hh.cellBox (i := 5) (by rfl) 4)) ?_)
                 refine TA.on (Hp.old (View.le_refl _) (View.le_trans (View.le_trans (View.le_trans (View.le_trans (View.le_trans (View.le_trans (View.le_trans hV2 hV4) hV6) hV11) hV12) hV14) hV15) hV17) (.cons_cons _ (.cons_cons _ (.cons_cons _ (.cons _ (.cons_cons _ (.cons _ (.cons_cons _ (.cons _ (.cons_cons _ (.cons_cons _ List.Sublist.slnil)))))))))) (OldAll.box (OldAll.box (OldAll.row (fun _ _ _ _ h => h) (OldAll.row (fun _ _ _ _ h => h) (OldAll.row (fun _ _ _ _ h => h) (OldAll.box (OldAll.box OldAll.nil)))))))) ?_
                 refine TA.all [7] (by kernel_rfl) rfl ⟨?_, trivial⟩
                 refine TA.br rfl (W1.lookE (fun v => ∃ cs : List Value, v = .agg cs.toArray ∧ eNode.rep (made w V17) cs e7) (by kernel_rfl) (fun w' hh => ?_) ?_)
                 ·
                  obtain ⟨cs, hr, hl⟩ := hh.row_elem (i := 7) (by rfl) hi21
                  exact ⟨.agg cs.toArray, exec_loadN (cs := cs) rfl rfl (by kernel_rfl) (by rw [show cs.length = 5 from Enc.len _ hr]; kernel_rfl) hl, cs, rfl, hr⟩
                 ·
                  rintro v ⟨cs1, rfl, hr6⟩
                  obtain ⟨A33, c33, A34, c34, A35, c35, A36, c36, rfl, hs11, hs12, hs13, hs14⟩ := hr6
                  refine TA.on (Hp.old (View.le_refl _) (View.le_trans (View.le_trans (View.le_trans (View.le_trans (View.le_trans (View.le_trans (View.le_trans hV2 hV4) hV6) hV11) hV12) hV14) hV15) hV17) (.cons_cons _ (.cons_cons _ (.cons_cons _ (.cons _ (.cons_cons _ (.cons _ (.cons_cons _ (.cons _ (.cons_cons _ (.cons_cons _ List.Sublist.slnil)))))))))) (OldAll.box (OldAll.box (OldAll.row (fun _ _ _ _ h => h) (OldAll.row (fun _ _ _ _ h => h) (OldAll.row (fun _ _ _ _ h => h) (OldAll.box (OldAll.box OldAll.nil)))))))) ?_
                  refine TA.all [8] (by kernel_rfl) rfl ⟨?_, trivial⟩
                  refine TA.br rfl (W1.call (vSc eInt) r15 60 #[.agg #[.int .i64 e7.kind, .slice A33 e7.elems.length c33, .slice A34 e7.kids.length c34, .slice A35 e7.seps.length c35, .slice A36 e7.tids.length c36]] (by kernel_rfl) (fun _ => by kernel_rfl) (fun w' hh => node_Greatest_l F e7 r15 hb22 w' A33 c33 (SlOk.mono (SlOk.mono hs11 (View.le_trans (made_le _ _) (View.le_refl _))) hh.view) A34 c34 (SlOk.mono (SlOk.mono hs12 (View.le_trans (made_le _ _) (View.le_refl _))) hh.view) A35 c35 (SlOk.mono (SlOk.mono hs13 (View.le_trans (made_le _ _) (View.le_refl _))) hh.view) A36 c36 (SlOk.mono (SlOk.mono hs14 (View.le_trans (made_le _ _) (View.le_refl _))) hh.view)) ?_)
                  intro u V20 hV20 hu
                  obtain rfl := sureInt _ _ _ hu
                  refine TA.on (Hp.old hV20 (View.le_trans (View.le_trans (View.le_trans (View.le_trans (View.le_trans (View.le_trans (View.le_trans hV2 hV4) hV6) hV11) hV12) hV14) hV15) hV17) (.cons_cons _ (.cons_cons _ (.cons_cons _ (.cons _ (.cons_cons _ (.cons _ (.cons_cons _ (.cons _ (.cons_cons _ (.cons_cons _ List.Sublist.slnil)))))))))) (OldAll.box (OldAll.box (OldAll.row (fun _ _ _ _ h => h) (OldAll.row (fun _ _ _ _ h => h) (OldAll.row (fun _ _ _ _ h => h) (OldAll.box (OldAll.box OldAll.nil)))))))) ?_
                  refine TA.all [9] (by kernel_rfl) rfl ⟨?_, trivial⟩
                  refine TA.br rfl (W1.new 3 [.int .i64 r15] (fun b => .slice (some ⟨b, 0, none⟩) 1 1) (by kernel_rfl) (fun _ => by kernel_rfl) (fun b10 => ?_))
                  refine TA.on (Hp.old hV20 (View.le_trans (View.le_trans (View.le_trans (View.le_trans (View.le_trans (View.le_trans (View.le_trans hV2 hV4) hV6) hV11) hV12) hV14) hV15) hV17) (.cons _ (.cons_cons _ (.cons_cons _ (.cons_cons _ (.cons _ (.cons_cons _ (.cons _ (.cons_cons _ (.cons _ (.cons_cons _ (.cons_cons _ List.Sublist.slnil))))))))))) (OldAll.box (OldAll.box (OldAll.row (fun _ _ _ _ h => h) (OldAll.row (fun _ _ _ _ h => h) (OldAll.row (fun _ _ _ _ h => h) (OldAll.box (OldAll.box OldAll.nil)))))))) ?_
                  refine TA.all [10] (by kernel_rfl) rfl ⟨?_, trivial⟩
                  obtain ⟨hb23_r, hb23_m, rfl⟩ := grow_some hb23
                  obtain ⟨ti, hti, hz1, hz2, hz3⟩ := info_parts (P := Try.prog) (e := 3) (z := .int .i64 0) (size := 1) (bytes := 8) (by kernel_rfl)
                  refine TA.br rfl (W1.append (E := eInt) (l := x13) (m := [r15]) 4 _ _ 8 ti _ (by rfl) (by kernel_rfl) rfl (by kernel_rfl) hti hz1 hz2 hz3 rfl (by decide) rfl rfl (fun w' hh => (SlOk.srcF (slok_lit (E := eInt) (f := (fun x => [.int .i64 x])) [r15] (fun _ _ => rfl) (Nat.le_of_ble_eq_true (by rfl)) (fun j => hh.cellBox (i := 0) (by rfl) j)) (fun _ _ _ _ h => h))) hb23_r hb23_m (fun A37 c37 => ?_))
                  refine TA.on (Hp.old hV20 (View.le_trans (View.le_trans (View.le_trans (View.le_trans (View.le_trans (View.le_trans (View.le_trans hV2 hV4) hV6) hV11) hV12) hV14) hV15) hV17) (.cons _ (.cons_cons _ (.cons_cons _ (.cons_cons _ (.cons _ (.cons_cons _ (.cons _ (.cons_cons _ (.cons _ (.cons_cons _ (.cons_cons _ List.Sublist.slnil))))))))))) (OldAll.box (OldAll.box (OldAll.row (fun _ _ _ _ h => h) (OldAll.row (fun _ _ _ _ h => h) (OldAll.row (fun _ _ _ _ h => h) (OldAll.box (OldAll.box OldAll.nil)))))))) ?_
                  refine TA.take 11 (.pointer (some ⟨b7, 4, none⟩)) rfl (by kernel_rfl) (by kernel_rfl) (by kernel_rfl) (fun _ _ _ h => h) (Hp.old hV20 (View.le_trans (View.le_trans (View.le_trans (View.le_trans (View.le_trans (View.le_trans (View.le_trans hV2 hV4) hV6) hV11) hV12) hV14) hV15) hV17) (.cons _ (.cons_cons _ (.cons_cons _ (.cons_cons _ (.cons _ (.cons_cons _ (.cons _ (.cons_cons _ (.cons _ (.cons_cons _ (.cons_cons _ List.Sublist.slnil))))))))))) (OldAll.box (OldAll.box (OldAll.row (fun _ _ _ _ h => h) (OldAll.row (fun _ _ _ _ h => h) (OldAll.row (fun _ _ _ _ h => h) (OldAll.box (OldAll.box OldAll.nil)))))))) (by kernel_rfl) (fun _ _ => by kernel_rfl) ?_
                  refine TA.all [12] (by kernel_rfl) rfl ⟨?_, trivial⟩
                  refine TA.br rfl (W1.store 6 [.int .i64 2, .slice none 0 0, .slice A32 ((x14 ++ [e6.i]).length) c32, .slice A22 x12.length c22, .slice A37 ((x13 ++ [r15]).length) c37] [box b10 3 [.int .i64 r15], box b9 3 [.int .i64 e6.i], box b8 123 [.int .i64 e6.i, .int .i64 e6.s.key.pfs, .int .i64 e6.s.key.obj, .int .i64 e6.s.key.off, .int .i64 e6.s.made], row 43 eSpot A22 c22 x12, row 3 eInt A37 c37 (x13 ++ [r15]), row 3 eInt A32 c32 (x14 ++ [e6.i]), box b7 97 [.int .i64 2, .slice none 0 0, .slice A32 ((x14 ++ [e6.i]).length) c32, .slice A22 x12.length c22, .slice A37 ((x13 ++ [r15]).length) c37], row 123 ebuild_low A17 c17 x8, row 97 (eAt w eNode) A18 c18 x9, box b3 24 [.int .i64 0, .slice A18 x9.length c18], box b1 24 [.int .i64 0, .slice none 0 0]] (by rfl) rfl (by kernel_rfl) (fun w' hw => exec_store (vs := [.slice A37 ((x13 ++ [r15]).length) c37]) rfl rfl rfl rfl (by kernel_rfl) (one_of rfl) (by simp) rfl hw) ?_)
                  refine TA.on (Hp.old hV20 (View.le_trans (View.le_trans (View.le_trans (View.le_trans (View.le_trans (View.le_trans (View.le_trans hV2 hV4) hV6) hV11) hV12) hV14) hV15) hV17) (.cons _ (.cons_cons _ (.cons_cons _ (.cons_cons _ (.cons _ (.cons_cons _ (.cons _ (.cons_cons _ (.cons _ (.cons_cons _ (.cons_cons _ List.Sublist.slnil))))))))))) (OldAll.box (OldAll.box (OldAll.row (fun _ _ _ _ h => h) (OldAll.row (fun _ _ _ _ h => h) (OldAll.row (fun _ _ _ _ h => h) (OldAll.box (OldAll.box OldAll.nil)))))))) ?_
                  refine TA.done (by kernel_rfl) ?_
                  exact fun a w' hf hh => Exists.intro A37 (Exists.intro c37 (Exists.intro V20 (And.intro hV20 (And.intro (((((((((((((((Fr.nil hf).pick hf 104 rfl).pick hf 103 rfl).pick hf 102 rfl).pick hf 95 rfl).pick hf 94 rfl).pick hf 93 rfl).pick hf 17 rfl).pick hf 16 rfl).pick hf 15 rfl).pick hf 14 rfl).pick hf 12 rfl).pick hf 8 rfl).pick hf 7 rfl).pick hf 2 rfl) (hh.sub (.cons _ (.cons _ (.cons_cons _ (.cons_cons _ (.cons_cons _ (.cons_cons _ (.cons_cons _ (.cons_cons _ (.cons_cons _ (.cons_cons _ (.cons_cons _ List.Sublist.slnil))))))))))))))))
                ·
                 refine TA.br rfl (W1.lookE (fun v => ∃ cs : List Value, v = .agg cs.toArray ∧ eNode.rep (made w V17) cs e7) (by kernel_rfl) (fun w' hh => ?_) ?_)
                 ·
                  obtain ⟨cs, hr, hl⟩ := hh.row_elem (i := 7) (by rfl) hi21
                  exact ⟨.agg cs.toArray, exec_loadN (cs := cs) rfl rfl (by kernel_rfl) (by rw [show cs.length = 5 from Enc.len _ hr]; kernel_rfl) hl, cs, rfl, hr⟩
                 ·
                  rintro v ⟨cs1, rfl, hr6⟩
                  obtain ⟨A33, c33, A34, c34, A35, c35, A36, c36, rfl, hs11, hs12, hs13, hs14⟩ := hr6
                  refine TA.on (Hp.old (View.le_refl _) (View.le_trans (View.le_trans (View.le_trans (View.le_trans (View.le_trans (View.le_trans (View.le_trans hV2 hV4) hV6) hV11) hV12) hV14) hV15) hV17) (.cons_cons _ (.cons_cons _ (.cons_cons _ (.cons _ (.cons_cons _ (.cons _ (.cons_cons _ (.cons _ (.cons_cons _ (.cons_cons _ List.Sublist.slnil)))))))))) (OldAll.box (OldAll.box (OldAll.row (fun _ _ _ _ h => h) (OldAll.row (fun _ _ _ _ h => h) (OldAll.row (fun _ _ _ _ h => h) (OldAll.box (OldAll.box OldAll.nil)))))))) ?_
                  refine TA.all [1, 8] (by kernel_rfl) rfl ⟨?_, ?_, trivial⟩
                  ·
                   refine TA.br rfl (W1.look (.slice A23 x13.length c23) (by kernel_rfl) (fun w' hh => exec_load1 rfl rfl (by kernel_rfl) (hh.cellBox (i := 5) (by rfl) 4)) ?_)
                   refine TA.on (Hp.old (View.le_refl _) (View.le_trans (View.le_trans (View.le_trans (View.le_trans (View.le_trans (View.le_trans (View.le_trans hV2 hV4) hV6) hV11) hV12) hV14) hV15) hV17) (.cons_cons _ (.cons_cons _ (.cons_cons _ (.cons _ (.cons_cons _ (.cons _ (.cons_cons _ (.cons _ (.cons_cons _ (.cons_cons _ List.Sublist.slnil)))))))))) (OldAll.box (OldAll.box (OldAll.row (fun _ _ _ _ h => h) (OldAll.row (fun _ _ _ _ h => h) (OldAll.row (fun _ _ _ _ h => h) (OldAll.box (OldAll.box OldAll.nil)))))))) ?_
                   refine TA.all [8] (by kernel_rfl) rfl ⟨?_, trivial⟩
                   refine TA.br rfl (W1.call (vSc eInt) r15 60 #[.agg #[.int .i64 e7.kind, .slice A33 e7.elems.length c33, .slice A34 e7.kids.length c34, .slice A35 e7.seps.length c35, .slice A36 e7.tids.length c36]] (by kernel_rfl) (fun _ => by kernel_rfl) (fun w' hh => node_Greatest_l F e7 r15 hb22 w' A33 c33 (SlOk.mono (SlOk.mono hs11 (View.le_trans (made_le _ _) (View.le_refl _))) hh.view) A34 c34 (SlOk.mono (SlOk.mono hs12 (View.le_trans (made_le _ _) (View.le_refl _))) hh.view) A35 c35 (SlOk.mono (SlOk.mono hs13 (View.le_trans (made_le _ _) (View.le_refl _))) hh.view) A36 c36 (SlOk.mono (SlOk.mono hs14 (View.le_trans (made_le _ _) (View.le_refl _))) hh.view)) ?_)
                   intro u V20 hV20 hu
                   obtain rfl := sureInt _ _ _ hu
                   refine TA.on (Hp.old hV20 (View.le_trans (View.le_trans (View.le_trans (View.le_trans (View.le_trans (View.le_trans (View.le_trans hV2 hV4) hV6) hV11) hV12) hV14) hV15) hV17) (.cons_cons _ (.cons_cons _ (.cons_cons _ (.cons _ (.cons_cons _ (.cons _ (.cons_cons _ (.cons _ (.cons_cons _ (.cons_cons _ List.Sublist.slnil)))))))))) (OldAll.box (OldAll.box (OldAll.row (fun _ _ _ _ h => h) (OldAll.row (fun _ _ _ _ h => h) (OldAll.row (fun _ _ _ _ h => h) (OldAll.box (OldAll.box OldAll.nil)))))))) ?_
                   refine TA.all [9] (by kernel_rfl) rfl ⟨?_, trivial⟩
                   refine TA.br rfl (W1.new 3 [.int .i64 r15] (fun b => .slice (some ⟨b, 0, none⟩) 1 1) (by kernel_rfl) (fun _ => by kernel_rfl) (fun b10 => ?_))
                   refine TA.on (Hp.old hV20 (View.le_trans (View.le_trans (View.le_trans (View.le_trans (View.le_trans (View.le_trans (View.le_trans hV2 hV4) hV6) hV11) hV12) hV14) hV15) hV17) (.cons _ (.cons_cons _ (.cons_cons _ (.cons_cons _ (.cons _ (.cons_cons _ (.cons _ (.cons_cons _ (.cons _ (.cons_cons _ (.cons_cons _ List.Sublist.slnil))))))))))) (OldAll.box (OldAll.box (OldAll.row (fun _ _ _ _ h => h) (OldAll.row (fun _ _ _ _ h => h) (OldAll.row (fun _ _ _ _ h => h) (OldAll.box (OldAll.box OldAll.nil)))))))) ?_
                   refine TA.all [10] (by kernel_rfl) rfl ⟨?_, trivial⟩
                   obtain ⟨hb23_r, hb23_m, rfl⟩ := grow_some hb23
                   obtain ⟨ti, hti, hz1, hz2, hz3⟩ := info_parts (P := Try.prog) (e := 3) (z := .int .i64 0) (size := 1) (bytes := 8) (by kernel_rfl)
                   refine TA.br rfl (W1.append (E := eInt) (l := x13) (m := [r15]) 4 _ _ 8 ti _ (by rfl) (by kernel_rfl) rfl (by kernel_rfl) hti hz1 hz2 hz3 rfl (by decide) rfl rfl (fun w' hh => (SlOk.srcF (slok_lit (E := eInt) (f := (fun x => [.int .i64 x])) [r15] (fun _ _ => rfl) (Nat.le_of_ble_eq_true (by rfl)) (fun j => hh.cellBox (i := 0) (by rfl) j)) (fun _ _ _ _ h => h))) hb23_r hb23_m (fun A37 c37 => ?_))
                   refine TA.on (Hp.old hV20 (View.le_trans (View.le_trans (View.le_trans (View.le_trans (View.le_trans (View.le_trans (View.le_trans hV2 hV4) hV6) hV11) hV12) hV14) hV15) hV17) (.cons _ (.cons_cons _ (.cons_cons _ (.cons_cons _ (.cons _ (.cons_cons _ (.cons _ (.cons_cons _ (.cons _ (.cons_cons _ (.cons_cons _ List.Sublist.slnil))))))))))) (OldAll.box (OldAll.box (OldAll.row (fun _ _ _ _ h => h) (OldAll.row (fun _ _ _ _ h => h) (OldAll.row (fun _ _ _ _ h => h) (OldAll.box (OldAll.box OldAll.nil)))))))) ?_
                   refine TA.take 11 (.pointer (some ⟨b7, 4, none⟩)) rfl (by kernel_rfl) (by kernel_rfl) (by kernel_rfl) (fun _ _ _ h => h) (Hp.old hV20 (View.le_trans (View.le_trans (View.le_trans (View.le_trans (View.le_trans (View.le_trans (View.le_trans hV2 hV4) hV6) hV11) hV12) hV14) hV15) hV17) (.cons _ (.cons_cons _ (.cons_cons _ (.cons_cons _ (.cons _ (.cons_cons _ (.cons _ (.cons_cons _ (.cons _ (.cons_cons _ (.cons_cons _ List.Sublist.slnil))))))))))) (OldAll.box (OldAll.box (OldAll.row (fun _ _ _ _ h => h) (OldAll.row (fun _ _ _ _ h => h) (OldAll.row (fun _ _ _ _ h => h) (OldAll.box (OldAll.box OldAll.nil)))))))) (by kernel_rfl) (fun _ _ => by kernel_rfl) ?_
                   refine TA.all [12] (by kernel_rfl) rfl ⟨?_, trivial⟩
                   refine TA.br rfl (W1.store 6 [.int .i64 2, .slice none 0 0, .slice A32 ((x14 ++ [e6.i]).length) c32, .slice A22 x12.length c22, .slice A37 ((x13 ++ [r15]).length) c37] [box b10 3 [.int .i64 r15], box b9 3 [.int .i64 e6.i], box b8 123 [.int .i64 e6.i, .int .i64 e6.s.key.pfs, .int .i64 e6.s.key.obj, .int .i64 e6.s.key.off, .int .i64 e6.s.made], row 43 eSpot A22 c22 x12, row 3 eInt A37 c37 (x13 ++ [r15]), row 3 eInt A32 c32 (x14 ++ [e6.i]), box b7 97 [.int .i64 2, .slice none 0 0, .slice A32 ((x14 ++ [e6.i]).length) c32, .slice A22 x12.length c22, .slice A37 ((x13 ++ [r15]).length) c37], row 123 ebuild_low A17 c17 x8, row 97 (eAt w eNode) A18 c18 x9, box b3 24 [.int .i64 0, .slice A18 x9.length c18], box b1 24 [.int .i64 0, .slice none 0 0]] (by rfl) rfl (by kernel_rfl) (fun w' hw => exec_store (vs := [.slice A37 ((x13 ++ [r15]).length) c37]) rfl rfl rfl rfl (by kernel_rfl) (one_of rfl) (by simp) rfl hw) ?_)
                   refine TA.on (Hp.old hV20 (View.le_trans (View.le_trans (View.le_trans (View.le_trans (View.le_trans (View.le_trans (View.le_trans hV2 hV4) hV6) hV11) hV12) hV14) hV15) hV17) (.cons _ (.cons_cons _ (.cons_cons _ (.cons_cons _ (.cons _ (.cons_cons _ (.cons _ (.cons_cons _ (.cons _ (.cons_cons _ (.cons_cons _ List.Sublist.slnil))))))))))) (OldAll.box (OldAll.box (OldAll.row (fun _ _ _ _ h => h) (OldAll.row (fun _ _ _ _ h => h) (OldAll.row (fun _ _ _ _ h => h) (OldAll.box (OldAll.box OldAll.nil)))))))) ?_
                   refine TA.done (by kernel_rfl) ?_
                   exact fun a w' hf hh => Exists.intro A37 (Exists.intro c37 (Exists.intro V20 (And.intro hV20 (And.intro (((((((((((((((Fr.nil hf).pick hf 104 rfl).pick hf 103 rfl).pick hf 102 rfl).pick hf 95 rfl).pick hf 94 rfl).pick hf 93 rfl).pick hf 17 rfl).pick hf 16 rfl).pick hf 15 rfl).pick hf 14 rfl).pick hf 12 rfl).pick hf 8 rfl).pick hf 7 rfl).pick hf 2 rfl) (hh.sub (.cons _ (.cons _ (.cons_cons _ (.cons_cons _ (.cons_cons _ (.cons_cons _ (.cons_cons _ (.cons_cons _ (.cons_cons _ (.cons_cons _ (.cons_cons _ List.Sublist.slnil))))))))))))))))
                  ·
                   refine TA.br rfl (W1.call (vSc eInt) r15 60 #[.agg #[.int .i64 e7.kind, .slice A33 e7.elems.length c33, .slice A34 e7.kids.length c34, .slice A35 e7.seps.length c35, .slice A36 e7.tids.length c36]] (by kernel_rfl) (fun _ => by kernel_rfl) (fun w' hh => node_Greatest_l F e7 r15 hb22 w' A33 c33 (SlOk.mono (SlOk.mono hs11 (View.le_trans (made_le _ _) (View.le_refl _))) hh.view) A34 c34 (SlOk.mono (SlOk.mono hs12 (View.le_trans (made_le _ _) (View.le_refl _))) hh.view) A35 c35 (SlOk.mono (SlOk.mono hs13 (View.le_trans (made_le _ _) (View.le_refl _))) hh.view) A36 c36 (SlOk.mono (SlOk.mono hs14 (View.le_trans (made_le _ _) (View.le_refl _))) hh.view)) ?_)
                   intro u V20 hV20 hu
                   obtain rfl := sureInt _ _ _ hu
                   refine TA.on (Hp.old hV20 (View.le_trans (View.le_trans (View.le_trans (View.le_trans (View.le_trans (View.le_trans (View.le_trans hV2 hV4) hV6) hV11) hV12) hV14) hV15) hV17) (.cons_cons _ (.cons_cons _ (.cons_cons _ (.cons _ (.cons_cons _ (.cons _ (.cons_cons _ (.cons _ (.cons_cons _ (.cons_cons _ List.Sublist.slnil)))))))))) (OldAll.box (OldAll.box (OldAll.row (fun _ _ _ _ h => h) (OldAll.row (fun _ _ _ _ h => h) (OldAll.row (fun _ _ _ _ h => h) (OldAll.box (OldAll.box OldAll.nil)))))))) ?_
                   refine TA.all [1, 9] (by kernel_rfl) rfl ⟨?_, ?_, trivial⟩
                   ·
                    refine TA.br rfl (W1.look (.slice A23 x13.length c23) (by kernel_rfl) (fun w' hh => exec_load1 rfl rfl (by kernel_rfl) (hh.cellBox (i := 5) (by rfl) 4)) ?_)
                    refine TA.on (Hp.old hV20 (View.le_trans (View.le_trans (View.le_trans (View.le_trans (View.le_trans (View.le_trans (View.le_trans hV2 hV4) hV6) hV11) hV12) hV14) hV15) hV17) (.cons_cons _ (.cons_cons _ (.cons_cons _ (.cons _ (.cons_cons _ (.cons _ (.cons_cons _ (.cons _ (.cons_cons _ (.cons_cons _ List.Sublist.slnil)))))))))) (OldAll.box (OldAll.box (OldAll.row (fun _ _ _ _ h => h) (OldAll.row (fun _ _ _ _ h => h) (OldAll.row (fun _ _ _ _ h => h) (OldAll.box (OldAll.box OldAll.nil)))))))) ?_
                    refine TA.all [9] (by kernel_rfl) rfl ⟨?_, trivial⟩
                    refine TA.br rfl (W1.new 3 [.int .i64 r15] (fun b => .slice (some ⟨b, 0, none⟩) 1 1) (by kernel_rfl) (fun _ => by kernel_rfl) (fun b10 => ?_))
                    refine TA.on (Hp.old hV20 (View.le_trans (View.le_trans (View.le_trans (View.le_trans (View.le_trans (View.le_trans (View.le_trans hV2 hV4) hV6) hV11) hV12) hV14) hV15) hV17) (.cons _ (.cons_cons _ (.cons_cons _ (.cons_cons _ (.cons _ (.cons_cons _ (.cons _ (.cons_cons _ (.cons _ (.cons_cons _ (.cons_cons _ List.Sublist.slnil))))))))))) (OldAll.box (OldAll.box (OldAll.row (fun _ _ _ _ h => h) (OldAll.row (fun _ _ _ _ h => h) (OldAll.row (fun _ _ _ _ h => h) (OldAll.box (OldAll.box OldAll.nil)))))))) ?_
                    refine TA.all [10] (by kernel_rfl) rfl ⟨?_, trivial⟩
                    obtain ⟨hb23_r, hb23_m, rfl⟩ := grow_some hb23
                    obtain ⟨ti, hti, hz1, hz2, hz3⟩ := info_parts (P := Try.prog) (e := 3) (z := .int .i64 0) (size := 1) (bytes := 8) (by kernel_rfl)
                    refine TA.br rfl (W1.append (E := eInt) (l := x13) (m := [r15]) 4 _ _ 8 ti _ (by rfl) (by kernel_rfl) rfl (by kernel_rfl) hti hz1 hz2 hz3 rfl (by decide) rfl rfl (fun w' hh => (SlOk.srcF (slok_lit (E := eInt) (f := (fun x => [.int .i64 x])) [r15] (fun _ _ => rfl) (Nat.le_of_ble_eq_true (by rfl)) (fun j => hh.cellBox (i := 0) (by rfl) j)) (fun _ _ _ _ h => h))) hb23_r hb23_m (fun A37 c37 => ?_))
                    refine TA.on (Hp.old hV20 (View.le_trans (View.le_trans (View.le_trans (View.le_trans (View.le_trans (View.le_trans (View.le_trans hV2 hV4) hV6) hV11) hV12) hV14) hV15) hV17) (.cons _ (.cons_cons _ (.cons_cons _ (.cons_cons _ (.cons _ (.cons_cons _ (.cons _ (.cons_cons _ (.cons _ (.cons_cons _ (.cons_cons _ List.Sublist.slnil))))))))))) (OldAll.box (OldAll.box (OldAll.row (fun _ _ _ _ h => h) (OldAll.row (fun _ _ _ _ h => h) (OldAll.row (fun _ _ _ _ h => h) (OldAll.box (OldAll.box OldAll.nil)))))))) ?_
                    refine TA.take 11 (.pointer (some ⟨b7, 4, none⟩)) rfl (by kernel_rfl) (by kernel_rfl) (by kernel_rfl) (fun _ _ _ h => h) (Hp.old hV20 (View.le_trans (View.le_trans (View.le_trans (View.le_trans (View.le_trans (View.le_trans (View.le_trans hV2 hV4) hV6) hV11) hV12) hV14) hV15) hV17) (.cons _ (.cons_cons _ (.cons_cons _ (.cons_cons _ (.cons _ (.cons_cons _ (.cons _ (.cons_cons _ (.cons _ (.cons_cons _ (.cons_cons _ List.Sublist.slnil))))))))))) (OldAll.box (OldAll.box (OldAll.row (fun _ _ _ _ h => h) (OldAll.row (fun _ _ _ _ h => h) (OldAll.row (fun _ _ _ _ h => h) (OldAll.box (OldAll.box OldAll.nil)))))))) (by kernel_rfl) (fun _ _ => by kernel_rfl) ?_
                    refine TA.all [12] (by kernel_rfl) rfl ⟨?_, trivial⟩
                    refine TA.br rfl (W1.store 6 [.int .i64 2, .slice none 0 0, .slice A32 ((x14 ++ [e6.i]).length) c32, .slice A22 x12.length c22, .slice A37 ((x13 ++ [r15]).length) c37] [box b10 3 [.int .i64 r15], box b9 3 [.int .i64 e6.i], box b8 123 [.int .i64 e6.i, .int .i64 e6.s.key.pfs, .int .i64 e6.s.key.obj, .int .i64 e6.s.key.off, .int .i64 e6.s.made], row 43 eSpot A22 c22 x12, row 3 eInt A37 c37 (x13 ++ [r15]), row 3 eInt A32 c32 (x14 ++ [e6.i]), box b7 97 [.int .i64 2, .slice none 0 0, .slice A32 ((x14 ++ [e6.i]).length) c32, .slice A22 x12.length c22, .slice A37 ((x13 ++ [r15]).length) c37], row 123 ebuild_low A17 c17 x8, row 97 (eAt w eNode) A18 c18 x9, box b3 24 [.int .i64 0, .slice A18 x9.length c18], box b1 24 [.int .i64 0, .slice none 0 0]] (by rfl) rfl (by kernel_rfl) (fun w' hw => exec_store (vs := [.slice A37 ((x13 ++ [r15]).length) c37]) rfl rfl rfl rfl (by kernel_rfl) (one_of rfl) (by simp) rfl hw) ?_)
                    refine TA.on (Hp.old hV20 (View.le_trans (View.le_trans (View.le_trans (View.le_trans (View.le_trans (View.le_trans (View.le_trans hV2 hV4) hV6) hV11) hV12) hV14) hV15) hV17) (.cons _ (.cons_cons _ (.cons_cons _ (.cons_cons _ (.cons _ (.cons_cons _ (.cons _ (.cons_cons _ (.cons _ (.cons_cons _ (.cons_cons _ List.Sublist.slnil))))))))))) (OldAll.box (OldAll.box (OldAll.row (fun _ _ _ _ h => h) (OldAll.row (fun _ _ _ _ h => h) (OldAll.row (fun _ _ _ _ h => h) (OldAll.box (OldAll.box OldAll.nil)))))))) ?_
                    refine TA.done (by kernel_rfl) ?_
                    exact fun a w' hf hh => Exists.intro A37 (Exists.intro c37 (Exists.intro V20 (And.intro hV20 (And.intro (((((((((((((((Fr.nil hf).pick hf 104 rfl).pick hf 103 rfl).pick hf 102 rfl).pick hf 95 rfl).pick hf 94 rfl).pick hf 93 rfl).pick hf 17 rfl).pick hf 16 rfl).pick hf 15 rfl).pick hf 14 rfl).pick hf 12 rfl).pick hf 8 rfl).pick hf 7 rfl).pick hf 2 rfl) (hh.sub (.cons _ (.cons _ (.cons_cons _ (.cons_cons _ (.cons_cons _ (.cons_cons _ (.cons_cons _ (.cons_cons _ (.cons_cons _ (.cons_cons _ (.cons_cons _ List.Sublist.slnil))))))))))))))))
                   ·
                    refine TA.br rfl (W1.new 3 [.int .i64 r15] (fun b => .slice (some ⟨b, 0, none⟩) 1 1) (by kernel_rfl) (fun _ => by kernel_rfl) (fun b10 => ?_))
                    refine TA.on (Hp.old hV20 (View.le_trans (View.le_trans (View.le_trans (View.le_trans (View.le_trans (View.le_trans (View.le_trans hV2 hV4) hV6) hV11) hV12) hV14) hV15) hV17) (.cons _ (.cons_cons _ (.cons_cons _ (.cons_cons _ (.cons _ (.cons_cons _ (.cons _ (.cons_cons _ (.cons _ (.cons_cons _ (.cons_cons _ List.Sublist.slnil))))))))))) (OldAll.box (OldAll.box (OldAll.row (fun _ _ _ _ h => h) (OldAll.row (fun _ _ _ _ h => h) (OldAll.row (fun _ _ _ _ h => h) (OldAll.box (OldAll.box OldAll.nil)))))))) ?_
                    refine TA.all [1] (by kernel_rfl) rfl ⟨?_, trivial⟩
                    refine TA.br rfl (W1.look (.slice A23 x13.length c23) (by kernel_rfl) (fun w' hh => exec_load1 rfl rfl (by kernel_rfl) (hh.cellBox (i := 6) (by rfl) 4)) ?_)
                    refine TA.on (Hp.old hV20 (View.le_trans (View.le_trans (View.le_trans (View.le_trans (View.le_trans (View.le_trans (View.le_trans hV2 hV4) hV6) hV11) hV12) hV14) hV15) hV17) (.cons _ (.cons_cons _ (.cons_cons _ (.cons_cons _ (.cons _ (.cons_cons _ (.cons _ (.cons_cons _ (.cons _ (.cons_cons _ (.cons_cons _ List.Sublist.slnil))))))))))) (OldAll.box (OldAll.box (OldAll.row (fun _ _ _ _ h => h) (OldAll.row (fun _ _ _ _ h => h) (OldAll.row (fun _ _ _ _ h => h) (OldAll.box (OldAll.box OldAll.nil)))))))) ?_
                    refine TA.all [10] (by kernel_rfl) rfl ⟨?_, trivial⟩
                    obtain ⟨hb23_r, hb23_m, rfl⟩ := grow_some hb23
                    obtain ⟨ti, hti, hz1, hz2, hz3⟩ := info_parts (P := Try.prog) (e := 3) (z := .int .i64 0) (size := 1) (bytes := 8) (by kernel_rfl)
                    refine TA.br rfl (W1.append (E := eInt) (l := x13) (m := [r15]) 4 _ _ 8 ti _ (by rfl) (by kernel_rfl) rfl (by kernel_rfl) hti hz1 hz2 hz3 rfl (by decide) rfl rfl (fun w' hh => (SlOk.srcF (slok_lit (E := eInt) (f := (fun x => [.int .i64 x])) [r15] (fun _ _ => rfl) (Nat.le_of_ble_eq_true (by rfl)) (fun j => hh.cellBox (i := 0) (by rfl) j)) (fun _ _ _ _ h => h))) hb23_r hb23_m (fun A37 c37 => ?_))
                    refine TA.on (Hp.old hV20 (View.le_trans (View.le_trans (View.le_trans (View.le_trans (View.le_trans (View.le_trans (View.le_trans hV2 hV4) hV6) hV11) hV12) hV14) hV15) hV17) (.cons _ (.cons_cons _ (.cons_cons _ (.cons_cons _ (.cons _ (.cons_cons _ (.cons _ (.cons_cons _ (.cons _ (.cons_cons _ (.cons_cons _ List.Sublist.slnil))))))))))) (OldAll.box (OldAll.box (OldAll.row (fun _ _ _ _ h => h) (OldAll.row (fun _ _ _ _ h => h) (OldAll.row (fun _ _ _ _ h => h) (OldAll.box (OldAll.box OldAll.nil)))))))) ?_
                    refine TA.take 11 (.pointer (some ⟨b7, 4, none⟩)) rfl (by kernel_rfl) (by kernel_rfl) (by kernel_rfl) (fun _ _ _ h => h) (Hp.old hV20 (View.le_trans (View.le_trans (View.le_trans (View.le_trans (View.le_trans (View.le_trans (View.le_trans hV2 hV4) hV6) hV11) hV12) hV14) hV15) hV17) (.cons _ (.cons_cons _ (.cons_cons _ (.cons_cons _ (.cons _ (.cons_cons _ (.cons _ (.cons_cons _ (.cons _ (.cons_cons _ (.cons_cons _ List.Sublist.slnil))))))))))) (OldAll.box (OldAll.box (OldAll.row (fun _ _ _ _ h => h) (OldAll.row (fun _ _ _ _ h => h) (OldAll.row (fun _ _ _ _ h => h) (OldAll.box (OldAll.box OldAll.nil)))))))) (by kernel_rfl) (fun _ _ => by kernel_rfl) ?_
                    refine TA.all [12] (by kernel_rfl) rfl ⟨?_, trivial⟩
                    refine TA.br rfl (W1.store 6 [.int .i64 2, .slice none 0 0, .slice A32 ((x14 ++ [e6.i]).length) c32, .slice A22 x12.length c22, .slice A37 ((x13 ++ [r15]).length) c37] [box b10 3 [.int .i64 r15], box b9 3 [.int .i64 e6.i], box b8 123 [.int .i64 e6.i, .int .i64 e6.s.key.pfs, .int .i64 e6.s.key.obj, .int .i64 e6.s.key.off, .int .i64 e6.s.made], row 43 eSpot A22 c22 x12, row 3 eInt A37 c37 (x13 ++ [r15]), row 3 eInt A32 c32 (x14 ++ [e6.i]), box b7 97 [.int .i64 2, .slice none 0 0, .slice A32 ((x14 ++ [e6.i]).length) c32, .slice A22 x12.length c22, .slice A37 ((x13 ++ [r15]).length) c37], row 123 ebuild_low A17 c17 x8, row 97 (eAt w eNode) A18 c18 x9, box b3 24 [.int .i64 0, .slice A18 x9.length c18], box b1 24 [.int .i64 0, .slice none 0 0]] (by rfl) rfl (by kernel_rfl) (fun w' hw => exec_store (vs := [.slice A37 ((x13 ++ [r15]).length) c37]) rfl rfl rfl rfl (by kernel_rfl) (one_of rfl) (by simp) rfl hw) ?_)
                    refine TA.on (Hp.old hV20 (View.le_trans (View.le_trans (View.le_trans (View.le_trans (View.le_trans (View.le_trans (View.le_trans hV2 hV4) hV6) hV11) hV12) hV14) hV15) hV17) (.cons _ (.cons_cons _ (.cons_cons _ (.cons_cons _ (.cons _ (.cons_cons _ (.cons _ (.cons_cons _ (.cons _ (.cons_cons _ (.cons_cons _ List.Sublist.slnil))))))))))) (OldAll.box (OldAll.box (OldAll.row (fun _ _ _ _ h => h) (OldAll.row (fun _ _ _ _ h => h) (OldAll.row (fun _ _ _ _ h => h) (OldAll.box (OldAll.box OldAll.nil)))))))) ?_
                    refine TA.done (by kernel_rfl) ?_
                    exact fun a w' hf hh => Exists.intro A37 (Exists.intro c37 (Exists.intro V20 (And.intro hV20 (And.intro (((((((((((((((Fr.nil hf).pick hf 104 rfl).pick hf 103 rfl).pick hf 102 rfl).pick hf 95 rfl).pick hf 94 rfl).pick hf 93 rfl).pick hf 17 rfl).pick hf 16 rfl).pick hf 15 rfl).pick hf 14 rfl).pick hf 12 rfl).pick hf 8 rfl).pick hf 7 rfl).pick hf 2 rfl) (hh.sub (.cons _ (.cons _ (.cons_cons _ (.cons_cons _ (.cons_cons _ (.cons_cons _ (.cons_cons _ (.cons_cons _ (.cons_cons _ (.cons_cons _ (.cons_cons _ List.Sublist.slnil))))))))))))))))
              ·
               rintro a w' ⟨A38, c38, V21, hV21, hf, hh⟩
               refine (?_ : T 166 w V21 [box b8 123 [.int .i64 e6.i, .int .i64 e6.s.key.pfs, .int .i64 e6.s.key.obj, .int .i64 e6.s.key.off, .int .i64 e6.s.made], row 43 eSpot A22 c22 x12, row 3 eInt A38 c38 (x13 ++ [r15]), row 3 eInt A32 c32 (x14 ++ [e6.i]), box b7 97 [.int .i64 2, .slice none 0 0, .slice A32 ((x14 ++ [e6.i]).length) c32, .slice A22 x12.length c22, .slice A38 ((x13 ++ [r15]).length) c38], row 123 ebuild_low A17 c17 x8, row 97 (eAt w eNode) A18 c18 x9, box b3 24 [.int .i64 0, .slice A18 x9.length c18], box b1 24 [.int .i64 0, .slice none 0 0]] [(2, .pointer (some ⟨b1, 0, none⟩)), (7, .pointer (some ⟨b3, 0, none⟩)), (8, .slice A19 x10.length c19), (12, .slice A17 x8.length c17), (14, .int .i64 e5), (15, .pointer (some ⟨b7, 0, none⟩)), (16, .int .i64 x15), (17, .pointer (some ⟨b8, 0, none⟩)), (93, .slice A16 r10.length c16), (94, .int .i64 (r10.length : Int)), (95, .int .i64 x11), (102, .slice A25 s6.length c25), (103, .int .i64 (s6.length : Int)), (104, .int .i64 x15)] _) a w' hf hh
               clear hf hh
               refine T.seq ?_
               refine T.region ?_
               refine T.pure (.int .i64 x15) (by kernel_rfl) (fun _ => by kernel_rfl) ?_
               refine T.pure (.bool (decide ((0 : Int) < x15))) (by kernel_rfl) (fun _ => by kernel_rfl) ?_
               refine T.nil ?_
               refine T.cond (decide ((0 : Int) < x15)) (by kernel_rfl) (by kernel_rfl) (fun hc10 => ?_) (fun hc10 => ?_)
               ·
                rw [hc10, cond_true] at hX3
                refine T.region ?_
                refine T.pure (.pointer (some ⟨b7, 3, none⟩)) (by kernel_rfl) (fun _ => by kernel_rfl) ?_
                refine T.look (.slice A22 x12.length c22) (by kernel_rfl) (fun w' hh => exec_load1 rfl rfl (by kernel_rfl) (hh.cellBox (i := 4) (by rfl) 3)) ?_
                refine T.pure (.pointer (some ⟨b8, 1, none⟩)) (by kernel_rfl) (fun _ => by kernel_rfl) ?_
                refine T.look (.agg #[.int .i64 e6.s.key.pfs, .int .i64 e6.s.key.obj, .int .i64 e6.s.key.off, .int .i64 e6.s.made]) (by kernel_rfl) (fun w' hh => exec_loadN (cs := [.int .i64 e6.s.key.pfs, .int .i64 e6.s.key.obj, .int .i64 e6.s.key.off, .int .i64 e6.s.made]) rfl rfl (by kernel_rfl) (by kernel_rfl) (fun j u hj => (hh.box_at (i := 0) (cs := [.int .i64 e6.i, .int .i64 e6.s.key.pfs, .int .i64 e6.s.key.obj, .int .i64 e6.s.key.off, .int .i64 e6.s.made]) (by rfl) 1 j).trans (seg_at (n := 4) (by rfl) hj))) ?_
                refine T.step (W1.new 43 [.int .i64 e6.s.key.pfs, .int .i64 e6.s.key.obj, .int .i64 e6.s.key.off, .int .i64 e6.s.made] (fun b => .slice (some ⟨b, 0, none⟩) 1 1) (by kernel_rfl) (fun _ => by kernel_rfl) (fun b11 => ?_))
                obtain ⟨y11, hb24, hX3⟩ := Option.bind_eq_some_iff.1 hX3
                obtain ⟨hb24_r, hb24_m, rfl⟩ := grow_some hb24
                obtain ⟨ti, hti, hz1, hz2, hz3⟩ := info_parts (P := Try.prog) (e := 43) (z := .agg #[.int .i64 0, .int .i64 0, .int .i64 0, .int .i64 0]) (size := 4) (bytes := 32) (by kernel_rfl)
                refine T.step (W1.append (E := eSpot) (l := x12) (m := [e6.s]) 2 _ _ 32 ti _ (by rfl) (by kernel_rfl) rfl (by kernel_rfl) hti hz1 hz2 hz3 rfl (by decide) rfl rfl (fun w' hh => (SlOk.srcF (slok_lit (E := eSpot) (f := DSpot.cells) [e6.s] (fun _ _ => rfl) (Nat.le_of_ble_eq_true (by rfl)) (fun j => hh.cellBox (i := 0) (by rfl) j)) (fun _ _ _ _ h => h))) hb24_r hb24_m (fun A39 c39 => ?_))
                refine T.pure (.pointer (some ⟨b7, 3, none⟩)) (by kernel_rfl) (fun _ => by kernel_rfl) ?_
                refine T.step (W1.store 5 [.int .i64 2, .slice none 0 0, .slice A32 ((x14 ++ [e6.i]).length) c32, .slice A39 ((x12 ++ [e6.s]).length) c39, .slice A38 ((x13 ++ [r15]).length) c38] [box b11 43 [.int .i64 e6.s.key.pfs, .int .i64 e6.s.key.obj, .int .i64 e6.s.key.off, .int .i64 e6.s.made], box b8 123 [.int .i64 e6.i, .int .i64 e6.s.key.pfs, .int .i64 e6.s.key.obj, .int .i64 e6.s.key.off, .int .i64 e6.s.made], row 43 eSpot A39 c39 (x12 ++ [e6.s]), row 3 eInt A38 c38 (x13 ++ [r15]), row 3 eInt A32 c32 (x14 ++ [e6.i]), box b7 97 [.int .i64 2, .slice none 0 0, .slice A32 ((x14 ++ [e6.i]).length) c32, .slice A39 ((x12 ++ [e6.s]).length) c39, .slice A38 ((x13 ++ [r15]).length) c38], row 123 ebuild_low A17 c17 x8, row 97 (eAt w eNode) A18 c18 x9, box b3 24 [.int .i64 0, .slice A18 x9.length c18], box b1 24 [.int .i64 0, .slice none 0 0]] (by rfl) rfl (by kernel_rfl) (fun w' hw => exec_store (vs := [.slice A39 ((x12 ++ [e6.s]).length) c39]) rfl rfl rfl rfl (by kernel_rfl) (one_of rfl) (by simp) rfl hw) ?_)
                refine T.nil ?_
                cases hX3
                exact fun a w' hf hh => Exists.intro (x12 ++ [e6.s]) (Exists.intro (x13 ++ [r15]) (Exists.intro (x14 ++ [e6.i]) (And.intro rfl (Exists.intro A39 (Exists.intro c39 (Exists.intro A38 (Exists.intro c38 (Exists.intro A32 (Exists.intro c32 (Exists.intro V21 (And.intro hV21 (And.intro (((((((((((((Fr.nil hf).pick hf 104 rfl).pick hf 103 rfl).pick hf 102 rfl).pick hf 95 rfl).pick hf 94 rfl).pick hf 93 rfl).pick hf 15 rfl).pick hf 14 rfl).pick hf 12 rfl).pick hf 8 rfl).pick hf 7 rfl).pick hf 2 rfl) (hh.sub (.cons _ (.cons _ (.cons_cons _ (.cons_cons _ (.cons_cons _ (.cons_cons _ (.cons_cons _ (.cons_cons _ (.cons_cons _ (.cons_cons _ List.Sublist.slnil)))))))))))))))))))))))
               ·
                rw [hc10, cond_false] at hX3
                refine T.skip_code ?_
                cases hX3
                exact fun a w' hf hh => Exists.intro x12 (Exists.intro (x13 ++ [r15]) (Exists.intro (x14 ++ [e6.i]) (And.intro rfl (Exists.intro A22 (Exists.intro c22 (Exists.intro A38 (Exists.intro c38 (Exists.intro A32 (Exists.intro c32 (Exists.intro V21 (And.intro hV21 (And.intro (((((((((((((Fr.nil hf).pick hf 104 rfl).pick hf 103 rfl).pick hf 102 rfl).pick hf 95 rfl).pick hf 94 rfl).pick hf 93 rfl).pick hf 15 rfl).pick hf 14 rfl).pick hf 12 rfl).pick hf 8 rfl).pick hf 7 rfl).pick hf 2 rfl) (hh.sub (.cons _ (.cons_cons _ (.cons_cons _ (.cons_cons _ (.cons_cons _ (.cons_cons _ (.cons_cons _ (.cons_cons _ (.cons_cons _ List.Sublist.slnil))))))))))))))))))))))
             ·
              rintro a w' ⟨z15, z16, z17, rfl, A29, c29, A30, c30, A31, c31, V19, hV19, hf, hh⟩
              try dsimp only at hY5
              refine (?_ : T 166 w V19 [row 43 eSpot A29 c29 z15, row 3 eInt A30 c30 z16, row 3 eInt A31 c31 z17, box b7 97 [.int .i64 2, .slice none 0 0, .slice A31 z17.length c31, .slice A29 z15.length c29, .slice A30 z16.length c30], row 123 ebuild_low A17 c17 x8, row 97 (eAt w eNode) A18 c18 x9, box b3 24 [.int .i64 0, .slice A18 x9.length c18], box b1 24 [.int .i64 0, .slice none 0 0]] [(2, .pointer (some ⟨b1, 0, none⟩)), (7, .pointer (some ⟨b3, 0, none⟩)), (8, .slice A19 x10.length c19), (12, .slice A17 x8.length c17), (14, .int .i64 e5), (15, .pointer (some ⟨b7, 0, none⟩)), (93, .slice A16 r10.length c16), (94, .int .i64 (r10.length : Int)), (95, .int .i64 x11), (102, .slice A25 s6.length c25), (103, .int .i64 (s6.length : Int)), (104, .int .i64 x15)] _) a w' hf hh
              clear hf hh
              refine T.region ?_
              refine T.pure (.int .i64 (IntKind.i64.wrap (x15 + 1))) (by kernel_rfl) (fun _ => by kernel_rfl) ?_
              refine T.pure (.int .i64 (IntKind.i64.wrap (x15 + 1))) (by kernel_rfl) (fun _ => by kernel_rfl) ?_
              refine T.nil ?_
              cases hY5
              exact fun a w' hf hh => Exists.intro (z15, z16, z17, IntKind.i64.wrap (x15 + 1)) (And.intro rfl (Exists.intro z15 (Exists.intro z16 (Exists.intro z17 (Exists.intro (IntKind.i64.wrap (x15 + 1)) (And.intro rfl (Exists.intro A29 (Exists.intro c29 (Exists.intro A30 (Exists.intro c30 (Exists.intro A31 (Exists.intro c31 (Exists.intro A25 (Exists.intro c25 (Exists.intro V19 (And.intro (View.le_trans hV17 hV19) (And.intro (SlOk.mono hs10 (made_mono hV19)) (And.intro (((((((((((((Fr.nil hf).pick hf 104 rfl).pick hf 103 rfl).pick hf 102 rfl).pick hf 95 rfl).pick hf 94 rfl).pick hf 93 rfl).pick hf 15 rfl).pick hf 14 rfl).pick hf 12 rfl).pick hf 8 rfl).pick hf 7 rfl).pick hf 2 rfl) (hh.sub (.cons_cons _ (.cons_cons _ (.cons_cons _ (.cons_cons _ (.cons_cons _ (.cons_cons _ (.cons_cons _ (.cons_cons _ List.Sublist.slnil)))))))))))))))))))))))))))
            ·
             rw [hc9, cond_false] at hY5
             refine T.exit ?_
             cases hY5
             cases (hr5 _ rfl)
             exact fun a w' hf hh => Exists.intro x12 (Exists.intro x13 (Exists.intro x14 (And.intro rfl (Exists.intro A22 (Exists.intro c22 (Exists.intro A23 (Exists.intro c23 (Exists.intro A24 (Exists.intro c24 (Exists.intro V17 (And.intro hV17 (And.intro ((((((((((Fr.nil hf).pick hf 95 rfl).pick hf 94 rfl).pick hf 93 rfl).pick hf 15 rfl).pick hf 14 rfl).pick hf 12 rfl).pick hf 8 rfl).pick hf 7 rfl).pick hf 2 rfl) (hh.sub (.cons_cons _ (.cons_cons _ (.cons_cons _ (.cons_cons _ (.cons_cons _ (.cons_cons _ (.cons_cons _ (.cons_cons _ List.Sublist.slnil)))))))))))))))))))))
          ·
           rintro a w' ⟨z12, z13, z14, rfl, A26, c26, A27, c27, A28, c28, V18, hV18, hf, hh⟩
           try dsimp only at hY4
           refine (?_ : T 166 w V18 [row 43 eSpot A26 c26 z12, row 3 eInt A27 c27 z13, row 3 eInt A28 c28 z14, box b7 97 [.int .i64 2, .slice none 0 0, .slice A28 z14.length c28, .slice A26 z12.length c26, .slice A27 z13.length c27], row 123 ebuild_low A17 c17 x8, row 97 (eAt w eNode) A18 c18 x9, box b3 24 [.int .i64 0, .slice A18 x9.length c18], box b1 24 [.int .i64 0, .slice none 0 0]] [(2, .pointer (some ⟨b1, 0, none⟩)), (7, .pointer (some ⟨b3, 0, none⟩)), (8, .slice A19 x10.length c19), (12, .slice A17 x8.length c17), (14, .int .i64 e5), (15, .pointer (some ⟨b7, 0, none⟩)), (93, .slice A16 r10.length c16), (94, .int .i64 (r10.length : Int)), (95, .int .i64 x11)] _) a w' hf hh
           clear hf hh
           refine T.seq ?_
           refine T.held [row 43 eSpot A26 c26 z12, row 3 eInt A27 c27 z13, row 3 eInt A28 c28 z14, box b7 97 [.int .i64 2, .slice none 0 0, .slice A28 z14.length c28, .slice A26 z12.length c26, .slice A27 z13.length c27], box b3 24 [.int .i64 0, .slice A18 x9.length c18], box b1 24 [.int .i64 0, .slice none 0 0]] (by kernel_rfl) ?_
           refine TA.take 0 (.slice A17 x8.length c17) rfl (by kernel_rfl) (by kernel_rfl) (by kernel_rfl) (fun _ _ _ h => h) (Hp.old (View.le_refl _) (View.le_trans (View.le_trans (View.le_trans (View.le_trans (View.le_trans (View.le_trans (View.le_trans hV2 hV4) hV6) hV11) hV12) hV14) hV15) hV18) (.cons_cons _ (.cons_cons _ (.cons_cons _ (.cons_cons _ (.cons _ (.cons _ (.cons_cons _ (.cons_cons _ List.Sublist.slnil)))))))) (OldAll.row (fun _ _ _ _ h => h) (OldAll.row (fun _ _ _ _ h => h) (OldAll.row (fun _ _ _ _ h => h) (OldAll.box (OldAll.box (OldAll.box OldAll.nil))))))) (by kernel_rfl) (fun _ _ => by kernel_rfl) ?_
           refine TA.take 1 (.pointer (some ⟨b3, 1, none⟩)) rfl (by kernel_rfl) (by kernel_rfl) (by kernel_rfl) (fun _ _ _ h => h) (Hp.old (View.le_refl _) (View.le_trans (View.le_trans (View.le_trans (View.le_trans (View.le_trans (View.le_trans (View.le_trans hV2 hV4) hV6) hV11) hV12) hV14) hV15) hV18) (.cons_cons _ (.cons_cons _ (.cons_cons _ (.cons_cons _ (.cons _ (.cons _ (.cons_cons _ (.cons_cons _ List.Sublist.slnil)))))))) (OldAll.row (fun _ _ _ _ h => h) (OldAll.row (fun _ _ _ _ h => h) (OldAll.row (fun _ _ _ _ h => h) (OldAll.box (OldAll.box (OldAll.box OldAll.nil))))))) (by kernel_rfl) (fun _ _ => by kernel_rfl) ?_
           refine TA.take 2 (.slice A18 x9.length c18) rfl (by kernel_rfl) (by kernel_rfl) (by kernel_rfl) (fun _ _ _ h => h) (Hp.old (View.le_refl _) (View.le_trans (View.le_trans (View.le_trans (View.le_trans (View.le_trans (View.le_trans (View.le_trans hV2 hV4) hV6) hV11) hV12) hV14) hV15) hV18) (.cons_cons _ (.cons_cons _ (.cons_cons _ (.cons_cons _ (.cons _ (.cons _ (.cons_cons _ (.cons_cons _ List.Sublist.slnil)))))))) (OldAll.row (fun _ _ _ _ h => h) (OldAll.row (fun _ _ _ _ h => h) (OldAll.row (fun _ _ _ _ h => h) (OldAll.box (OldAll.box (OldAll.box OldAll.nil))))))) (by kernel_rfl) (fun w' hh => exec_load1 rfl rfl (by kernel_rfl) (hh.cellBox (i := 4) (by rfl) 1)) ?_
           refine TA.take 3 (.int .i64 (x9.length : Int)) rfl (by kernel_rfl) (by kernel_rfl) (by kernel_rfl) (fun _ _ _ h => h) (Hp.old (View.le_refl _) (View.le_trans (View.le_trans (View.le_trans (View.le_trans (View.le_trans (View.le_trans (View.le_trans hV2 hV4) hV6) hV11) hV12) hV14) hV15) hV18) (.cons_cons _ (.cons_cons _ (.cons_cons _ (.cons_cons _ (.cons _ (.cons _ (.cons_cons _ (.cons_cons _ List.Sublist.slnil)))))))) (OldAll.row (fun _ _ _ _ h => h) (OldAll.row (fun _ _ _ _ h => h) (OldAll.row (fun _ _ _ _ h => h) (OldAll.box (OldAll.box (OldAll.box OldAll.nil))))))) (by kernel_rfl) (fun _ _ => by kernel_rfl) ?_
           refine TA.take 4 (.slice A19 x10.length c19) rfl (by kernel_rfl) (by kernel_rfl) (by kernel_rfl) (fun _ _ _ h => h) (Hp.old (View.le_refl _) (View.le_trans (View.le_trans (View.le_trans (View.le_trans (View.le_trans (View.le_trans (View.le_trans hV2 hV4) hV6) hV11) hV12) hV14) hV15) hV18) (.cons_cons _ (.cons_cons _ (.cons_cons _ (.cons_cons _ (.cons _ (.cons _ (.cons_cons _ (.cons_cons _ List.Sublist.slnil)))))))) (OldAll.row (fun _ _ _ _ h => h) (OldAll.row (fun _ _ _ _ h => h) (OldAll.row (fun _ _ _ _ h => h) (OldAll.box (OldAll.box (OldAll.box OldAll.nil))))))) (by kernel_rfl) (fun _ _ => by kernel_rfl) ?_
           obtain ⟨e8, hb25, hY4⟩ := Option.bind_eq_some_iff.1 hY4
           obtain ⟨hi22, hi23, hi24⟩ := idx_some hb25
           refine TA.take 5 (.pointer (some ((sadr A19).add (((0 : Int).toNat) * 5)))) rfl (by kernel_rfl) (by kernel_rfl) (by kernel_rfl) (fun _ _ _ h => h) (Hp.old (View.le_refl _) (View.le_trans (View.le_trans (View.le_trans (View.le_trans (View.le_trans (View.le_trans (View.le_trans hV2 hV4) hV6) hV11) hV12) hV14) hV15) hV18) (.cons_cons _ (.cons_cons _ (.cons_cons _ (.cons_cons _ (.cons _ (.cons _ (.cons_cons _ (.cons_cons _ List.Sublist.slnil)))))))) (OldAll.row (fun _ _ _ _ h => h) (OldAll.row (fun _ _ _ _ h => h) (OldAll.row (fun _ _ _ _ h => h) (OldAll.box (OldAll.box (OldAll.box OldAll.nil))))))) (by kernel_rfl) (fun w' hh => exec_indexAddr (e := 123) (s := 5) rfl rfl rfl (by kernel_rfl) (by kernel_rfl) hi22 hi23 ((SlOk.mono hs9 (View.le_trans (made_le _ _) hV18)).some_ hi24 (by decide))) ?_
           refine TA.take 6 (.pointer (some (((sadr A19).add (((0 : Int).toNat) * 5)).add 1))) rfl (by kernel_rfl) (by kernel_rfl) (by kernel_rfl) (fun _ _ _ h => h) (Hp.old (View.le_refl _) (View.le_trans (View.le_trans (View.le_trans (View.le_trans (View.le_trans (View.le_trans (View.le_trans hV2 hV4) hV6) hV11) hV12) hV14) hV15) hV18) (.cons_cons _ (.cons_cons _ (.cons_cons _ (.cons_cons _ (.cons _ (.cons _ (.cons_cons _ (.cons_cons _ List.Sublist.slnil)))))))) (OldAll.row (fun _ _ _ _ h => h) (OldAll.row (fun _ _ _ _ h => h) (OldAll.row (fun _ _ _ _ h => h) (OldAll.box (OldAll.box (OldAll.box OldAll.nil))))))) (by kernel_rfl) (fun _ _ => by kernel_rfl) ?_
           refine TA.take 7 (.agg #[.int .i64 e8.s.key.pfs, .int .i64 e8.s.key.obj, .int .i64 e8.s.key.off, .int .i64 e8.s.made]) rfl (by kernel_rfl) (by kernel_rfl) (by kernel_rfl) (fun _ _ _ h => h) (Hp.old (View.le_refl _) (View.le_trans (View.le_trans (View.le_trans (View.le_trans (View.le_trans (View.le_trans (View.le_trans hV2 hV4) hV6) hV11) hV12) hV14) hV15) hV18) (.cons_cons _ (.cons_cons _ (.cons_cons _ (.cons_cons _ (.cons _ (.cons _ (.cons_cons _ (.cons_cons _ List.Sublist.slnil)))))))) (OldAll.row (fun _ _ _ _ h => h) (OldAll.row (fun _ _ _ _ h => h) (OldAll.row (fun _ _ _ _ h => h) (OldAll.box (OldAll.box (OldAll.box OldAll.nil))))))) (by kernel_rfl) (fun w' hh => exec_loadN (cs := [.int .i64 e8.s.key.pfs, .int .i64 e8.s.key.obj, .int .i64 e8.s.key.off, .int .i64 e8.s.made]) rfl rfl (by kernel_rfl) (by kernel_rfl) (fun j u hj => (hh.cell_view (SlOk.cellFG (E := ebuild_low) (SlOk.mono hs9 (View.le_trans (made_le _ _) hV18)) hi24 1 j (fun _ _ _ h => h) (seg_at (n := 4) rfl hj))))) ?_
           refine TA.take 8 (.agg #[.int .i64 (x9.length : Int), .int .i64 e8.s.key.pfs, .int .i64 e8.s.key.obj, .int .i64 e8.s.key.off, .int .i64 e8.s.made]) rfl (by kernel_rfl) (by kernel_rfl) (by kernel_rfl) (fun _ _ _ h => h) (Hp.old (View.le_refl _) (View.le_trans (View.le_trans (View.le_trans (View.le_trans (View.le_trans (View.le_trans (View.le_trans hV2 hV4) hV6) hV11) hV12) hV14) hV15) hV18) (.cons_cons _ (.cons_cons _ (.cons_cons _ (.cons_cons _ (.cons _ (.cons _ (.cons_cons _ (.cons_cons _ List.Sublist.slnil)))))))) (OldAll.row (fun _ _ _ _ h => h) (OldAll.row (fun _ _ _ _ h => h) (OldAll.row (fun _ _ _ _ h => h) (OldAll.box (OldAll.box (OldAll.box OldAll.nil))))))) (by kernel_rfl) (fun _ _ => by kernel_rfl) ?_
           refine TA.all [9] (by kernel_rfl) rfl ⟨?_, trivial⟩
           refine TA.br rfl (W1.new 123 [.int .i64 (x9.length : Int), .int .i64 e8.s.key.pfs, .int .i64 e8.s.key.obj, .int .i64 e8.s.key.off, .int .i64 e8.s.made] (fun b => .slice (some ⟨b, 0, none⟩) 1 1) (by kernel_rfl) (fun _ => by kernel_rfl) (fun b12 => ?_))
           refine TA.on (Hp.old (View.le_refl _) (View.le_trans (View.le_trans (View.le_trans (View.le_trans (View.le_trans (View.le_trans (View.le_trans hV2 hV4) hV6) hV11) hV12) hV14) hV15) hV18) (.cons _ (.cons_cons _ (.cons_cons _ (.cons_cons _ (.cons_cons _ (.cons _ (.cons _ (.cons_cons _ (.cons_cons _ List.Sublist.slnil))))))))) (OldAll.row (fun _ _ _ _ h => h) (OldAll.row (fun _ _ _ _ h => h) (OldAll.row (fun _ _ _ _ h => h) (OldAll.box (OldAll.box (OldAll.box OldAll.nil))))))) ?_
           refine TA.all [10] (by kernel_rfl) rfl ⟨?_, trivial⟩
           obtain ⟨y12, hb26, hY4⟩ := Option.bind_eq_some_iff.1 hY4
           obtain ⟨hb26_r, hb26_m, rfl⟩ := grow_some hb26
           obtain ⟨ti, hti, hz1, hz2, hz3⟩ := info_parts (P := Try.prog) (e := 123) (z := .agg #[.int .i64 0, .int .i64 0, .int .i64 0, .int .i64 0, .int .i64 0]) (size := 5) (bytes := 40) (by kernel_rfl)
           refine TA.br rfl (W1.append (E := ebuild_low) (l := x8) (m := [(Dbuild_low.mk (x9.length : Int) e8.s)]) 5 _ _ 40 ti _ (by rfl) (by kernel_rfl) rfl (by kernel_rfl) hti hz1 hz2 hz3 rfl (by decide) rfl rfl (fun w' hh => (SlOk.srcF (slok_lit (E := ebuild_low) (f := Dbuild_low.cells) [(Dbuild_low.mk (x9.length : Int) e8.s)] (fun _ _ => rfl) (Nat.le_of_ble_eq_true (by rfl)) (fun j => hh.cellBox (i := 0) (by rfl) j)) (fun _ _ _ _ h => h))) hb26_r hb26_m (fun A40 c40 => ?_))
           refine TA.on (Hp.old (View.le_refl _) (View.le_trans (View.le_trans (View.le_trans (View.le_trans (View.le_trans (View.le_trans (View.le_trans hV2 hV4) hV6) hV11) hV12) hV14) hV15) hV18) (.cons _ (.cons_cons _ (.cons_cons _ (.cons_cons _ (.cons_cons _ (.cons _ (.cons _ (.cons_cons _ (.cons_cons _ List.Sublist.slnil))))))))) (OldAll.row (fun _ _ _ _ h => h) (OldAll.row (fun _ _ _ _ h => h) (OldAll.row (fun _ _ _ _ h => h) (OldAll.box (OldAll.box (OldAll.box OldAll.nil))))))) ?_
           refine TA.take 11 (.slice A40 ((x8 ++ [(Dbuild_low.mk (x9.length : Int) e8.s)]).length) c40) rfl (by kernel_rfl) (by kernel_rfl) (by kernel_rfl) (fun _ _ _ h => h) (Hp.old (View.le_refl _) (View.le_trans (View.le_trans (View.le_trans (View.le_trans (View.le_trans (View.le_trans (View.le_trans hV2 hV4) hV6) hV11) hV12) hV14) hV15) hV18) (.cons _ (.cons_cons _ (.cons_cons _ (.cons_cons _ (.cons_cons _ (.cons _ (.cons _ (.cons_cons _ (.cons_cons _ List.Sublist.slnil))))))))) (OldAll.row (fun _ _ _ _ h => h) (OldAll.row (fun _ _ _ _ h => h) (OldAll.row (fun _ _ _ _ h => h) (OldAll.box (OldAll.box (OldAll.box OldAll.nil))))))) (by kernel_rfl) (fun _ _ => by kernel_rfl) ?_
           refine TA.done (by kernel_rfl) ?_
           refine T.seq ?_
           refine T.region ?_
           refine T.pure (.pointer (some ⟨b3, 1, none⟩)) (by kernel_rfl) (fun _ => by kernel_rfl) ?_
           refine T.look (.slice A18 x9.length c18) (by kernel_rfl) (fun w' hh => exec_load1 rfl rfl (by kernel_rfl) (hh.cellBox (i := 7) (by rfl) 1)) ?_
           refine T.look (.agg #[.int .i64 2, .slice none 0 0, .slice A28 z14.length c28, .slice A26 z12.length c26, .slice A27 z13.length c27]) (by kernel_rfl) (fun w' hh => exec_loadN (cs := [.int .i64 2, .slice none 0 0, .slice A28 z14.length c28, .slice A26 z12.length c26, .slice A27 z13.length c27]) rfl rfl (by kernel_rfl) (by kernel_rfl) (fun j u hj => (hh.box_at (i := 4) (cs := [.int .i64 2, .slice none 0 0, .slice A28 z14.length c28, .slice A26 z12.length c26, .slice A27 z13.length c27]) (by rfl) 0 j).trans (seg_at (n := 5) (by rfl) hj))) ?_
           refine T.step (W1.new 97 [.int .i64 2, .slice none 0 0, .slice A28 z14.length c28, .slice A26 z12.length c26, .slice A27 z13.length c27] (fun b => .slice (some ⟨b, 0, none⟩) 1 1) (by kernel_rfl) (fun _ => by kernel_rfl) (fun b13 => ?_))
           refine T.freezeF (E := eInt) (H' := [box b13 97 [.int .i64 2, .slice none 0 0, .slice A28 z14.length c28, .slice A26 z12.length c26, .slice A27 z13.length c27], box b12 123 [.int .i64 (x9.length : Int), .int .i64 e8.s.key.pfs, .int .i64 e8.s.key.obj, .int .i64 e8.s.key.off, .int .i64 e8.s.made], row 43 eSpot A26 c26 z12, row 3 eInt A27 c27 z13, box b7 97 [.int .i64 2, .slice none 0 0, .slice A28 z14.length c28, .slice A26 z12.length c26, .slice A27 z13.length c27], row 123 ebuild_low A40 c40 (x8 ++ [(Dbuild_low.mk (x9.length : Int) e8.s)]), row 97 (eAt w eNode) A18 c18 x9, box b3 24 [.int .i64 0, .slice A18 x9.length c18], box b1 24 [.int .i64 0, .slice none 0 0]]) 4 (by rfl) rfl (fun _ _ _ _ h => h) (fun V22 hV22 hs15 => ?_)
           refine T.freezeF (E := eSpot) (H' := [box b13 97 [.int .i64 2, .slice none 0 0, .slice A28 z14.length c28, .slice A26 z12.length c26, .slice A27 z13.length c27], box b12 123 [.int .i64 (x9.length : Int), .int .i64 e8.s.key.pfs, .int .i64 e8.s.key.obj, .int .i64 e8.s.key.off, .int .i64 e8.s.made], row 3 eInt A27 c27 z13, box b7 97 [.int .i64 2, .slice none 0 0, .slice A28 z14.length c28, .slice A26 z12.length c26, .slice A27 z13.length c27], row 123 ebuild_low A40 c40 (x8 ++ [(Dbuild_low.mk (x9.length : Int) e8.s)]), row 97 (eAt w eNode) A18 c18 x9, box b3 24 [.int .i64 0, .slice A18 x9.length c18], box b1 24 [.int .i64 0, .slice none 0 0]]) 2 (by rfl) rfl (fun _ _ _ _ h => h) (fun V23 hV23 hs16 => ?_)
           refine T.freezeF (E := eInt) (H' := [box b13 97 [.int .i64 2, .slice none 0 0, .slice A28 z14.length c28, .slice A26 z12.length c26, .slice A27 z13.length c27], box b12 123 [.int .i64 (x9.length : Int), .int .i64 e8.s.key.pfs, .int .i64 e8.s.key.obj, .int .i64 e8.s.key.off, .int .i64 e8.s.made], box b7 97 [.int .i64 2, .slice none 0 0, .slice A28 z14.length c28, .slice A26 z12.length c26, .slice A27 z13.length c27], row 123 ebuild_low A40 c40 (x8 ++ [(Dbuild_low.mk (x9.length : Int) e8.s)]), row 97 (eAt w eNode) A18 c18 x9, box b3 24 [.int .i64 0, .slice A18 x9.length c18], box b1 24 [.int .i64 0, .slice none 0 0]]) 2 (by rfl) rfl (fun _ _ _ _ h => h) (fun V24 hV24 hs17 => ?_)
           obtain ⟨y13, hb27, hY4⟩ := Option.bind_eq_some_iff.1 hY4
           obtain ⟨hb27_r, hb27_m, rfl⟩ := grow_some hb27
           obtain ⟨ti, hti, hz1, hz2, hz3⟩ := info_parts (P := Try.prog) (e := 97) (z := .agg #[.int .i64 0, .slice none 0 0, .slice none 0 0, .slice none 0 0, .slice none 0 0]) (size := 5) (bytes := 104) (by kernel_rfl)
           refine T.step (W1.append (E := (eAt w eNode)) (l := x9) (m := [(DNode.mk 2 [] z14 z12 z13)]) 4 _ _ 104 ti _ (by rfl) (by kernel_rfl) rfl (by kernel_rfl) hti hz1 hz2 hz3 rfl (Nat.le_of_ble_eq_true rfl) rfl rfl (fun w' hh => (src_one (E := (eAt w eNode)) hh (i := 0) (by rfl) ⟨none, 0, A28, c28, A26, c26, A27, c27, rfl, (SlOk.nil _ _), (SlOk.mono hs15 (made_mono (View.le_trans hV23 hV24))), (SlOk.mono hs16 (made_mono hV24)), (SlOk.mono hs17 (made_mono (View.le_refl _)))⟩)) hb27_r hb27_m (fun A41 c41 => ?_))
           refine T.pure (.pointer (some ⟨b3, 1, none⟩)) (by kernel_rfl) (fun _ => by kernel_rfl) ?_
           refine T.step (W1.store 5 [.int .i64 0, .slice A41 ((x9 ++ [(DNode.mk 2 [] z14 z12 z13)]).length) c41] [box b13 97 [.int .i64 2, .slice none 0 0, .slice A28 z14.length c28, .slice A26 z12.length c26, .slice A27 z13.length c27], box b12 123 [.int .i64 (x9.length : Int), .int .i64 e8.s.key.pfs, .int .i64 e8.s.key.obj, .int .i64 e8.s.key.off, .int .i64 e8.s.made], box b7 97 [.int .i64 2, .slice none 0 0, .slice A28 z14.length c28, .slice A26 z12.length c26, .slice A27 z13.length c27], row 123 ebuild_low A40 c40 (x8 ++ [(Dbuild_low.mk (x9.length : Int) e8.s)]), row 97 (eAt w eNode) A41 c41 (x9 ++ [(DNode.mk 2 [] z14 z12 z13)]), box b3 24 [.int .i64 0, .slice A41 ((x9 ++ [(DNode.mk 2 [] z14 z12 z13)]).length) c41], box b1 24 [.int .i64 0, .slice none 0 0]] (by rfl) rfl (by kernel_rfl) (fun w' hw => exec_store (vs := [.slice A41 ((x9 ++ [(DNode.mk 2 [] z14 z12 z13)]).length) c41]) rfl rfl rfl rfl (by kernel_rfl) (one_of rfl) (by simp) rfl hw) ?_)
           refine T.nil ?_
           refine T.region ?_
           refine T.pure (.slice A19 x10.length c19) (by kernel_rfl) (fun _ => by kernel_rfl) ?_
           refine T.pure (.int .i64 e5) (by kernel_rfl) (fun _ => by kernel_rfl) ?_
           obtain ⟨s8, hb28, hY4⟩ := Option.bind_eq_some_iff.1 hY4
           refine T.look (.slice (cutA A19 c19 e5.toNat 5) s8.length (c19 - e5.toNat)) (by kernel_rfl) (fun w' hh => exec_slice_list (e := 123) (s := 5) (lx := (some _)) (hx := none) (k := .i64) (k' := .i64) rfl rfl (by kernel_rfl) (by kernel_rfl) ((SlOk.mono hs9 (View.le_trans (made_le _ _) (View.le_trans (View.le_trans (View.le_trans hV18 hV22) hV23) hV24)))).1 rfl rfl hb28) ?_
           refine T.pure (.slice (cutA A19 c19 e5.toNat 5) s8.length (c19 - e5.toNat)) (by kernel_rfl) (fun _ => by kernel_rfl) ?_
           refine T.nil ?_
           refine T.region ?_
           refine T.pure (.int .i64 (IntKind.i64.wrap (x11 + 1))) (by kernel_rfl) (fun _ => by kernel_rfl) ?_
           refine T.pure (.int .i64 (IntKind.i64.wrap (x11 + 1))) (by kernel_rfl) (fun _ => by kernel_rfl) ?_
           refine T.nil ?_
           cases hY4
           exact fun a w' hf hh => Exists.intro ((x8 ++ [(Dbuild_low.mk (x9.length : Int) e8.s)]), (x9 ++ [(DNode.mk 2 [] z14 z12 z13)]), s8, IntKind.i64.wrap (x11 + 1)) (And.intro rfl (Exists.intro (x8 ++ [(Dbuild_low.mk (x9.length : Int) e8.s)]) (Exists.intro (x9 ++ [(DNode.mk 2 [] z14 z12 z13)]) (Exists.intro s8 (Exists.intro (IntKind.i64.wrap (x11 + 1)) (And.intro rfl (Exists.intro A40 (Exists.intro c40 (Exists.intro A41 (Exists.intro c41 (Exists.intro (cutA A19 c19 e5.toNat 5) (Exists.intro (c19 - e5.toNat) (Exists.intro V24 (And.intro (View.le_trans (View.le_trans (View.le_trans (View.le_trans hV15 hV18) hV22) hV23) hV24) (And.intro (SlOk.cut (SlOk.mono hs9 (made_mono (View.le_trans (View.le_trans (View.le_trans hV18 hV22) hV23) hV24))) hb28) (And.intro ((((((((Fr.nil hf).pick hf 95 rfl).pick hf 94 rfl).pick hf 93 rfl).pick hf 12 rfl).pick hf 8 rfl).pick hf 7 rfl).pick hf 2 rfl) (hh.sub (.cons _ (.cons _ (.cons _ (.cons_cons _ (.cons_cons _ (.cons_cons _ (.cons_cons _ List.Sublist.slnil))))))))))))))))))))))))
         ·
          rw [hc8, cond_false] at hY4
          refine T.exit ?_
          cases hY4
          cases (hr4 _ rfl)
          exact fun a w' hf hh => Exists.intro x8 (Exists.intro x9 (And.intro rfl (Exists.intro A17 (Exists.intro c17 (Exists.intro A18 (Exists.intro c18 (Exists.intro V15 (And.intro hV15 (And.intro ((((Fr.nil hf).pick hf 12 rfl).pick hf 7 rfl).pick hf 2 rfl) (hh.sub (.cons_cons _ (.cons_cons _ (.cons_cons _ (.cons_cons _ List.Sublist.slnil))))))))))))))
       ·
        rintro a w' ⟨z10, z11, rfl, A20, c20, A21, c21, V16, hV16, hf, hh⟩
        try dsimp only at hY3
        refine (?_ : T 166 w V16 [row 123 ebuild_low A20 c20 z10, row 97 (eAt w eNode) A21 c21 z11, box b3 24 [.int .i64 0, .slice A21 z11.length c21], box b1 24 [.int .i64 0, .slice none 0 0]] [(2, .pointer (some ⟨b1, 0, none⟩)), (7, .pointer (some ⟨b3, 0, none⟩)), (12, .slice A20 z10.length c20)] _) a w' hf hh
        clear hf hh
        refine T.region ?_
        refine T.pure (.slice A20 z10.length c20) (by kernel_rfl) (fun _ => by kernel_rfl) ?_
        refine T.pure (.slice A20 z10.length c20) (by kernel_rfl) (fun _ => by kernel_rfl) ?_
        refine T.nil ?_
        refine T.freezeF (E := ebuild_low) (H' := [row 97 (eAt w eNode) A21 c21 z11, box b3 24 [.int .i64 0, .slice A21 z11.length c21], box b1 24 [.int .i64 0, .slice none 0 0]]) 0 (by rfl) rfl (fun _ _ _ _ h => h) (fun V25 hV25 hs18 => ?_)
        cases hY3
        exact fun a w' hf hh => Exists.intro (z11, z10) (And.intro rfl (Exists.intro z11 (Exists.intro z10 (And.intro rfl (Exists.intro A21 (Exists.intro c21 (Exists.intro A20 (Exists.intro c20 (Exists.intro V25 (And.intro (View.le_trans (View.le_trans (View.le_trans hV12 hV14) hV16) hV25) (And.intro (SlOk.mono hs18 (made_mono (View.le_refl _))) (And.intro ((((Fr.nil hf).pick hf 8 rfl).pick hf 7 rfl).pick hf 2 rfl) (hh.sub (.cons_cons _ (.cons_cons _ (.cons_cons _ List.Sublist.slnil))))))))))))))))
      ·
       rw [hc7, cond_false] at hY3
       refine T.exit ?_
       cases hY3
       cases (hr3 _ rfl)
       exact fun a w' hf hh => Exists.intro x6 (Exists.intro x7 (And.intro rfl (Exists.intro A12 (Exists.intro c12 (Exists.intro A13 (Exists.intro c13 (Exists.intro V12 (And.intro hV12 (And.intro (SlOk.mono hs6 (made_mono (View.le_refl _))) (And.intro ((((Fr.nil hf).pick hf 8 rfl).pick hf 7 rfl).pick hf 2 rfl) (hh.sub (.cons_cons _ (.cons_cons _ (.cons_cons _ List.Sublist.slnil))))))))))))))
    ·
     rintro a w' ⟨z8, z9, rfl, A14, c14, A15, c15, V13, hV13, hs7, hf, hh⟩
     try dsimp only at hF
     refine (?_ : T 166 w V13 [row 97 (eAt w eNode) A14 c14 z8, box b3 24 [.int .i64 0, .slice A14 z8.length c14], box b1 24 [.int .i64 0, .slice none 0 0]] [(2, .pointer (some ⟨b1, 0, none⟩)), (7, .pointer (some ⟨b3, 0, none⟩)), (8, .slice A15 z9.length c15)] _) a w' hf hh
     clear hf hh
     refine T.seq ?_
     refine T.region ?_
     refine T.pure (.slice A15 z9.length c15) (by kernel_rfl) (fun _ => by kernel_rfl) ?_
     obtain ⟨e9, hb29, hF⟩ := Option.bind_eq_some_iff.1 hF
     obtain ⟨hi25, hi26, hi27⟩ := idx_some hb29
     refine T.look (.pointer (some ((sadr A15).add (((0 : Int).toNat) * 5)))) (by kernel_rfl) (fun w' hh => exec_indexAddr (e := 123) (s := 5) rfl rfl rfl (by kernel_rfl) (by kernel_rfl) hi25 hi26 ((SlOk.mono hs7 (View.le_trans (made_le _ _) (View.le_refl _))).some_ hi27 (by decide))) ?_
     refine T.pure (.pointer (some ((sadr A15).add (((0 : Int).toNat) * 5)))) (by kernel_rfl) (fun _ => by kernel_rfl) ?_
     refine T.look (.int .i64 e9.i) (by kernel_rfl) (fun w' hh => exec_load1 rfl rfl (by kernel_rfl) (hh.cell_view (SlOk.cellF0 (E := ebuild_low) (SlOk.mono hs7 (View.le_trans (made_le _ _) (View.le_refl _))) hi27 (fun _ _ _ h => h) rfl))) ?_
     refine T.pure (.pointer (some ⟨b3, 0, none⟩)) (by kernel_rfl) (fun _ => by kernel_rfl) ?_
     refine T.step (W1.store 1 [.int .i64 e9.i, .slice A14 z8.length c14] [row 97 (eAt w eNode) A14 c14 z8, box b3 24 [.int .i64 e9.i, .slice A14 z8.length c14], box b1 24 [.int .i64 0, .slice none 0 0]] (by rfl) rfl (by kernel_rfl) (fun w' hw => exec_store (vs := [.int .i64 e9.i]) rfl rfl rfl rfl (by kernel_rfl) (one_of rfl) (by simp) rfl hw) ?_)
     refine T.nil ?_
     refine T.seq ?_
     refine T.region ?_
     refine T.look (.agg #[.int .i64 e9.i, .slice A14 z8.length c14]) (by kernel_rfl) (fun w' hh => exec_loadN (cs := [.int .i64 e9.i, .slice A14 z8.length c14]) rfl rfl (by kernel_rfl) (by kernel_rfl) (fun j u hj => (hh.box_at (i := 1) (cs := [.int .i64 e9.i, .slice A14 z8.length c14]) (by rfl) 0 j).trans (seg_at (n := 2) (by rfl) hj))) ?_
     refine T.step (W1.store 2 [.int .i64 e9.i, .slice A14 z8.length c14] [row 97 (eAt w eNode) A14 c14 z8, box b3 24 [.int .i64 e9.i, .slice A14 z8.length c14], box b1 24 [.int .i64 e9.i, .slice A14 z8.length c14]] (by rfl) rfl (by kernel_rfl) (fun w' hw => exec_store (vs := [.int .i64 e9.i, .slice A14 z8.length c14]) rfl rfl rfl rfl (by kernel_rfl) (one_of rfl) (by simp) rfl hw) ?_)
     refine T.pure (.int .i64 0) (by kernel_rfl) (fun _ => by kernel_rfl) ?_
     refine T.nil ?_
     cases hF
     refine T.freezeM (E := eNode) (H' := [box b3 24 [.int .i64 e9.i, .slice A14 z8.length c14], box b1 24 [.int .i64 e9.i, .slice A14 z8.length c14]]) 0 (by rfl) rfl (fun V26 hV26 hs19 => ?_)
     refine T.ret rfl ?_
     exact T.ret2 rfl (ResIs.cellN 1 rfl (by rfl) (fun _ => by kernel_rfl) (fun _ => by kernel_rfl)) (ResIs.tmp rfl) fun w' hh => ⟨_, rfl, hh.below, (vT2.mk (vAg.mk ⟨_, _, rfl, (SlOk.mono hs19 (View.le_trans (made_mono (View.le_refl _)) (made_fresh hh)))⟩) (show _ from rfl))⟩

set_option maxRecDepth 100000 in
set_option maxHeartbeats 4000000 in
theorem annalkeep_of_l (F : Nat) (p0 : (List DElem)) (r : DTree) (hF : annalkeep_of F p0 = some r) (w : World) (A1 : Option Addr) (c1 : Nat) (hs1 : SlOk (vw w) eElem A1 c1 p0) :
    Calls Try.prog 15 #[.slice A1 p0.length c1] w (Post (vAg eTree) r w) := by
 unfold annalkeep_of at hF
 refine T.start (l := [.slice A1 p0.length c1]) Try.func15 rfl rfl rfl ?_
 refine T.seq ?_
 refine T.region ?_
 refine T.step (W1.new 24 [.int .i64 0, .slice none 0 0] (fun b => .pointer (some ⟨b, 0, none⟩)) (by kernel_rfl) (fun _ => by kernel_rfl) (fun b1 => ?_))
 refine T.nil ?_
 refine T.seq ?_
 refine T.region ?_
 refine T.pure (.slice A1 p0.length c1) (by kernel_rfl) (fun _ => by kernel_rfl) ?_
 obtain ⟨r1, hb1, hF⟩ := Option.bind_eq_some_iff.1 hF
 refine T.step (W1.call (vT2 (vAg eTree) (vSc eInt)) r1 46 #[.slice A1 p0.length c1] (by kernel_rfl) (fun _ => by kernel_rfl) (fun w' hh => build_Of_l F p0 r1 hb1 w' A1 c1 (SlOk.mono hs1 hh.view)) ?_)
 intro u V1 hV1 hu
 obtain ⟨u1, u2, rfl, hu1, hu2⟩ := vT2_elim hu
 obtain ⟨cs1, rfl, hr1⟩ := vagg_elim hu1
 obtain ⟨A2, c2, rfl, hs2⟩ := hr1
 obtain rfl := sureInt _ _ _ hu2
 refine T.pure (.tuple #[.agg #[.int .i64 r1.1.root, .slice A2 r1.1.nodes.length c2], .int .i64 r1.2]) (by kernel_rfl) (fun _ => by kernel_rfl) ?_
 refine T.pure (.agg #[.int .i64 r1.1.root, .slice A2 r1.1.nodes.length c2]) (by kernel_rfl) (fun _ => by kernel_rfl) ?_
 refine T.pure (.int .i64 r1.2) (by kernel_rfl) (fun _ => by kernel_rfl) ?_
 refine T.step (W1.new 24 [.int .i64 0, .slice none 0 0] (fun b => .pointer (some ⟨b, 0, none⟩)) (by kernel_rfl) (fun _ => by kernel_rfl) (fun b2 => ?_))
 refine T.step (W1.store 0 [.int .i64 r1.1.root, .slice A2 r1.1.nodes.length c2] [box b2 24 [.int .i64 r1.1.root, .slice A2 r1.1.nodes.length c2], box b1 24 [.int .i64 0, .slice none 0 0]] (by rfl) rfl (by kernel_rfl) (fun w' hw => exec_store (vs := [.int .i64 r1.1.root, .slice A2 r1.1.nodes.length c2]) rfl rfl rfl rfl (by kernel_rfl) (one_of rfl) (by simp) rfl hw) ?_)
 refine T.pure (.int .i64 r1.2) (by kernel_rfl) (fun _ => by kernel_rfl) ?_
 refine T.nil ?_
 refine T.seq ?_
 refine T.region ?_
 refine T.look (.agg #[.int .i64 r1.1.root, .slice A2 r1.1.nodes.length c2]) (by kernel_rfl) (fun w' hh => exec_loadN (cs := [.int .i64 r1.1.root, .slice A2 r1.1.nodes.length c2]) rfl rfl (by kernel_rfl) (by kernel_rfl) (fun j u hj => (hh.box_at (i := 0) (cs := [.int .i64 r1.1.root, .slice A2 r1.1.nodes.length c2]) (by rfl) 0 j).trans (seg_at (n := 2) (by rfl) hj))) ?_
 refine T.step (W1.store 1 [.int .i64 r1.1.root, .slice A2 r1.1.nodes.length c2] [box b2 24 [.int .i64 r1.1.root, .slice A2 r1.1.nodes.length c2], box b1 24 [.int .i64 r1.1.root, .slice A2 r1.1.nodes.length c2]] (by rfl) rfl (by kernel_rfl) (fun w' hw => exec_store (vs := [.int .i64 r1.1.root, .slice A2 r1.1.nodes.length c2]) rfl rfl rfl rfl (by kernel_rfl) (one_of rfl) (by simp) rfl hw) ?_)
 refine T.nil ?_
 cases hF
 refine T.ret rfl ?_
 exact T.ret1 rfl (ResIs.cellN 1 rfl (by rfl) (fun _ => by kernel_rfl) (fun _ => by kernel_rfl)) fun w' hh => ⟨_, rfl, hh.below, (vAg.mk ⟨_, _, rfl, (SlOk.mono hs2 (View.le_trans (made_mono (View.le_refl _)) (made_fresh hh)))⟩)⟩

end Go.Proofs.Ytcmkdoahkncakaa
