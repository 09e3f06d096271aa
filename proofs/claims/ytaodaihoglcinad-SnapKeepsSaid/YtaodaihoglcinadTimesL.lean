/- The Go functions of group Times compute the pure functions of that group: written by walkgen.py. Condition of each: the pure function yields a result. -/
import Derived.Test.YtaodaihoglcinadSnapL
import Derived.Test.YtaodaihoglcinadSort
import Derived.Test.YtaodaihoglcinadTimesF
import Derived.Test.YtaodaihoglcinadEqL
namespace Go.Proofs.Ytaodaihoglcinad
set_option linter.unusedVariables false

set_option maxRecDepth 100000 in
set_option maxHeartbeats 4000000 in
theorem snap_Times_l (F : Nat) (p0 : (List DSnap)) (r : ((List Int)) × Int) (hF : snap_Times F p0 = some r) (w : World) (A1 : Option Addr) (c1 : Nat) (hs1 : SlOk (vw w) eSnap A1 c1 p0) :
    Calls Try.prog 4 #[.slice A1 p0.length c1] w (Post (vT2 (vSc (eList eInt)) (vSc eInt)) r w) := by
 unfold snap_Times at hF
 refine T.start (l := [.slice A1 p0.length c1]) Try.func4 rfl rfl rfl ?_
 refine T.seq ?_
 refine T.region ?_
 refine T.pure (.slice none 0 0) (by kernel_rfl) (fun _ => by kernel_rfl) ?_
 refine T.pure (.int .i64 0) (by kernel_rfl) (fun _ => by kernel_rfl) ?_
 refine T.nil ?_
 refine T.seq ?_
 refine T.seq ?_
 refine T.region ?_
 refine T.pure (.slice A1 p0.length c1) (by kernel_rfl) (fun _ => by kernel_rfl) ?_
 obtain ⟨r1, hb1, hF⟩ := Option.bind_eq_some_iff.1 hF
 refine T.step (W1.call (vSc eInt) r1 10 #[.slice A1 p0.length c1] (by kernel_rfl) (fun _ => by kernel_rfl) (fun w' hh => snap_Check_l F p0 r1 hb1 w' A1 c1 (SlOk.mono hs1 hh.view)) ?_)
 intro u V1 hV1 hu
 obtain rfl := sureInt _ _ _ hu
 refine T.pure (.int .i64 r1) (by kernel_rfl) (fun _ => by kernel_rfl) ?_
 refine T.nil ?_
 refine T.seq ?_
 refine T.region ?_
 refine T.pure (.int .i64 r1) (by kernel_rfl) (fun _ => by kernel_rfl) ?_
 refine T.pure (.bool (r1 != 0)) (by kernel_rfl) (fun _ => by kernel_rfl) ?_
 refine T.nil ?_
 refine T.cond (r1 != 0) (by kernel_rfl) (by kernel_rfl) (fun hc1 => ?_) (fun hc1 => ?_)
 ·
  rw [hc1, cond_true] at hF
  refine T.seq ?_
  refine T.region ?_
  refine T.pure (.int .i64 r1) (by kernel_rfl) (fun _ => by kernel_rfl) ?_
  refine T.pure (.slice none 0 0) (by kernel_rfl) (fun _ => by kernel_rfl) ?_
  refine T.pure (.int .i64 r1) (by kernel_rfl) (fun _ => by kernel_rfl) ?_
  refine T.nil ?_
  cases hF
  refine T.ret rfl ?_
  exact T.ret2 rfl (ResIs.tmp rfl) (ResIs.tmp rfl) fun w' hh => ⟨_, rfl, hh.below, (vT2.mk ⟨_, _, rfl, (SlOk.nil _ _)⟩ (show _ from rfl))⟩
 ·
  rw [hc1, cond_false] at hF
  refine T.skip_code ?_
  refine T.seq ?_
  refine T.region ?_
  refine T.pure (.slice none 0 0) (by kernel_rfl) (fun _ => by kernel_rfl) ?_
  refine T.nil ?_
  refine T.seq ?_
  refine T.seq ?_
  refine T.region ?_
  refine T.pure (.slice A1 p0.length c1) (by kernel_rfl) (fun _ => by kernel_rfl) ?_
  refine T.pure (.int .i64 (p0.length : Int)) (by kernel_rfl) (fun _ => by kernel_rfl) ?_
  refine T.pure (.int .i64 0) (by kernel_rfl) (fun _ => by kernel_rfl) ?_
  refine T.nil ?_
  refine T.rownil 3 eInt ?_
  obtain ⟨z1, hz1, hF⟩ := Option.bind_eq_some_iff.1 hF
  refine T.mid (fun a w' => ∃ (A3 : Option Addr) (c3 : Nat), Fr 29 [(5, .slice A3 z1.length c3)] a ∧ Hp w V1 [row 3 eInt A3 c3 z1] w') ?_ ?_
  ·
   refine T.block ?_
   refine T.iter (fun s1 a w' => ∃ (x1 : List Int) (x2 : Int), s1 = (x1, x2) ∧ ∃ (A2 : Option Addr) (c2 : Nat), Fr 29 [(5, .slice A2 x1.length c2), (13, .slice A1 p0.length c1), (14, .int .i64 (p0.length : Int)), (15, .int .i64 x2)] a ∧ Hp w V1 [row 3 eInt A2 c2 x1] w') hz1 ?_ ?_
   ·
    exact fun a w' hf hh => Exists.intro [] (Exists.intro 0 (And.intro rfl (Exists.intro none (Exists.intro 0 (And.intro (((((Fr.nil hf).pick hf 15 rfl).pick hf 14 rfl).pick hf 13 rfl).pick hf 5 rfl) (hh.sub (.cons_cons _ List.Sublist.slnil)))))))
   ·
    rintro s1 y1 hY1 hr1 a w' ⟨x1, x2, rfl, A2, c2, hf, hh⟩
    refine (?_ : T 29 w V1 [row 3 eInt A2 c2 x1] [(5, .slice A2 x1.length c2), (13, .slice A1 p0.length c1), (14, .int .i64 (p0.length : Int)), (15, .int .i64 x2)] _) a w' hf hh
    clear hf hh
    try dsimp only at hY1
    refine T.seq ?_
    refine T.region ?_
    refine T.pure (.bool (decide (x2 < (p0.length : Int)))) (by kernel_rfl) (fun _ => by kernel_rfl) ?_
    refine T.nil ?_
    refine T.seq ?_
    refine T.cond (decide (x2 < (p0.length : Int))) (by kernel_rfl) (by kernel_rfl) (fun hc2 => ?_) (fun hc2 => ?_)
    ·
     rw [hc2, cond_true] at hY1
     refine T.skip_code ?_
     refine T.seq ?_
     refine T.block ?_
     refine T.seq ?_
     refine T.region ?_
     obtain ⟨e1, hb2, hY1⟩ := Option.bind_eq_some_iff.1 hY1
     obtain ⟨hi1, hi2, hi3⟩ := idx_some hb2
     refine T.look (.pointer (some ((sadr A1).add (x2.toNat * 2)))) (by kernel_rfl) (fun w' hh => exec_indexAddr (e := 31) (s := 2) rfl rfl rfl (by kernel_rfl) (by kernel_rfl) hi1 hi2 ((SlOk.mono hs1 hV1).some_ hi3 (by decide))) ?_
     refine T.look (.agg #[.string e1.name, .int .i64 e1.tid]) (by kernel_rfl) (fun w' hh => exec_loadN (cs := [.string e1.name, .int .i64 e1.tid]) rfl rfl (by kernel_rfl) (by kernel_rfl) (fun j u hj => (hh.cell_view (SlOk.cellF (E := eSnap) (SlOk.mono hs1 hV1) hi3 j (fun _ _ _ h => h) hj)))) ?_
     refine T.step (W1.new 31 [.string (ByteArray.mk #[]), .int .i64 0] (fun b => .pointer (some ⟨b, 0, none⟩)) (by kernel_rfl) (fun _ => by kernel_rfl) (fun b1 => ?_))
     refine T.step (W1.store 0 [.string e1.name, .int .i64 e1.tid] [box b1 31 [.string e1.name, .int .i64 e1.tid], row 3 eInt A2 c2 x1] (by rfl) rfl (by kernel_rfl) (fun w' hw => exec_store (vs := [.string e1.name, .int .i64 e1.tid]) rfl rfl rfl rfl (by kernel_rfl) (one_of rfl) (by simp) rfl hw) ?_)
     refine T.nil ?_
     refine T.region ?_
     refine T.pure (.slice A2 x1.length c2) (by kernel_rfl) (fun _ => by kernel_rfl) ?_
     refine T.pure (.pointer (some ⟨b1, 1, none⟩)) (by kernel_rfl) (fun _ => by kernel_rfl) ?_
     refine T.look (.int .i64 e1.tid) (by kernel_rfl) (fun w' hh => exec_load1 rfl rfl (by kernel_rfl) (hh.cellBox (i := 0) (by rfl) 1)) ?_
     refine T.step (W1.new 3 [.int .i64 e1.tid] (fun b => .slice (some ⟨b, 0, none⟩) 1 1) (by kernel_rfl) (fun _ => by kernel_rfl) (fun b2 => ?_))
     obtain ⟨y2, hb3, hY1⟩ := Option.bind_eq_some_iff.1 hY1
     obtain ⟨hb3_r, hb3_m, rfl⟩ := grow_some hb3
     obtain ⟨ti, hti, hz1, hz2, hz3⟩ := info_parts (P := Try.prog) (e := 3) (z := .int .i64 0) (size := 1) (bytes := 8) (by kernel_rfl)
     refine T.step (W1.append (E := eInt) (l := x1) (m := [e1.tid]) 2 _ _ 8 ti _ (by rfl) (by kernel_rfl) rfl (by kernel_rfl) hti hz1 hz2 hz3 rfl (by decide) rfl rfl (fun w' hh => (SlOk.srcF (slok_lit (E := eInt) (f := (fun x => [.int .i64 x])) [e1.tid] (fun _ _ => rfl) (Nat.le_of_ble_eq_true (by rfl)) (fun j => hh.cellBox (i := 0) (by rfl) j)) (fun _ _ _ _ h => h))) hb3_r hb3_m (fun A4 c4 => ?_))
     refine T.pure (.slice A4 ((x1 ++ [e1.tid]).length) c4) (by kernel_rfl) (fun _ => by kernel_rfl) ?_
     refine T.nil ?_
     refine T.region ?_
     refine T.pure (.int .i64 (IntKind.i64.wrap (x2 + 1))) (by kernel_rfl) (fun _ => by kernel_rfl) ?_
     refine T.pure (.int .i64 (IntKind.i64.wrap (x2 + 1))) (by kernel_rfl) (fun _ => by kernel_rfl) ?_
     refine T.nil ?_
     cases hY1
     exact fun a w' hf hh => Exists.intro ((x1 ++ [e1.tid]), IntKind.i64.wrap (x2 + 1)) (And.intro rfl (Exists.intro (x1 ++ [e1.tid]) (Exists.intro (IntKind.i64.wrap (x2 + 1)) (And.intro rfl (Exists.intro A4 (Exists.intro c4 (And.intro (((((Fr.nil hf).pick hf 15 rfl).pick hf 14 rfl).pick hf 13 rfl).pick hf 5 rfl) (hh.sub (.cons _ (.cons _ (.cons_cons _ List.Sublist.slnil)))))))))))
    ·
     rw [hc2, cond_false] at hY1
     refine T.exit ?_
     cases hY1
     cases (hr1 _ rfl)
     exact fun a w' hf hh => Exists.intro A2 (Exists.intro c2 (And.intro ((Fr.nil hf).pick hf 5 rfl) (hh.sub (.cons_cons _ List.Sublist.slnil))))
  ·
   rintro a w' ⟨A3, c3, hf, hh⟩
   refine (?_ : T 29 w V1 [row 3 eInt A3 c3 z1] [(5, .slice A3 z1.length c3)] _) a w' hf hh
   clear hf hh
   refine T.seq ?_
   refine T.region ?_
   refine T.pure (.slice A3 z1.length c3) (by kernel_rfl) (fun _ => by kernel_rfl) ?_
   obtain ⟨y3, hb4, hF⟩ := Option.bind_eq_some_iff.1 hF
   obtain ⟨hy1, rfl⟩ := sortO_some hb4
   refine T.step (W1.callI 11 [.slice A3 z1.length c3] (fun v w' => v = .tuple #[] ∧ Hp w V1 [row 3 eInt A3 c3 (isort z1)] w') (by kernel_rfl) (fun _ => by kernel_rfl) (fun w' hh => (own_sort_int hy1 (hh.perm (List.Perm.refl _))).mono (by rintro e_ w_ ⟨rfl, h_⟩; exact ⟨_, rfl, rfl, h_⟩)) ?_)
   rintro v w' ⟨rfl, hh⟩
   refine ⟨V1, [row 3 eInt A3 c3 (isort z1)], hh.perm (List.Perm.refl _), ?_⟩
   clear hh
   have hl1 : (isort z1).length = z1.length := (by exact isort_length _)
   refine T.reslot 5 (.slice A3 ((isort z1).length) c3) rfl (by simp only [hl1]) ?_
   refine T.reslot 25 (.slice A3 ((isort z1).length) c3) rfl (by simp only [hl1]) ?_
   refine T.nil ?_
   refine T.seq ?_
   refine T.region ?_
   refine T.pure (.slice A3 ((isort z1).length) c3) (by kernel_rfl) (fun _ => by kernel_rfl) ?_
   refine T.step (W1.callI 12 [.slice A3 ((isort z1).length) c3] (fun v w' => v = .slice A3 (Lib.compact (isort z1)).length c3 ∧ Hp w V1 [row 3 eInt A3 c3 (Lib.compact (isort z1))] w') (by kernel_rfl) (fun _ => by kernel_rfl) (fun w' hh => (own_compact_int (hh.perm (List.Perm.refl _))).mono (by rintro e_ w_ ⟨rfl, h_⟩; exact ⟨_, rfl, rfl, h_⟩)) ?_)
   rintro v w' ⟨rfl, hh⟩
   refine ⟨V1, [row 3 eInt A3 c3 (Lib.compact (isort z1))], hh.perm (List.Perm.refl _), ?_⟩
   clear hh
   refine T.pure (.slice A3 ((Lib.compact (isort z1)).length) c3) (by kernel_rfl) (fun _ => by kernel_rfl) ?_
   refine T.pure (.int .i64 0) (by kernel_rfl) (fun _ => by kernel_rfl) ?_
   refine T.nil ?_
   cases hF
   refine T.ret rfl ?_
   exact T.ret2 rfl (ResIs.tmp rfl) (ResIs.tmp rfl) fun w' hh => ⟨_, rfl, hh.below, (vT2.mk ⟨_, _, rfl, (hh.row_fresh (i := 0) (by rfl) (fun _ h => h))⟩ (show _ from rfl))⟩

end Go.Proofs.Ytaodaihoglcinad
