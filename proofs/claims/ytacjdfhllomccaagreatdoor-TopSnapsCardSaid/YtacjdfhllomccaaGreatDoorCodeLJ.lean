/- The Go functions of group Code compute the pure functions of that group: written by walkgen.py. Condition of each: the pure function yields a result. -/
import Derived.Test.YtacjdfhllomccaaGreatDoorSh2J
import Derived.Test.YtacjdfhllomccaaGreatDoorKeyLJ
import Derived.Test.YtacjdfhllomccaaGreatDoorCodeFJ
import Derived.Test.YtacjdfhllomccaaGreatDoorEqLJ
namespace Go.Proofs.YtacjdfhllomccaaGreatDoor
set_option linter.unusedVariables false
set_option maxRecDepth 100000 in
set_option maxHeartbeats 4000000 in
theorem sum_Of_l (F : Nat) (p0 : ByteArray) (r : Int) (hF : sum_Of F p0 = some r) (w : World)  :
 Calls Tryz.prog 119 #[.string p0] w (Post (vSc eInt) r w) := by
 unfold sum_Of at hF
 refine T.start (l := [.string p0]) Tryz.func119 rfl rfl rfl ?_
 refine T.seq (T.region (T.pk (vi 0) (fun _ => by kernel_rfl) (T.nil (T.seq (T.region (T.pk (.int .u16 0) (fun _ => by kernel_rfl) (T.nil (T.seq (T.seq (T.region (T.p3 (.string p0) (vi (p0.size : Int)) (vi 0) (fun _ => by kernel_rfl) (T.nil ?_))))))))))))
 obtain ⟨z1, hz1, hF⟩ := ob hF
 refine T.mid (fun a w' => Fr 31 [(3, .int .u16 z1)] a ∧ Hp w (vw w) [] w') ?_ ?_
 ·
  refine T.block ?_
  refine T.iter (fun s1 a w' => ∃ (x1 : Int) (x2 : Int), s1 = (x1, x2) ∧ Fr 31 [(0, .string p0), (3, .int .u16 x1), (6, vi (p0.size : Int)), (7, vi x2)] a ∧ Hp w (vw w) [] w') hz1 ?_ ?_
  ·
   exact fun a w' hf hh => ⟨0, 0, rfl, (Fr.sel hf rfl), (hh.sub List.Sublist.slnil)⟩
  rintro s1 y1 hY1 hr1 a w' ⟨x1, x2, rfl, hf, hh⟩
  refine (?_ : T 31 w (vw w) [] [(0, .string p0), (3, .int .u16 x1), (6, vi (p0.size : Int)), (7, vi x2)] _) a w' hf hh
  clear hf hh
  try dsimp only at hY1
  refine T.seq (T.region (T.pk (.bool (decide (x2 < (p0.size : Int)))) (fun _ => by kernel_rfl) (T.nil (T.seq ?_))))
  refine T.cond (decide (x2 < (p0.size : Int))) (by kernel_rfl) (by kernel_rfl) (fun hc1 => ?_) (fun hc1 => ?_)
  ·
   rw [hc1, cond_true] at hY1
   refine T.skip_code ?_
   refine T.seq (T.block (T.seq (T.region (T.p2 (vi x2) (vi x2) (fun _ => by kernel_rfl) (T.nil (T.seq (T.region (T.p3 (.int .u16 x1) (.string p0) (vi x2) (fun _ => by kernel_rfl) ?_))))))))
   obtain ⟨b1, hb1, hY1⟩ := ob hY1
   refine T.look (.int .u8 (b1.toNat : Int)) (by kernel_rfl) (fun w' hh => exec_index_str rfl rfl rfl (by kernel_rfl) hb1) ?_
   refine T.p4 (.int .u16 (IntKind.u16.wrap (b1.toNat : Int))) (.int .u16 (shl .u16 (IntKind.u16.wrap (b1.toNat : Int)) 8)) (.int .u16 (bxor .u16 x1 (shl .u16 (IntKind.u16.wrap (b1.toNat : Int)) 8))) (.int .u16 (bxor .u16 x1 (shl .u16 (IntKind.u16.wrap (b1.toNat : Int)) 8))) (fun _ => by kernel_rfl) (T.nil (T.seq (T.region (T.pk (vi 0) (fun _ => by kernel_rfl) (T.nil ?_)))))
   obtain ⟨z2, hz2, hY1⟩ := ob hY1
   refine T.mid (fun a w' => Fr 31 [(0, .string p0), (3, .int .u16 z2), (6, vi (p0.size : Int)), (7, vi x2)] a ∧ Hp w (vw w) [] w') ?_ ?_
   ·
    refine T.block ?_
    refine T.iter (fun s2 a w' => ∃ (x3 : Int) (x4 : Int), s2 = (x3, x4) ∧ Fr 31 [(0, .string p0), (3, .int .u16 x3), (6, vi (p0.size : Int)), (7, vi x2), (17, vi x4)] a ∧ Hp w (vw w) [] w') hz2 ?_ ?_
    ·
     exact fun a w' hf hh => ⟨(bxor .u16 x1 (shl .u16 (IntKind.u16.wrap (b1.toNat : Int)) 8)), 0, rfl, (Fr.sel hf rfl), (hh.sub List.Sublist.slnil)⟩
    rintro s2 y2 hY2 hr2 a w' ⟨x3, x4, rfl, hf, hh⟩
    refine (?_ : T 31 w (vw w) [] [(0, .string p0), (3, .int .u16 x3), (6, vi (p0.size : Int)), (7, vi x2), (17, vi x4)] _) a w' hf hh
    clear hf hh
    try dsimp only at hY2
    refine T.seq (T.region (T.pk (.bool (decide (x4 < 8))) (fun _ => by kernel_rfl) (T.nil (T.seq ?_))))
    refine T.cond (decide (x4 < 8)) (by kernel_rfl) (by kernel_rfl) (fun hc2 => ?_) (fun hc2 => ?_)
    ·
     rw [hc2, cond_true] at hY2
     refine T.skip_code ?_
     obtain ⟨z3, hX1, hY2⟩ := ob hY2
     refine T.cut (fun a w' => Fr 31 [(0, .string p0), (3, .int .u16 z3), (6, vi (p0.size : Int)), (7, vi x2), (17, vi x4)] a ∧ Hp w (vw w) [] w') ?_ ?_
     ·
      refine T.block (T.seq (T.region (T.p3 (.int .u16 x3) (.int .u16 (band .u16 x3 32768)) (.bool ((band .u16 x3 32768) != 0)) (fun _ => by kernel_rfl) (T.nil ?_))))
      refine T.cond ((band .u16 x3 32768) != 0) (by kernel_rfl) (by kernel_rfl) (fun hc3 => ?_) (fun hc3 => ?_)
      ·
       rw [hc3, cond_true] at hX1
       refine T.region (T.p4 (.int .u16 x3) (.int .u16 (shl .u16 x3 1)) (.int .u16 (bxor .u16 (shl .u16 x3 1) 4129)) (.int .u16 (bxor .u16 (shl .u16 x3 1) 4129)) (fun _ => by kernel_rfl) (T.nil ?_))
       cases hX1
       exact fun a w' hf hh => ⟨(Fr.sel hf rfl), (hh.sub List.Sublist.slnil)⟩
      rw [hc3, cond_false] at hX1
      refine T.region (T.p3 (.int .u16 x3) (.int .u16 (shl .u16 x3 1)) (.int .u16 (shl .u16 x3 1)) (fun _ => by kernel_rfl) (T.nil ?_))
      cases hX1
      exact fun a w' hf hh => ⟨(Fr.sel hf rfl), (hh.sub List.Sublist.slnil)⟩
     rintro a w' ⟨hf, hh⟩
     refine (?_ : T 31 w (vw w) [] [(0, .string p0), (3, .int .u16 z3), (6, vi (p0.size : Int)), (7, vi x2), (17, vi x4)] _) a w' hf hh
     clear hf hh
     refine T.region (T.p2 (vi (IntKind.i64.wrap (x4 + 1))) (vi (IntKind.i64.wrap (x4 + 1))) (fun _ => by kernel_rfl) (T.nil ?_))
     cases hY2
     exact fun a w' hf hh => ⟨(z3, IntKind.i64.wrap (x4 + 1)), rfl, z3, (IntKind.i64.wrap (x4 + 1)), rfl, (Fr.sel hf rfl), (hh.sub List.Sublist.slnil)⟩
    rw [hc2, cond_false] at hY2
    refine T.exit ?_
    cases hY2
    cases (hr2 _ rfl)
    exact fun a w' hf hh => ⟨(Fr.sel hf rfl), (hh.sub List.Sublist.slnil)⟩
   rintro a w' ⟨hf, hh⟩
   refine (?_ : T 31 w (vw w) [] [(0, .string p0), (3, .int .u16 z2), (6, vi (p0.size : Int)), (7, vi x2)] _) a w' hf hh
   clear hf hh
   refine T.region (T.p2 (vi (IntKind.i64.wrap (x2 + 1))) (vi (IntKind.i64.wrap (x2 + 1))) (fun _ => by kernel_rfl) (T.nil ?_))
   cases hY1
   exact fun a w' hf hh => ⟨(z2, IntKind.i64.wrap (x2 + 1)), rfl, z2, (IntKind.i64.wrap (x2 + 1)), rfl, (Fr.sel hf rfl), (hh.sub List.Sublist.slnil)⟩
  rw [hc1, cond_false] at hY1
  refine T.exit ?_
  cases hY1
  cases (hr1 _ rfl)
  exact fun a w' hf hh => ⟨(Fr.sel hf rfl), (hh.sub List.Sublist.slnil)⟩
 rintro a w' ⟨hf, hh⟩
 refine (?_ : T 31 w (vw w) [] [(3, .int .u16 z1)] _) a w' hf hh
 clear hf hh
 refine T.seq (T.region (T.p3 (.int .u16 z1) (vi (IntKind.i64.wrap z1)) (vi (IntKind.i64.wrap z1)) (fun _ => by kernel_rfl) (T.nil ?_)))
 cases hF
 refine T.ret rfl ?_
 exact T.ret1 rfl (ResIs.tmp rfl) fun w' hh => ⟨_, rfl, hh.below, (show _ from rfl)⟩
set_option maxRecDepth 100000 in
set_option maxHeartbeats 4000000 in
theorem annalkeep_Within_l (p0 : Int) (p1 : Int) (r : Int) (hF : annalkeep_Within p0 p1 = some r) (w : World)  :
 Calls Tryz.prog 22 #[.int .i64 p0, .int .i64 p1] w (Post (vSc eInt) r w) := by
 unfold annalkeep_Within at hF
 refine T.start (l := [vi p0, vi p1]) Tryz.func22 rfl rfl rfl ?_
 refine T.seq (T.region (T.pk (vi 0) (fun _ => by kernel_rfl) (T.nil (T.seq (T.region (T.p4 (vi p0) (.int .u64 (IntKind.u64.wrap p0)) (vi p1) (.int .u64 (IntKind.u64.wrap p1)) (fun _ => by kernel_rfl) ?_))))))
 obtain ⟨d1, hb1, hF⟩ := ob hF
 refine T.look (.int .u64 ((IntKind.u64.wrap p0).tmod d1)) (by kernel_rfl) (fun w' hh => exec_rem rfl rfl rfl hb1) ?_
 refine T.p2 (vi (IntKind.i64.wrap ((IntKind.u64.wrap p0).tmod d1))) (vi (IntKind.i64.wrap ((IntKind.u64.wrap p0).tmod d1))) (fun _ => by kernel_rfl) (T.nil ?_)
 cases hF
 refine T.ret rfl ?_
 exact T.ret1 rfl (ResIs.tmp rfl) fun w' hh => ⟨_, rfl, hh.below, (show _ from rfl)⟩
end Go.Proofs.YtacjdfhllomccaaGreatDoor
