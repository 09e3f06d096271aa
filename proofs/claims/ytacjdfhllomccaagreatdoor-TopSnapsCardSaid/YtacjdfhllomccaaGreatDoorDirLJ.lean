/- The Go functions of group Dir compute the pure functions of that group: written by walkgen.py. Condition of each: the pure function yields a result. -/
import Derived.Test.YtacjdfhllomccaaGreatDoorSh2J
import Derived.Test.YtacjdfhllomccaaGreatDoorRunLJ
import Derived.Test.YtacjdfhllomccaaGreatDoorCodeLJ
import Derived.Test.YtacjdfhllomccaaGreatDoorLibLJ
import Derived.Test.YtacjdfhllomccaaGreatDoorDirFJ
import Derived.Test.YtacjdfhllomccaaGreatDoorEqLJ
namespace Go.Proofs.YtacjdfhllomccaaGreatDoor
set_option linter.unusedVariables false
set_option maxRecDepth 100000 in
set_option maxHeartbeats 4000000 in
theorem dir_Name_l (F : Nat) (p0 : ByteArray) (r : Bool) (hF : dir_Name F p0 = some r) (w : World)  :
 Calls Tryz.prog 91 #[.string p0] w (Post (vSc eBool) r w) := by
 unfold dir_Name at hF
 refine T.start (l := [.string p0]) Tryz.func91 rfl rfl rfl ?_
 refine T.seq (T.region (T.pk (.bool false) (fun _ => by kernel_rfl) (T.nil (T.seq ?_))))
 refine T.cut (fun a w' => Fr 47 [(0, .string p0), (18, .bool ((seq p0 (ByteArray.mk #[])) || ((decide ((12 : Int) < (p0.size : Int))) || ((seq p0 (ByteArray.mk #[46])) || (seq p0 (ByteArray.mk #[46, 46]))))))] a ∧ Hp w (vw w) [] w') ?_ ?_
 ·
  refine T.region (T.p3 (.string p0) (.bool (seq p0 (ByteArray.mk #[]))) (.bool (seq p0 (ByteArray.mk #[]))) (fun _ => by kernel_rfl) ?_)
  cases hg1 : (seq p0 (ByteArray.mk #[]))
  ·
   skip
   refine T.p5 (.string p0) (vi (p0.size : Int)) (.bool (decide ((12 : Int) < (p0.size : Int)))) (.bool (decide ((12 : Int) < (p0.size : Int)))) (.bool (decide ((12 : Int) < (p0.size : Int)))) (fun _ => by kernel_rfl) ?_
   cases hg2 : decide ((12 : Int) < (p0.size : Int))
   ·
    skip
    refine T.p4 (.string p0) (.bool (seq p0 (ByteArray.mk #[46]))) (.bool (seq p0 (ByteArray.mk #[46]))) (.bool (seq p0 (ByteArray.mk #[46]))) (fun _ => by kernel_rfl) ?_
    cases hg3 : (seq p0 (ByteArray.mk #[46]))
    ·
     skip
     refine T.p3 (.string p0) (.bool (seq p0 (ByteArray.mk #[46, 46]))) (.bool (seq p0 (ByteArray.mk #[46, 46]))) (fun _ => by kernel_rfl) (T.nil ?_)
     exact fun a w' hf hh => ⟨(Fr.sel hf rfl), (hh.sub List.Sublist.slnil)⟩
    skip
    refine T.pass (by kernel_rfl) (by kernel_rfl) (T.pass (by kernel_rfl) (by kernel_rfl) (T.pk (.bool true) (fun _ => by kernel_rfl) (T.nil ?_)))
    exact fun a w' hf hh => ⟨(Fr.sel hf rfl), (hh.sub List.Sublist.slnil)⟩
   skip
   refine T.pass (by kernel_rfl) (by kernel_rfl) (T.pass (by kernel_rfl) (by kernel_rfl) (T.p2 (.bool true) (.bool true) (fun _ => by kernel_rfl) (T.pass (by kernel_rfl) (by kernel_rfl) (T.pass (by kernel_rfl) (by kernel_rfl) (T.pk (.bool true) (fun _ => by kernel_rfl) (T.nil ?_))))))
   exact fun a w' hf hh => ⟨(Fr.sel hf rfl), (hh.sub List.Sublist.slnil)⟩
  skip
  refine T.pass (by kernel_rfl) (by kernel_rfl) (T.pass (by kernel_rfl) (by kernel_rfl) (T.pass (by kernel_rfl) (by kernel_rfl) (T.p2 (.bool true) (.bool true) (fun _ => by kernel_rfl) (T.pass (by kernel_rfl) (by kernel_rfl) (T.pass (by kernel_rfl) (by kernel_rfl) (T.p2 (.bool true) (.bool true) (fun _ => by kernel_rfl) (T.pass (by kernel_rfl) (by kernel_rfl) (T.pass (by kernel_rfl) (by kernel_rfl) (T.pk (.bool true) (fun _ => by kernel_rfl) (T.nil ?_))))))))))
  exact fun a w' hf hh => ⟨(Fr.sel hf rfl), (hh.sub List.Sublist.slnil)⟩
 rintro a w' ⟨hf, hh⟩
 refine (?_ : T 47 w (vw w) [] [(0, .string p0), (18, .bool ((seq p0 (ByteArray.mk #[])) || ((decide ((12 : Int) < (p0.size : Int))) || ((seq p0 (ByteArray.mk #[46])) || (seq p0 (ByteArray.mk #[46, 46]))))))] _) a w' hf hh
 clear hf hh
 refine T.cond ((seq p0 (ByteArray.mk #[])) || ((decide ((12 : Int) < (p0.size : Int))) || ((seq p0 (ByteArray.mk #[46])) || (seq p0 (ByteArray.mk #[46, 46]))))) (by kernel_rfl) (by kernel_rfl) (fun hc1 => ?_) (fun hc1 => ?_)
 ·
  rw [hc1, cond_true] at hF
  refine T.seq (T.region (T.pk (.bool false) (fun _ => by kernel_rfl) (T.nil ?_)))
  cases hF
  refine T.ret rfl ?_
  exact T.ret1 rfl (ResIs.tmp rfl) fun w' hh => ⟨_, rfl, hh.below, (show _ from rfl)⟩
 rw [hc1, cond_false] at hF
 refine T.skip_code ?_
 refine T.seq (T.seq (T.region (T.p3 (.string p0) (vi (p0.size : Int)) (vi 0) (fun _ => by kernel_rfl) (T.nil ?_))))
 obtain ⟨q1, hz1, hF⟩ := ob hF
 refine T.mid (fun a w' => q1 = Sum.inl () ∧ Fr 47 [] a ∧ Hp w (vw w) [] w') ?_ ?_
 ·
  refine T.block ?_
  refine T.iter (fun x1 a w' => Fr 47 [(0, .string p0), (20, vi (p0.size : Int)), (21, vi x1)] a ∧ Hp w (vw w) [] w') hz1 ?_ ?_
  ·
   exact fun a w' hf hh => ⟨(Fr.sel hf rfl), (hh.sub List.Sublist.slnil)⟩
  rintro x1 y1 hY1 hr1 a w' ⟨hf, hh⟩
  refine (?_ : T 47 w (vw w) [] [(0, .string p0), (20, vi (p0.size : Int)), (21, vi x1)] _) a w' hf hh
  clear hf hh
  try dsimp only at hY1
  refine T.seq (T.region (T.pk (.bool (decide (x1 < (p0.size : Int)))) (fun _ => by kernel_rfl) (T.nil (T.seq ?_))))
  refine T.cond (decide (x1 < (p0.size : Int))) (by kernel_rfl) (by kernel_rfl) (fun hc2 => ?_) (fun hc2 => ?_)
  ·
   rw [hc2, cond_true] at hY1
   refine T.skip_code ?_
   refine T.seq (T.block (T.seq (T.region (T.p2 (vi x1) (vi x1) (fun _ => by kernel_rfl) (T.nil ?_)))))
   obtain ⟨z1, hX1, hY1⟩ := ob hY1
   refine T.cut (fun a w' => Fr 47 [(0, .string p0), (20, vi (p0.size : Int)), (21, vi x1), (45, .bool z1)] a ∧ Hp w (vw w) [] w') ?_ ?_
   ·
    refine T.region (T.p2 (.string p0) (vi x1) (fun _ => by kernel_rfl) ?_)
    obtain ⟨b1, hb1, hX1⟩ := ob hX1
    refine T.look (.int .u8 (b1.toNat : Int)) (by kernel_rfl) (fun w' hh => exec_index_str rfl rfl rfl (by kernel_rfl) hb1) ?_
    refine T.p2 (.bool (decide ((b1.toNat : Int) ≤ 32))) (.bool (decide ((b1.toNat : Int) ≤ 32))) (fun _ => by kernel_rfl) ?_
    cases hg4 : decide ((b1.toNat : Int) ≤ 32)
    ·
     skip
     rw [hg4, cond_false] at hX1
     refine T.p2 (.string p0) (vi x1) (fun _ => by kernel_rfl) ?_
     obtain ⟨b2, hb2, hX1⟩ := ob hX1
     refine T.look (.int .u8 (b2.toNat : Int)) (by kernel_rfl) (fun w' hh => exec_index_str rfl rfl rfl (by kernel_rfl) hb2) ?_
     refine T.p3 (.bool (decide ((127 : Int) ≤ (b2.toNat : Int)))) (.bool (decide ((127 : Int) ≤ (b2.toNat : Int)))) (.bool (decide ((127 : Int) ≤ (b2.toNat : Int)))) (fun _ => by kernel_rfl) ?_
     cases hg5 : decide ((127 : Int) ≤ (b2.toNat : Int))
     ·
      skip
      rw [hg5, cond_false] at hX1
      refine T.p2 (.string p0) (vi x1) (fun _ => by kernel_rfl) ?_
      obtain ⟨b3, hb3, hX1⟩ := ob hX1
      refine T.look (.int .u8 (b3.toNat : Int)) (by kernel_rfl) (fun w' hh => exec_index_str rfl rfl rfl (by kernel_rfl) hb3) ?_
      refine T.p3 (.bool ((b3.toNat : Int) == 47)) (.bool ((b3.toNat : Int) == 47)) (.bool ((b3.toNat : Int) == 47)) (fun _ => by kernel_rfl) ?_
      cases hg6 : ((b3.toNat : Int) == 47)
      ·
       skip
       rw [hg6, cond_false] at hX1
       refine T.p2 (.string p0) (vi x1) (fun _ => by kernel_rfl) ?_
       obtain ⟨b4, hb4, hX1⟩ := ob hX1
       refine T.look (.int .u8 (b4.toNat : Int)) (by kernel_rfl) (fun w' hh => exec_index_str rfl rfl rfl (by kernel_rfl) hb4) ?_
       refine T.p2 (.bool ((b4.toNat : Int) == 64)) (.bool ((b4.toNat : Int) == 64)) (fun _ => by kernel_rfl) (T.nil ?_)
       cases hX1
       exact fun a w' hf hh => ⟨(Fr.sel hf rfl), (hh.sub List.Sublist.slnil)⟩
      skip
      rw [hg6, cond_true] at hX1
      refine T.pass (by kernel_rfl) (by kernel_rfl) (T.pass (by kernel_rfl) (by kernel_rfl) (T.pass (by kernel_rfl) (by kernel_rfl) (T.pass (by kernel_rfl) (by kernel_rfl) (T.pk (.bool true) (fun _ => by kernel_rfl) (T.nil ?_)))))
      cases hX1
      exact fun a w' hf hh => ⟨(Fr.sel hf rfl), (hh.sub List.Sublist.slnil)⟩
     skip
     rw [hg5, cond_true] at hX1
     refine T.pass (by kernel_rfl) (by kernel_rfl) (T.pass (by kernel_rfl) (by kernel_rfl) (T.pass (by kernel_rfl) (by kernel_rfl) (T.pass (by kernel_rfl) (by kernel_rfl) (T.p2 (.bool true) (.bool true) (fun _ => by kernel_rfl) (T.pass (by kernel_rfl) (by kernel_rfl) (T.pass (by kernel_rfl) (by kernel_rfl) (T.pass (by kernel_rfl) (by kernel_rfl) (T.pass (by kernel_rfl) (by kernel_rfl) (T.pk (.bool true) (fun _ => by kernel_rfl) (T.nil ?_))))))))))
     cases hX1
     exact fun a w' hf hh => ⟨(Fr.sel hf rfl), (hh.sub List.Sublist.slnil)⟩
    skip
    rw [hg4, cond_true] at hX1
    refine T.pass (by kernel_rfl) (by kernel_rfl) (T.pass (by kernel_rfl) (by kernel_rfl) (T.pass (by kernel_rfl) (by kernel_rfl) (T.pass (by kernel_rfl) (by kernel_rfl) (T.p2 (.bool true) (.bool true) (fun _ => by kernel_rfl) (T.pass (by kernel_rfl) (by kernel_rfl) (T.pass (by kernel_rfl) (by kernel_rfl) (T.pass (by kernel_rfl) (by kernel_rfl) (T.pass (by kernel_rfl) (by kernel_rfl) (T.p2 (.bool true) (.bool true) (fun _ => by kernel_rfl) (T.pass (by kernel_rfl) (by kernel_rfl) (T.pass (by kernel_rfl) (by kernel_rfl) (T.pass (by kernel_rfl) (by kernel_rfl) (T.pass (by kernel_rfl) (by kernel_rfl) (T.pk (.bool true) (fun _ => by kernel_rfl) (T.nil ?_)))))))))))))))
    cases hX1
    exact fun a w' hf hh => ⟨(Fr.sel hf rfl), (hh.sub List.Sublist.slnil)⟩
   rintro a w' ⟨hf, hh⟩
   refine (?_ : T 47 w (vw w) [] [(0, .string p0), (20, vi (p0.size : Int)), (21, vi x1), (45, .bool z1)] _) a w' hf hh
   clear hf hh
   refine T.cond z1 (by kernel_rfl) (by kernel_rfl) (fun hc3 => ?_) (fun hc3 => ?_)
   ·
    rw [hc3, cond_true] at hY1
    refine T.seq (T.region (T.pk (.bool false) (fun _ => by kernel_rfl) (T.nil ?_)))
    cases hY1
    cases (hr1 _ rfl)
    try dsimp only at hF
    cases hF
    refine T.ret rfl ?_
    exact T.ret1 rfl (ResIs.tmp rfl) fun w' hh => ⟨_, rfl, hh.below, (show _ from rfl)⟩
   rw [hc3, cond_false] at hY1
   refine T.skip_code ?_
   refine T.region (T.p2 (vi (IntKind.i64.wrap (x1 + 1))) (vi (IntKind.i64.wrap (x1 + 1))) (fun _ => by kernel_rfl) (T.nil ?_))
   cases hY1
   exact fun a w' hf hh => ⟨(IntKind.i64.wrap (x1 + 1)), rfl, (Fr.sel hf rfl), (hh.sub List.Sublist.slnil)⟩
  rw [hc2, cond_false] at hY1
  refine T.exit ?_
  cases hY1
  cases (hr1 _ rfl)
  exact fun a w' hf hh => ⟨rfl, (Fr.nil hf), (hh.sub List.Sublist.slnil)⟩
 rintro a w' ⟨rfl, hf, hh⟩
 try dsimp only at hF
 refine (?_ : T 47 w (vw w) [] [] _) a w' hf hh
 clear hf hh
 refine T.seq (T.region (T.pk (.bool true) (fun _ => by kernel_rfl) (T.nil ?_)))
 cases hF
 refine T.ret rfl ?_
 exact T.ret1 rfl (ResIs.tmp rfl) fun w' hh => ⟨_, rfl, hh.below, (show _ from rfl)⟩
set_option maxRecDepth 100000 in
set_option maxHeartbeats 4000000 in
theorem dir_slot_l (F : Nat) (p0 : Int) (p1 : Int) (p2 : ByteArray) (p3 : Int) (r : DKey) (hF : dir_slot F p0 p1 p2 p3 = some r) (w : World)  :
 Calls Tryz.prog 93 #[.int .i64 p0, .int .i64 p1, .string p2, .int .i64 p3] w (Post (vAg eKey) r w) := by
 unfold dir_slot at hF
 refine T.start (l := [vi p0, vi p1, .string p2, vi p3]) Tryz.func93 rfl rfl rfl ?_
 refine T.seq (T.region (T.step (W1.np 42 [vi 0, vi 0, vi 0] (fun _ => by kernel_rfl) (fun b1 => ?_))))
 refine T.nil (T.seq (T.region (T.p3 (vi p0) (vi p1) (.string p2) (fun _ => by kernel_rfl) ?_)))
 obtain ⟨r1, hb1, hF⟩ := ob hF
 refine T.step (W1.call (vSc eInt) r1 119 #[.string p2] (by kernel_rfl) (fun _ => by kernel_rfl) (fun w' hh => sum_Of_l F p2 r1 hb1 w' ) ?_)
 intro u V1 hV1 hu
 obtain rfl := sureInt _ _ _ hu
 refine T.p6 (vi ((r1 : Int).tmod 1000)) (vi (IntKind.i64.wrap (((r1 : Int).tmod 1000) * 8))) (vi (IntKind.i64.wrap (1000000 + (IntKind.i64.wrap (((r1 : Int).tmod 1000) * 8))))) (vi p3) (vi (IntKind.i64.wrap ((IntKind.i64.wrap (1000000 + (IntKind.i64.wrap (((r1 : Int).tmod 1000) * 8)))) + p3))) (.agg #[vi p0, vi p1, vi (IntKind.i64.wrap ((IntKind.i64.wrap (1000000 + (IntKind.i64.wrap (((r1 : Int).tmod 1000) * 8)))) + p3))]) (fun _ => by kernel_rfl) (T.step (W1.st 0 [vi p0, vi p1, vi (IntKind.i64.wrap ((IntKind.i64.wrap (1000000 + (IntKind.i64.wrap (((r1 : Int).tmod 1000) * 8)))) + p3))] ((box b1 42 [vi p0, vi p1, vi (IntKind.i64.wrap ((IntKind.i64.wrap (1000000 + (IntKind.i64.wrap (((r1 : Int).tmod 1000) * 8)))) + p3))]) :: []) [vi p0, vi p1, vi (IntKind.i64.wrap ((IntKind.i64.wrap (1000000 + (IntKind.i64.wrap (((r1 : Int).tmod 1000) * 8)))) + p3))] (by rfl) rfl rfl rfl rfl rfl rfl (fun _ => by kernel_rfl) ?_))
 refine T.nil ?_
 cases hF
 refine T.ret rfl ?_
 exact T.ret1 rfl (ResIs.cellN 0 rfl (by rfl) (fun _ => by kernel_rfl) (fun _ => by kernel_rfl)) fun w' hh => ⟨_, rfl, hh.below, (vAg.mk rfl)⟩
set_option maxRecDepth 100000 in
set_option maxHeartbeats 4000000 in
theorem dir_entry_l (F : Nat) (p0 : DElem) (r : ByteArray × Int × Bool) (hF : dir_entry F p0 = some r) (w : World) (hGl : Glob w) :
 Calls Tryz.prog 103 #[.agg #[.int .i64 p0.key.pfs, .int .i64 p0.key.obj, .int .i64 p0.key.off, .int .i64 p0.made, .int .i64 p0.gone, .string p0.val]] w (Post (vT3 (vSc eStr) (vSc eInt) (vSc eBool)) r w) := by
 unfold dir_entry at hF
 refine T.start (l := [.agg #[vi p0.key.pfs, vi p0.key.obj, vi p0.key.off, vi p0.made, vi p0.gone, .string p0.val]]) Tryz.func103 rfl rfl rfl ?_
 refine T.seq (T.region ?_)
 let v2_ : List Value := [vi p0.key.pfs, vi p0.key.obj, vi p0.key.off, vi p0.made, vi p0.gone, .string p0.val]
 refine T.step (W1.np 44 v2_ (fun _ => by kernel_rfl) (fun b1 => ?_))
 refine T.p3 (.string (ByteArray.mk #[])) (vi 0) (.bool false) (fun _ => by kernel_rfl) (T.nil (T.seq (T.region (T.pk (pB b1 5) (fun _ => by kernel_rfl) (T.look (.string p0.val) (by kernel_rfl) (ld1 0 rfl rfl (fun _ => by kernel_rfl) (by rfl) rfl) ?_)))))
 obtain ⟨r1, hb1, hF⟩ := ob hF
 refine T.step (W1.call (vT3 (vSc eStr) (vSc eStr) (vSc eBool)) r1 123 #[.string p0.val, .string (ByteArray.mk #[58])] (by kernel_rfl) (fun _ => by kernel_rfl) (fun w' hh => strings_Cut_l p0.val (ByteArray.mk #[58]) r1 hb1 w' (Glob.mono hGl (vt hh.base hh.view))) ?_)
 intro u V1 hV1 hu
 obtain rfl := (Sure.t3 sureStr sureStr sureBool) _ _ _ hu
 refine T.p7 (.tuple #[.string r1.1, .string r1.2.1, .bool r1.2.2]) (.string r1.1) (.string r1.2.1) (.bool r1.2.2) (.string r1.1) (.string r1.2.1) (.bool r1.2.2) (fun _ => by kernel_rfl) (T.nil (T.seq (T.region (T.pk (.string r1.1) (fun _ => by kernel_rfl) ?_))))
 obtain ⟨r2, hb2, hF⟩ := ob hF
 refine T.step (W1.call (vT2 (vSc eInt) vErr) r2 124 #[.string r1.1] (by kernel_rfl) (fun _ => by kernel_rfl) (fun w' hh => strconv_Atoi_l r1.1 r2 hb2 w' (Glob.mono hGl (vt hh.base hh.view))) ?_)
 intro u V2 hV2 hu
 obtain ⟨u1, u2, rfl, hu1, hu2⟩ := vT2_elim hu
 obtain rfl := sureInt _ _ _ hu1
 obtain ⟨t1, p1, rfl⟩ := hu2
 refine T.p5 (.tuple #[vi r2.1, errV r2.2 t1 p1]) (vi r2.1) (errV r2.2 t1 p1) (vi r2.1) (errV r2.2 t1 p1) (fun _ => by kernel_rfl) (T.nil (T.seq ?_))
 obtain ⟨z1, hX1, hF⟩ := ob hF
 let i1_ : HObj := box b1 44 v2_
 refine T.cut (fun a w' => ∃ (V3 : View), View.le V2 V3 ∧ Fr 73 [(1, pB b1 0), (6, .string r1.2.1), (8, vi r2.1), (47, .bool z1)] a ∧ Hp w V3 (i1_ :: []) w') ?_ ?_
 ·
  refine T.region (T.p3 (.bool r1.2.2) (.bool (!r1.2.2)) (.bool (!r1.2.2)) (fun _ => by kernel_rfl) ?_)
  cases hg1 : (!r1.2.2)
  ·
   skip
   rw [hg1, cond_false] at hX1
   refine T.pk (errV r2.2 t1 p1) (fun _ => by kernel_rfl) (T.look (.bool r2.2) (by kernel_rfl) (fun w' hh => exec_err_neq rfl rfl (fun _ => by kernel_rfl) (fun _ _ _ => by kernel_rfl)) ?_)
   refine T.p2 (.bool r2.2) (.bool r2.2) (fun _ => by kernel_rfl) ?_
   cases hg2 : r2.2
   ·
    skip
    rw [hg2, cond_false] at hX1
    refine T.pk (vi r2.1) (fun _ => by kernel_rfl) ?_
    obtain ⟨r3, hb3, hX1⟩ := ob hX1
    refine T.step (W1.call (vSc eStr) r3 95 #[vi r2.1] (by kernel_rfl) (fun _ => by kernel_rfl) (fun w' hh => strconv_Itoa_l r2.1 r3 hb3 w' (Glob.mono hGl (vt hh.base hh.view))) ?_)
    intro u V4 hV4 hu
    obtain rfl := sureStr _ _ _ hu
    refine T.p4 (.string r1.1) (.bool (!(seq r3 r1.1))) (.bool (!(seq r3 r1.1))) (.bool (!(seq r3 r1.1))) (fun _ => by kernel_rfl) ?_
    cases hg3 : (!(seq r3 r1.1))
    ·
     skip
     rw [hg3, cond_false] at hX1
     refine T.p4 (vi r2.1) (.bool (decide (r2.1 < 0))) (.bool (decide (r2.1 < 0))) (.bool (decide (r2.1 < 0))) (fun _ => by kernel_rfl) ?_
     cases hg4 : decide (r2.1 < 0)
     ·
      skip
      rw [hg4, cond_false] at hX1
      refine T.p4 (vi r2.1) (.bool (decide ((1048576 : Int) < r2.1))) (.bool (decide ((1048576 : Int) < r2.1))) (.bool (decide ((1048576 : Int) < r2.1))) (fun _ => by kernel_rfl) ?_
      cases hg5 : decide ((1048576 : Int) < r2.1)
      ·
       skip
       rw [hg5, cond_false] at hX1
       refine T.pk (.string r1.2.1) (fun _ => by kernel_rfl) ?_
       obtain ⟨r4, hb4, hX1⟩ := ob hX1
       refine T.step (W1.call (vSc eBool) r4 91 #[.string r1.2.1] (by kernel_rfl) (fun _ => by kernel_rfl) (fun w' hh => dir_Name_l F r1.2.1 r4 hb4 w' ) ?_)
       intro u V5 hV5 hu
       obtain rfl := sureBool _ _ _ hu
       refine T.p2 (.bool (!r4)) (.bool (!r4)) (fun _ => by kernel_rfl) (T.nil ?_)
       cases hX1
       exact fun a w' hf hh => ⟨V5, (vt hV4 hV5), (Fr.sel hf rfl), (hh.sub (kp1 kp0))⟩
      skip
      rw [hg5, cond_true] at hX1
      refine T.pass (by kernel_rfl) (by kernel_rfl) (T.pass (by kernel_rfl) (by kernel_rfl) (T.pass (by kernel_rfl) (by kernel_rfl) (T.pk (.bool true) (fun _ => by kernel_rfl) (T.nil ?_))))
      cases hX1
      exact fun a w' hf hh => ⟨V4, hV4, (Fr.sel hf rfl), (hh.sub (kp1 kp0))⟩
     skip
     rw [hg4, cond_true] at hX1
     refine T.pass (by kernel_rfl) (by kernel_rfl) (T.pass (by kernel_rfl) (by kernel_rfl) (T.p2 (.bool true) (.bool true) (fun _ => by kernel_rfl) (T.pass (by kernel_rfl) (by kernel_rfl) (T.pass (by kernel_rfl) (by kernel_rfl) (T.pass (by kernel_rfl) (by kernel_rfl) (T.pk (.bool true) (fun _ => by kernel_rfl) (T.nil ?_)))))))
     cases hX1
     exact fun a w' hf hh => ⟨V4, hV4, (Fr.sel hf rfl), (hh.sub (kp1 kp0))⟩
    skip
    rw [hg3, cond_true] at hX1
    refine T.pass (by kernel_rfl) (by kernel_rfl) (T.pass (by kernel_rfl) (by kernel_rfl) (T.p2 (.bool true) (.bool true) (fun _ => by kernel_rfl) (T.pass (by kernel_rfl) (by kernel_rfl) (T.pass (by kernel_rfl) (by kernel_rfl) (T.p2 (.bool true) (.bool true) (fun _ => by kernel_rfl) (T.pass (by kernel_rfl) (by kernel_rfl) (T.pass (by kernel_rfl) (by kernel_rfl) (T.pass (by kernel_rfl) (by kernel_rfl) (T.pk (.bool true) (fun _ => by kernel_rfl) (T.nil ?_))))))))))
    cases hX1
    exact fun a w' hf hh => ⟨V4, hV4, (Fr.sel hf rfl), (hh.sub (kp1 kp0))⟩
   skip
   rw [hg2, cond_true] at hX1
   refine T.pass (by kernel_rfl) (by kernel_rfl) (T.pass (by kernel_rfl) (by kernel_rfl) (T.pass (by kernel_rfl) (by kernel_rfl) (T.pass (by kernel_rfl) (by kernel_rfl) (T.p2 (.bool true) (.bool true) (fun _ => by kernel_rfl) (T.pass (by kernel_rfl) (by kernel_rfl) (T.pass (by kernel_rfl) (by kernel_rfl) (T.p2 (.bool true) (.bool true) (fun _ => by kernel_rfl) (T.pass (by kernel_rfl) (by kernel_rfl) (T.pass (by kernel_rfl) (by kernel_rfl) (T.p2 (.bool true) (.bool true) (fun _ => by kernel_rfl) (T.pass (by kernel_rfl) (by kernel_rfl) (T.pass (by kernel_rfl) (by kernel_rfl) (T.pass (by kernel_rfl) (by kernel_rfl) (T.pk (.bool true) (fun _ => by kernel_rfl) (T.nil ?_)))))))))))))))
   cases hX1
   exact fun a w' hf hh => ⟨V2, vr, (Fr.sel hf rfl), (hh.sub (kp1 kp0))⟩
  skip
  rw [hg1, cond_true] at hX1
  refine T.pass (by kernel_rfl) (by kernel_rfl) (T.pass (by kernel_rfl) (by kernel_rfl) (T.p2 (.bool true) (.bool true) (fun _ => by kernel_rfl) (T.pass (by kernel_rfl) (by kernel_rfl) (T.pass (by kernel_rfl) (by kernel_rfl) (T.pass (by kernel_rfl) (by kernel_rfl) (T.pass (by kernel_rfl) (by kernel_rfl) (T.p2 (.bool true) (.bool true) (fun _ => by kernel_rfl) (T.pass (by kernel_rfl) (by kernel_rfl) (T.pass (by kernel_rfl) (by kernel_rfl) (T.p2 (.bool true) (.bool true) (fun _ => by kernel_rfl) (T.pass (by kernel_rfl) (by kernel_rfl) (T.pass (by kernel_rfl) (by kernel_rfl) (T.p2 (.bool true) (.bool true) (fun _ => by kernel_rfl) (T.pass (by kernel_rfl) (by kernel_rfl) (T.pass (by kernel_rfl) (by kernel_rfl) (T.pass (by kernel_rfl) (by kernel_rfl) (T.pk (.bool true) (fun _ => by kernel_rfl) (T.nil ?_))))))))))))))))))
  cases hX1
  exact fun a w' hf hh => ⟨V2, vr, (Fr.sel hf rfl), (hh.sub (kp1 kp0))⟩
 rintro a w' ⟨V3, hV3, hf, hh⟩
 refine (?_ : T 73 w V3 (i1_ :: []) [(1, pB b1 0), (6, .string r1.2.1), (8, vi r2.1), (47, .bool z1)] _) a w' hf hh
 clear hf hh
 refine T.cond z1 (by kernel_rfl) (by kernel_rfl) (fun hc1 => ?_) (fun hc1 => ?_)
 ·
  rw [hc1, cond_true] at hF
  refine T.seq (T.region (T.p3 (.string (ByteArray.mk #[])) (vi 0) (.bool false) (fun _ => by kernel_rfl) (T.nil ?_)))
  cases hF
  refine T.ret rfl ?_
  exact T.ret3 rfl (ResIs.tmp rfl) (ResIs.tmp rfl) (ResIs.tmp rfl) fun w' hh => ⟨_, rfl, hh.below, (vT3.mk (show _ from rfl) (show _ from rfl) (show _ from rfl))⟩
 rw [hc1, cond_false] at hF
 refine T.skip_code ?_
 refine T.seq (T.region (T.p2 (pB b1 0) (pB b1 0) (fun _ => by kernel_rfl) (T.look (vi p0.key.pfs) (by kernel_rfl) (ld1 0 rfl rfl (fun _ => by kernel_rfl) (by rfl) rfl) ?_)))
 refine T.p2 (pB b1 0) (pB b1 1) (fun _ => by kernel_rfl) (T.look (vi p0.key.obj) (by kernel_rfl) (ld1 0 rfl rfl (fun _ => by kernel_rfl) (by rfl) rfl) ?_)
 refine T.pk (.string r1.2.1) (fun _ => by kernel_rfl) ?_
 obtain ⟨r5, hb5, hF⟩ := ob hF
 refine T.step (W1.call (vAg eKey) r5 93 #[vi p0.key.pfs, vi p0.key.obj, .string r1.2.1, vi 0] (by kernel_rfl) (fun _ => by kernel_rfl) (fun w' hh => dir_slot_l F p0.key.pfs p0.key.obj r1.2.1 0 r5 hb5 w' ) ?_)
 intro u V6 hV6 hu
 obtain rfl := sureKey _ _ _ hu
 refine T.step (W1.np 42 [vi 0, vi 0, vi 0] (fun _ => by kernel_rfl) (fun b2 => ?_))
 let v3_ : List Value := [vi r5.pfs, vi r5.obj, vi r5.off]
 refine T.step (W1.st 0 v3_ ((box b2 42 v3_) :: i1_ :: []) v3_ (by rfl) rfl rfl rfl rfl rfl rfl (fun _ => by kernel_rfl) ?_)
 refine T.nil ?_
 refine T.cut (fun a w' => Fr 73 [(2, .string r1.2.1), (3, vi r2.1), (4, .bool ((decide (r5.off ≤ p0.key.off)) && (decide (p0.key.off < (IntKind.i64.wrap (r5.off + 8))))))] a ∧ Hp w V6 [] w') ?_ ?_
 ·
  refine T.quiet (by kernel_rfl) (by kernel_rfl) ?_
  refine TQ.pure (.string r1.2.1) (by kernel_rfl) (fun _ => by kernel_rfl) ?_
  refine TQ.pure (vi r2.1) (by kernel_rfl) (fun _ => by kernel_rfl) ?_
  refine TQ.pure (pB b1 0) (by kernel_rfl) (fun _ => by kernel_rfl) ?_
  refine TQ.pure (pB b1 2) (by kernel_rfl) (fun _ => by kernel_rfl) ?_
  refine TQ.look (vi p0.key.off) (by kernel_rfl) (ld1 1 rfl rfl (fun _ => by kernel_rfl) (by rfl) rfl) ?_
  refine TQ.pure (pB b2 2) (by kernel_rfl) (fun _ => by kernel_rfl) ?_
  refine TQ.look (vi r5.off) (by kernel_rfl) (ld1 0 rfl rfl (fun _ => by kernel_rfl) (by rfl) rfl) ?_
  refine TQ.pure (.bool (decide (r5.off ≤ p0.key.off))) (by kernel_rfl) (fun _ => by kernel_rfl) ?_
  refine TQ.pure (.bool (decide (r5.off ≤ p0.key.off))) (by kernel_rfl) (fun _ => by kernel_rfl) ?_
  cases hg6 : decide (r5.off ≤ p0.key.off)
  ·
   skip
   refine TQ.pass (by kernel_rfl) (by kernel_rfl) ?_
   refine TQ.pass (by kernel_rfl) (by kernel_rfl) ?_
   refine TQ.pass (by kernel_rfl) (by kernel_rfl) ?_
   refine TQ.pass (by kernel_rfl) (by kernel_rfl) ?_
   refine TQ.pass (by kernel_rfl) (by kernel_rfl) ?_
   refine TQ.pass (by kernel_rfl) (by kernel_rfl) ?_
   refine TQ.pass (by kernel_rfl) (by kernel_rfl) ?_
   refine TQ.pure (.bool false) (by kernel_rfl) (fun _ => by kernel_rfl) ?_
   refine TQ.pure (.string r1.2.1) (by kernel_rfl) (fun _ => by kernel_rfl) ?_
   refine TQ.pure (vi r2.1) (by kernel_rfl) (fun _ => by kernel_rfl) ?_
   refine TQ.pure (.bool false) (by kernel_rfl) (fun _ => by kernel_rfl) ?_
   refine TQ.nil ?_
   exact fun a w' hf hh => ⟨(Fr.sel hf rfl), (hh.sub (dr1 (dr1 kp0)))⟩
  skip
  refine TQ.pure (pB b1 0) (by kernel_rfl) (fun _ => by kernel_rfl) ?_
  refine TQ.pure (pB b1 2) (by kernel_rfl) (fun _ => by kernel_rfl) ?_
  refine TQ.look (vi p0.key.off) (by kernel_rfl) (ld1 1 rfl rfl (fun _ => by kernel_rfl) (by rfl) rfl) ?_
  refine TQ.pure (pB b2 2) (by kernel_rfl) (fun _ => by kernel_rfl) ?_
  refine TQ.look (vi r5.off) (by kernel_rfl) (ld1 0 rfl rfl (fun _ => by kernel_rfl) (by rfl) rfl) ?_
  refine TQ.pure (vi (IntKind.i64.wrap (r5.off + 8))) (by kernel_rfl) (fun _ => by kernel_rfl) ?_
  refine TQ.pure (.bool (decide (p0.key.off < (IntKind.i64.wrap (r5.off + 8))))) (by kernel_rfl) (fun _ => by kernel_rfl) ?_
  refine TQ.pure (.bool (decide (p0.key.off < (IntKind.i64.wrap (r5.off + 8))))) (by kernel_rfl) (fun _ => by kernel_rfl) ?_
  refine TQ.pure (.string r1.2.1) (by kernel_rfl) (fun _ => by kernel_rfl) ?_
  refine TQ.pure (vi r2.1) (by kernel_rfl) (fun _ => by kernel_rfl) ?_
  refine TQ.pure (.bool (decide (p0.key.off < (IntKind.i64.wrap (r5.off + 8))))) (by kernel_rfl) (fun _ => by kernel_rfl) ?_
  refine TQ.nil ?_
  exact fun a w' hf hh => ⟨(Fr.sel hf rfl), (hh.sub (dr1 (dr1 kp0)))⟩
 rintro a w' ⟨hf, hh⟩
 refine (?_ : T 73 w V6 [] [(2, .string r1.2.1), (3, vi r2.1), (4, .bool ((decide (r5.off ≤ p0.key.off)) && (decide (p0.key.off < (IntKind.i64.wrap (r5.off + 8))))))] _) a w' hf hh
 clear hf hh
 cases hF
 refine T.ret rfl ?_
 exact T.ret3 rfl (ResIs.tmp rfl) (ResIs.tmp rfl) (ResIs.tmp rfl) fun w' hh => ⟨_, rfl, hh.below, (vT3.mk (show _ from rfl) (show _ from rfl) (show _ from rfl))⟩
set_option maxRecDepth 100000 in
set_option maxHeartbeats 4000000 in
theorem dir_look_l (F : Nat) (p0 : (List DElem)) (p1 : Int) (p2 : Int) (r : Int) (hF : dir_look F p0 p1 p2 = some r) (w : World) (A1 : Option Addr) (c1 : Nat) (hs1 : SlOk (vw w) eElem A1 c1 p0) :
 Calls Tryz.prog 90 #[.slice A1 p0.length c1, .int .i64 p1, .int .i64 p2] w (Post (vSc eInt) r w) := by
 unfold dir_look at hF
 refine T.start (l := [.slice A1 p0.length c1, vi p1, vi p2]) Tryz.func90 rfl rfl rfl ?_
 refine T.seq (T.region (T.pk (vi 0) (fun _ => by kernel_rfl) (T.nil (T.seq (T.seq (T.region (T.pk (.slice A1 p0.length c1) (fun _ => by kernel_rfl) ?_)))))))
 obtain ⟨r1, hb1, hF⟩ := ob hF
 refine T.step (W1.call (vSc eInt) r1 64 #[.slice A1 p0.length c1] (by kernel_rfl) (fun _ => by kernel_rfl) (fun w' hh => run_Check_l F p0 r1 hb1 w' A1 c1 (SlOk.mono hs1 hh.view)) ?_)
 intro u V1 hV1 hu
 obtain rfl := sureInt _ _ _ hu
 refine T.pk (vi r1) (fun _ => by kernel_rfl) (T.nil (T.seq (T.region (T.p2 (vi r1) (.bool (r1 != 0)) (fun _ => by kernel_rfl) (T.nil ?_)))))
 refine T.cond (r1 != 0) (by kernel_rfl) (by kernel_rfl) (fun hc1 => ?_) (fun hc1 => ?_)
 ·
  rw [hc1, cond_true] at hF
  refine T.seq (T.region (T.p2 (vi r1) (vi r1) (fun _ => by kernel_rfl) (T.nil ?_)))
  cases hF
  refine T.ret rfl ?_
  exact T.ret1 rfl (ResIs.tmp rfl) fun w' hh => ⟨_, rfl, hh.below, (show _ from rfl)⟩
 rw [hc1, cond_false] at hF
 refine T.skip_code ?_
 refine T.seq (T.region (T.p3 (vi p1) (vi p2) (.agg #[vi p1, vi p2, vi 0]) (fun _ => by kernel_rfl) ?_))
 obtain ⟨r2, hb2, hF⟩ := ob hF
 refine T.step (W1.call (vSc eInt) r2 106 #[.agg #[vi p1, vi p2, vi 0]] (by kernel_rfl) (fun _ => by kernel_rfl) (fun w' hh => key_Check_l (DKey.mk p1 p2 0) r2 hb2 w' ) ?_)
 intro u V2 hV2 hu
 obtain rfl := sureInt _ _ _ hu
 refine T.pk (vi r2) (fun _ => by kernel_rfl) (T.nil ?_)
 cases hF
 refine T.ret rfl ?_
 exact T.ret1 rfl (ResIs.tmp rfl) fun w' hh => ⟨_, rfl, hh.below, (show _ from rfl)⟩
set_option maxRecDepth 100000 in
set_option maxHeartbeats 4000000 in
theorem dir_find_l (F : Nat) (p0 : (List DElem)) (p1 : Int) (p2 : Int) (p3 : ByteArray) (p4 : Int) (r : DElem × Int × Bool) (hF : dir_find F p0 p1 p2 p3 p4 = some r) (w : World) (hGl : Glob w) (A1 : Option Addr) (c1 : Nat) (hs1 : SlOk (vw w) eElem A1 c1 p0) :
 Calls Tryz.prog 92 #[.slice A1 p0.length c1, .int .i64 p1, .int .i64 p2, .string p3, .int .i64 p4] w (Post (vT3 (vAg eElem) (vSc eInt) (vSc eBool)) r w) := by
 unfold dir_find at hF
 refine T.start (l := [.slice A1 p0.length c1, vi p1, vi p2, .string p3, vi p4]) Tryz.func92 rfl rfl rfl ?_
 refine T.seq (T.region ?_)
 let v7_ : List Value := [vi 0, vi 0, vi 0, vi 0, vi 0, .string (ByteArray.mk #[])]
 refine T.step (W1.np 44 v7_ (fun _ => by kernel_rfl) (fun b1 => ?_))
 refine T.p2 (vi 0) (.bool false) (fun _ => by kernel_rfl) (T.nil (T.seq (T.seq (T.region (T.p3 (.slice A1 p0.length c1) (vi (p0.length : Int)) (vi 0) (fun _ => by kernel_rfl) (T.nil ?_))))))
 obtain ⟨q1, hz1, hF⟩ := ob hF
 let i4_ : HObj := box b1 44 v7_
 refine T.mid (fun a w' => q1 = Sum.inl () ∧ ∃ (V2 : View), View.le (vw w) V2 ∧ Fr 58 [(10, pB b1 0)] a ∧ Hp w V2 (i4_ :: []) w') ?_ ?_
 ·
  refine T.block ?_
  refine T.iter (fun x1 a w' => ∃ (V1 : View), View.le (vw w) V1 ∧ Fr 58 [(1, vi p1), (2, vi p2), (3, .string p3), (4, vi p4), (10, pB b1 0), (18, .slice A1 p0.length c1), (19, vi (p0.length : Int)), (20, vi x1)] a ∧ Hp w V1 (i4_ :: []) w') hz1 ?_ ?_
  ·
   exact fun a w' hf hh => ⟨(vw w), vr, (Fr.sel hf rfl), (hh.sub (kp1 kp0))⟩
  rintro x1 y1 hY1 hr1 a w' ⟨V1, hV1, hf, hh⟩
  refine (?_ : T 58 w V1 (i4_ :: []) [(1, vi p1), (2, vi p2), (3, .string p3), (4, vi p4), (10, pB b1 0), (18, .slice A1 p0.length c1), (19, vi (p0.length : Int)), (20, vi x1)] _) a w' hf hh
  clear hf hh
  try dsimp only at hY1
  refine T.seq (T.region (T.pk (.bool (decide (x1 < (p0.length : Int)))) (fun _ => by kernel_rfl) (T.nil (T.seq ?_))))
  refine T.cond (decide (x1 < (p0.length : Int))) (by kernel_rfl) (by kernel_rfl) (fun hc1 => ?_) (fun hc1 => ?_)
  ·
   rw [hc1, cond_true] at hY1
   refine T.skip_code ?_
   obtain ⟨q2, hX1, hY1⟩ := ob hY1
   refine T.cut (fun a w' => q2 = Sum.inl () ∧ ∃ (V3 : View), View.le V1 V3 ∧ Fr 58 [(1, vi p1), (2, vi p2), (3, .string p3), (4, vi p4), (10, pB b1 0), (18, .slice A1 p0.length c1), (19, vi (p0.length : Int)), (20, vi x1)] a ∧ Hp w V3 (i4_ :: []) w') ?_ ?_
   ·
    refine T.block (T.seq (T.region ?_))
    obtain ⟨e1, hb1, hX1⟩ := ob hX1
    obtain ⟨hi1, hi2, hi3⟩ := idx_some hb1
    refine T.look (.pointer (some ((sadr A1).add (x1.toNat * 6)))) (by kernel_rfl) (fun w' hh => exec_indexAddr (e := 44) (s := 6) rfl rfl rfl (by kernel_rfl) (by kernel_rfl) hi1 hi2 ((SlOk.mono hs1 hV1).some_ hi3 (by decide))) ?_
    let v8_ : List Value := [vi e1.key.pfs, vi e1.key.obj, vi e1.key.off, vi e1.made, vi e1.gone, .string e1.val]
    let a9_ : Value := .agg #[vi e1.key.pfs, vi e1.key.obj, vi e1.key.off, vi e1.made, vi e1.gone, .string e1.val]
    refine T.look a9_ (by kernel_rfl) (fun w' hh => exec_loadN (cs := v8_) rfl rfl (by kernel_rfl) (by kernel_rfl) (fun j u hj => (hh.cell_view (SlOk.cellF (E := eElem) (SlOk.mono hs1 hV1) hi3 j (fun _ _ _ h => h) hj)))) ?_
    refine T.step (W1.np 44 v7_ (fun _ => by kernel_rfl) (fun b2 => ?_))
    let i5_ : HObj := box b2 44 v8_
    let t6_ : List HObj := i5_ :: i4_ :: []
    refine T.step (W1.st 0 v8_ t6_ v8_ (by rfl) rfl rfl rfl rfl rfl rfl (fun _ => by kernel_rfl) ?_)
    refine T.nil (T.seq ?_)
    obtain ⟨z1, hX2, hX1⟩ := ob hX1
    refine T.cut (fun a w' => ∃ (V4 : View), View.le V1 V4 ∧ Fr 58 [(1, vi p1), (2, vi p2), (3, .string p3), (4, vi p4), (10, pB b1 0), (14, pB b2 0), (18, .slice A1 p0.length c1), (19, vi (p0.length : Int)), (20, vi x1), (41, .bool z1)] a ∧ Hp w V4 t6_ w') ?_ ?_
    ·
     refine T.region (T.p2 (pB b2 0) (pB b2 0) (fun _ => by kernel_rfl) (T.look (vi e1.key.pfs) (by kernel_rfl) (ld1 0 rfl rfl (fun _ => by kernel_rfl) (by rfl) rfl) ?_))
     refine T.p3 (vi p1) (.bool (e1.key.pfs != p1)) (.bool (e1.key.pfs != p1)) (fun _ => by kernel_rfl) ?_
     cases hg1 : (e1.key.pfs != p1)
     ·
      skip
      rw [hg1, cond_false] at hX2
      refine T.p2 (pB b2 0) (pB b2 1) (fun _ => by kernel_rfl) (T.look (vi e1.key.obj) (by kernel_rfl) (ld1 0 rfl rfl (fun _ => by kernel_rfl) (by rfl) rfl) ?_)
      refine T.p4 (vi p2) (.bool (e1.key.obj != p2)) (.bool (e1.key.obj != p2)) (.bool (e1.key.obj != p2)) (fun _ => by kernel_rfl) ?_
      cases hg2 : (e1.key.obj != p2)
      ·
       skip
       rw [hg2, cond_false] at hX2
       refine T.look a9_ (by kernel_rfl) (ldN 0 rfl rfl (fun _ => by kernel_rfl) (by rfl) rfl) ?_
       refine T.pk (vi p4) (fun _ => by kernel_rfl) ?_
       obtain ⟨r1, hb2, hX2⟩ := ob hX2
       refine T.step (W1.call (vSc eBool) r1 63 #[a9_, vi p4] (by kernel_rfl) (fun _ => by kernel_rfl) (fun w' hh => elem_Live_l e1 p4 r1 hb2 w' ) ?_)
       intro u V5 hV5 hu
       obtain rfl := sureBool _ _ _ hu
       refine T.p2 (.bool (!r1)) (.bool (!r1)) (fun _ => by kernel_rfl) (T.nil ?_)
       cases hX2
       exact fun a w' hf hh => ⟨V5, hV5, (Fr.sel hf rfl), (hh.sub (kp1 (kp1 kp0)))⟩
      skip
      rw [hg2, cond_true] at hX2
      refine T.pass (by kernel_rfl) (by kernel_rfl) (T.pass (by kernel_rfl) (by kernel_rfl) (T.pass (by kernel_rfl) (by kernel_rfl) (T.pass (by kernel_rfl) (by kernel_rfl) (T.pk (.bool true) (fun _ => by kernel_rfl) (T.nil ?_)))))
      cases hX2
      exact fun a w' hf hh => ⟨V1, vr, (Fr.sel hf rfl), (hh.sub (kp1 (kp1 kp0)))⟩
     skip
     rw [hg1, cond_true] at hX2
     refine T.pass (by kernel_rfl) (by kernel_rfl) (T.pass (by kernel_rfl) (by kernel_rfl) (T.pass (by kernel_rfl) (by kernel_rfl) (T.pass (by kernel_rfl) (by kernel_rfl) (T.pass (by kernel_rfl) (by kernel_rfl) (T.p2 (.bool true) (.bool true) (fun _ => by kernel_rfl) (T.pass (by kernel_rfl) (by kernel_rfl) (T.pass (by kernel_rfl) (by kernel_rfl) (T.pass (by kernel_rfl) (by kernel_rfl) (T.pass (by kernel_rfl) (by kernel_rfl) (T.pk (.bool true) (fun _ => by kernel_rfl) (T.nil ?_)))))))))))
     cases hX2
     exact fun a w' hf hh => ⟨V1, vr, (Fr.sel hf rfl), (hh.sub (kp1 (kp1 kp0)))⟩
    rintro a w' ⟨V4, hV4, hf, hh⟩
    refine (?_ : T 58 w V4 t6_ [(1, vi p1), (2, vi p2), (3, .string p3), (4, vi p4), (10, pB b1 0), (14, pB b2 0), (18, .slice A1 p0.length c1), (19, vi (p0.length : Int)), (20, vi x1), (41, .bool z1)] _) a w' hf hh
    clear hf hh
    refine T.cond z1 (by kernel_rfl) (by kernel_rfl) (fun hc2 => ?_) (fun hc2 => ?_)
    ·
     rw [hc2, cond_true] at hX1
     refine T.exit ?_
     cases hX1
     exact fun a w' hf hh => ⟨rfl, V4, hV4, (Fr.sel hf rfl), (hh.sub (dr1 (kp1 kp0)))⟩
    rw [hc2, cond_false] at hX1
    refine T.skip_code ?_
    refine T.seq (T.region (T.look a9_ (by kernel_rfl) (ldN 0 rfl rfl (fun _ => by kernel_rfl) (by rfl) rfl) ?_))
    obtain ⟨r2, hb3, hX1⟩ := ob hX1
    refine T.step (W1.call (vT3 (vSc eStr) (vSc eInt) (vSc eBool)) r2 103 #[a9_] (by kernel_rfl) (fun _ => by kernel_rfl) (fun w' hh => dir_entry_l F e1 r2 hb3 w' (Glob.mono hGl (vt hh.base hh.view))) ?_)
    intro u V6 hV6 hu
    obtain rfl := (Sure.t3 sureStr sureInt sureBool) _ _ _ hu
    refine T.p7 (.tuple #[.string r2.1, vi r2.2.1, .bool r2.2.2]) (.string r2.1) (vi r2.2.1) (.bool r2.2.2) (.string r2.1) (vi r2.2.1) (.bool r2.2.2) (fun _ => by kernel_rfl) (T.nil ?_)
    refine T.cut (fun a w' => Fr 58 [(1, vi p1), (2, vi p2), (3, .string p3), (4, vi p4), (10, pB b1 0), (14, pB b2 0), (16, vi r2.2.1), (18, .slice A1 p0.length c1), (19, vi (p0.length : Int)), (20, vi x1), (53, .bool (r2.2.2 && (seq r2.1 p3)))] a ∧ Hp w V6 t6_ w') ?_ ?_
    ·
     refine T.region (T.p2 (.bool r2.2.2) (.bool r2.2.2) (fun _ => by kernel_rfl) ?_)
     cases hg3 : r2.2.2
     ·
      skip
      refine T.pass (by kernel_rfl) (by kernel_rfl) (T.pass (by kernel_rfl) (by kernel_rfl) (T.pass (by kernel_rfl) (by kernel_rfl) (T.pk (.bool false) (fun _ => by kernel_rfl) (T.nil ?_))))
      exact fun a w' hf hh => ⟨(Fr.sel hf rfl), (hh.sub (kp1 (kp1 kp0)))⟩
     skip
     refine T.p4 (.string r2.1) (.string p3) (.bool (seq r2.1 p3)) (.bool (seq r2.1 p3)) (fun _ => by kernel_rfl) (T.nil ?_)
     exact fun a w' hf hh => ⟨(Fr.sel hf rfl), (hh.sub (kp1 (kp1 kp0)))⟩
    rintro a w' ⟨hf, hh⟩
    refine (?_ : T 58 w V6 t6_ [(1, vi p1), (2, vi p2), (3, .string p3), (4, vi p4), (10, pB b1 0), (14, pB b2 0), (16, vi r2.2.1), (18, .slice A1 p0.length c1), (19, vi (p0.length : Int)), (20, vi x1), (53, .bool (r2.2.2 && (seq r2.1 p3)))] _) a w' hf hh
    clear hf hh
    refine T.cond (r2.2.2 && (seq r2.1 p3)) (by kernel_rfl) (by kernel_rfl) (fun hc3 => ?_) (fun hc3 => ?_)
    ·
     rw [hc3, cond_true] at hX1
     refine T.seq (T.region (T.look a9_ (by kernel_rfl) (ldN 0 rfl rfl (fun _ => by kernel_rfl) (by rfl) rfl) ?_))
     refine T.pk (vi r2.2.1) (fun _ => by kernel_rfl) (T.step (W1.st 1 v8_ (i5_ :: (box b1 44 v8_) :: []) v8_ (by rfl) rfl rfl rfl rfl rfl rfl (fun _ => by kernel_rfl) ?_))
     refine T.p2 (vi r2.2.1) (.bool true) (fun _ => by kernel_rfl) (T.nil ?_)
     cases hX1
     try dsimp only at hY1
     cases hY1
     cases (hr1 _ rfl)
     try dsimp only at hF
     cases hF
     refine T.ret rfl ?_
     exact T.ret3 rfl (ResIs.cellN 1 rfl (by rfl) (fun _ => by kernel_rfl) (fun _ => by kernel_rfl)) (ResIs.tmp rfl) (ResIs.tmp rfl) fun w' hh => ⟨_, rfl, hh.below, (vT3.mk (vAg.mk rfl) (show _ from rfl) (show _ from rfl))⟩
    rw [hc3, cond_false] at hX1
    refine T.skip_code ?_
    cases hX1
    exact fun a w' hf hh => ⟨rfl, V6, (vt hV4 hV6), (Fr.sel hf rfl), (hh.sub (dr1 (kp1 kp0)))⟩
   rintro a w' ⟨rfl, V3, hV3, hf, hh⟩
   try dsimp only at hY1
   refine (?_ : T 58 w V3 (i4_ :: []) [(1, vi p1), (2, vi p2), (3, .string p3), (4, vi p4), (10, pB b1 0), (18, .slice A1 p0.length c1), (19, vi (p0.length : Int)), (20, vi x1)] _) a w' hf hh
   clear hf hh
   refine T.region (T.p2 (vi (IntKind.i64.wrap (x1 + 1))) (vi (IntKind.i64.wrap (x1 + 1))) (fun _ => by kernel_rfl) (T.nil ?_))
   cases hY1
   exact fun a w' hf hh => ⟨(IntKind.i64.wrap (x1 + 1)), rfl, V3, (vt hV1 hV3), (Fr.sel hf rfl), (hh.sub (kp1 kp0))⟩
  rw [hc1, cond_false] at hY1
  refine T.exit ?_
  cases hY1
  cases (hr1 _ rfl)
  exact fun a w' hf hh => ⟨rfl, V1, hV1, (Fr.sel hf rfl), (hh.sub (kp1 kp0))⟩
 rintro a w' ⟨rfl, V2, hV2, hf, hh⟩
 try dsimp only at hF
 refine (?_ : T 58 w V2 (i4_ :: []) [(10, pB b1 0)] _) a w' hf hh
 clear hf hh
 refine T.seq (T.region (T.pk (.agg #[vi 0, vi 0, vi 0, vi 0, vi 0, .string (ByteArray.mk #[])]) (fun _ => by kernel_rfl) (T.step (W1.st 0 v7_ (i4_ :: []) v7_ (by rfl) rfl rfl rfl rfl rfl rfl (fun _ => by kernel_rfl) ?_))))
 refine T.p2 (vi 0) (.bool false) (fun _ => by kernel_rfl) (T.nil ?_)
 cases hF
 refine T.ret rfl ?_
 exact T.ret3 rfl (ResIs.cellN 0 rfl (by rfl) (fun _ => by kernel_rfl) (fun _ => by kernel_rfl)) (ResIs.tmp rfl) (ResIs.tmp rfl) fun w' hh => ⟨_, rfl, hh.below, (vT3.mk (vAg.mk rfl) (show _ from rfl) (show _ from rfl))⟩
set_option maxRecDepth 100000 in
set_option maxHeartbeats 4000000 in
theorem dir_Find_l (F : Nat) (p0 : (List DElem)) (p1 : Int) (p2 : Int) (p3 : ByteArray) (p4 : Int) (r : Int × Int) (hF : dir_Find F p0 p1 p2 p3 p4 = some r) (w : World) (hGl : Glob w) (A1 : Option Addr) (c1 : Nat) (hs1 : SlOk (vw w) eElem A1 c1 p0) :
 Calls Tryz.prog 88 #[.slice A1 p0.length c1, .int .i64 p1, .int .i64 p2, .string p3, .int .i64 p4] w (Post (vT2 (vSc eInt) (vSc eInt)) r w) := by
 unfold dir_Find at hF
 refine T.start (l := [.slice A1 p0.length c1, vi p1, vi p2, .string p3, vi p4]) Tryz.func88 rfl rfl rfl ?_
 refine T.seq (T.region (T.p2 (vi 0) (vi 0) (fun _ => by kernel_rfl) (T.nil (T.seq (T.seq (T.region (T.p3 (.slice A1 p0.length c1) (vi p1) (vi p2) (fun _ => by kernel_rfl) ?_)))))))
 obtain ⟨r1, hb1, hF⟩ := ob hF
 refine T.step (W1.call (vSc eInt) r1 90 #[.slice A1 p0.length c1, vi p1, vi p2] (by kernel_rfl) (fun _ => by kernel_rfl) (fun w' hh => dir_look_l F p0 p1 p2 r1 hb1 w' A1 c1 (SlOk.mono hs1 hh.view)) ?_)
 intro u V1 hV1 hu
 obtain rfl := sureInt _ _ _ hu
 refine T.pk (vi r1) (fun _ => by kernel_rfl) (T.nil (T.seq (T.region (T.p2 (vi r1) (.bool (r1 != 0)) (fun _ => by kernel_rfl) (T.nil ?_)))))
 refine T.cond (r1 != 0) (by kernel_rfl) (by kernel_rfl) (fun hc1 => ?_) (fun hc1 => ?_)
 ·
  rw [hc1, cond_true] at hF
  refine T.seq (T.region (T.p3 (vi r1) (vi 0) (vi r1) (fun _ => by kernel_rfl) (T.nil ?_)))
  cases hF
  refine T.ret rfl ?_
  exact T.ret2 rfl (ResIs.tmp rfl) (ResIs.tmp rfl) fun w' hh => ⟨_, rfl, hh.below, (vT2.mk (show _ from rfl) (show _ from rfl))⟩
 rw [hc1, cond_false] at hF
 refine T.skip_code ?_
 refine T.seq (T.seq (T.region (T.pk (.string p3) (fun _ => by kernel_rfl) ?_)))
 obtain ⟨r2, hb2, hF⟩ := ob hF
 refine T.step (W1.call (vSc eBool) r2 91 #[.string p3] (by kernel_rfl) (fun _ => by kernel_rfl) (fun w' hh => dir_Name_l F p3 r2 hb2 w' ) ?_)
 intro u V2 hV2 hu
 obtain rfl := sureBool _ _ _ hu
 refine T.pk (.bool (!r2)) (fun _ => by kernel_rfl) (T.nil ?_)
 refine T.cond (!r2) (by kernel_rfl) (by kernel_rfl) (fun hc2 => ?_) (fun hc2 => ?_)
 ·
  rw [hc2, cond_true] at hF
  refine T.seq (T.region (T.p2 (vi 0) (vi 3) (fun _ => by kernel_rfl) (T.nil ?_)))
  cases hF
  refine T.ret rfl ?_
  exact T.ret2 rfl (ResIs.tmp rfl) (ResIs.tmp rfl) fun w' hh => ⟨_, rfl, hh.below, (vT2.mk (show _ from rfl) (show _ from rfl))⟩
 rw [hc2, cond_false] at hF
 refine T.skip_code ?_
 refine T.seq (T.region (T.p5 (.slice A1 p0.length c1) (vi p1) (vi p2) (.string p3) (vi p4) (fun _ => by kernel_rfl) ?_))
 obtain ⟨r3, hb3, hF⟩ := ob hF
 refine T.step (W1.call (vT3 (vAg eElem) (vSc eInt) (vSc eBool)) r3 92 #[.slice A1 p0.length c1, vi p1, vi p2, .string p3, vi p4] (by kernel_rfl) (fun _ => by kernel_rfl) (fun w' hh => dir_find_l F p0 p1 p2 p3 p4 r3 hb3 w' (Glob.mono hGl (vt hh.base hh.view)) A1 c1 (SlOk.mono (SlOk.mono hs1 (vt hV1 hV2)) hh.view)) ?_)
 intro u V3 hV3 hu
 obtain rfl := (Sure.t3 sureElem sureInt sureBool) _ _ _ hu
 refine T.p4 (.tuple #[.agg #[vi r3.1.key.pfs, vi r3.1.key.obj, vi r3.1.key.off, vi r3.1.made, vi r3.1.gone, .string r3.1.val], vi r3.2.1, .bool r3.2.2]) (.agg #[vi r3.1.key.pfs, vi r3.1.key.obj, vi r3.1.key.off, vi r3.1.made, vi r3.1.gone, .string r3.1.val]) (vi r3.2.1) (.bool r3.2.2) (fun _ => by kernel_rfl) (T.step (W1.np 44 [vi 0, vi 0, vi 0, vi 0, vi 0, .string (ByteArray.mk #[])] (fun _ => by kernel_rfl) (fun b1 => ?_)))
 let v10_ : List Value := [vi r3.1.key.pfs, vi r3.1.key.obj, vi r3.1.key.off, vi r3.1.made, vi r3.1.gone, .string r3.1.val]
 refine T.step (W1.st 0 v10_ ((box b1 44 v10_) :: []) v10_ (by rfl) rfl rfl rfl rfl rfl rfl (fun _ => by kernel_rfl) ?_)
 refine T.p2 (vi r3.2.1) (.bool r3.2.2) (fun _ => by kernel_rfl) (T.nil (T.seq (T.seq (T.region (T.p2 (.bool r3.2.2) (.bool (!r3.2.2)) (fun _ => by kernel_rfl) (T.nil ?_))))))
 refine T.cond (!r3.2.2) (by kernel_rfl) (by kernel_rfl) (fun hc3 => ?_) (fun hc3 => ?_)
 ·
  rw [hc3, cond_true] at hF
  refine T.seq (T.region (T.p2 (vi 0) (vi 4) (fun _ => by kernel_rfl) (T.nil ?_)))
  cases hF
  refine T.ret rfl ?_
  exact T.ret2 rfl (ResIs.tmp rfl) (ResIs.tmp rfl) fun w' hh => ⟨_, rfl, hh.below, (vT2.mk (show _ from rfl) (show _ from rfl))⟩
 rw [hc3, cond_false] at hF
 refine T.skip_code ?_
 refine T.seq (T.region (T.p3 (vi r3.2.1) (vi r3.2.1) (vi 0) (fun _ => by kernel_rfl) (T.nil ?_)))
 cases hF
 refine T.ret rfl ?_
 exact T.ret2 rfl (ResIs.tmp rfl) (ResIs.tmp rfl) fun w' hh => ⟨_, rfl, hh.below, (vT2.mk (show _ from rfl) (show _ from rfl))⟩
set_option maxRecDepth 100000 in
set_option maxHeartbeats 4000000 in
theorem dir_Add_l (F : Nat) (p0 : (List DElem)) (p1 : Int) (p2 : Int) (p3 : ByteArray) (p4 : Int) (p5 : Int) (r : ((List DElem)) × Int) (hF : dir_Add F p0 p1 p2 p3 p4 p5 = some r) (w : World) (hGl : Glob w) (A1 : Option Addr) (c1 : Nat) (hs1 : SlOk (vw w) eElem A1 c1 p0) :
 Calls Tryz.prog 57 #[.slice A1 p0.length c1, .int .i64 p1, .int .i64 p2, .string p3, .int .i64 p4, .int .i64 p5] w (Post (vT2 (vSc (eList eElem)) (vSc eInt)) r w) := by
 unfold dir_Add at hF
 refine T.start (l := [.slice A1 p0.length c1, vi p1, vi p2, .string p3, vi p4, vi p5]) Tryz.func57 rfl rfl rfl ?_
 refine T.seq (T.region (T.p2 sN (vi 0) (fun _ => by kernel_rfl) (T.nil (T.seq (T.seq (T.region (T.p3 (.slice A1 p0.length c1) (vi p1) (vi p2) (fun _ => by kernel_rfl) ?_)))))))
 obtain ⟨r1, hb1, hF⟩ := ob hF
 refine T.step (W1.call (vSc eInt) r1 90 #[.slice A1 p0.length c1, vi p1, vi p2] (by kernel_rfl) (fun _ => by kernel_rfl) (fun w' hh => dir_look_l F p0 p1 p2 r1 hb1 w' A1 c1 (SlOk.mono hs1 hh.view)) ?_)
 intro u V1 hV1 hu
 obtain rfl := sureInt _ _ _ hu
 refine T.pk (vi r1) (fun _ => by kernel_rfl) (T.nil (T.seq (T.region (T.p2 (vi r1) (.bool (r1 != 0)) (fun _ => by kernel_rfl) (T.nil ?_)))))
 refine T.cond (r1 != 0) (by kernel_rfl) (by kernel_rfl) (fun hc1 => ?_) (fun hc1 => ?_)
 ·
  rw [hc1, cond_true] at hF
  refine T.seq (T.region (T.p3 (vi r1) sN (vi r1) (fun _ => by kernel_rfl) (T.nil ?_)))
  cases hF
  refine T.ret rfl ?_
  exact T.ret2 rfl (ResIs.tmp rfl) (ResIs.tmp rfl) fun w' hh => ⟨_, rfl, hh.below, (vT2.mk ⟨_, _, rfl, (SlOk.nil _ _)⟩ (show _ from rfl))⟩
 rw [hc1, cond_false] at hF
 refine T.skip_code ?_
 refine T.seq (T.seq (T.region (T.pk (.string p3) (fun _ => by kernel_rfl) ?_)))
 obtain ⟨r2, hb2, hF⟩ := ob hF
 refine T.step (W1.call (vSc eBool) r2 91 #[.string p3] (by kernel_rfl) (fun _ => by kernel_rfl) (fun w' hh => dir_Name_l F p3 r2 hb2 w' ) ?_)
 intro u V2 hV2 hu
 obtain rfl := sureBool _ _ _ hu
 refine T.pk (.bool (!r2)) (fun _ => by kernel_rfl) (T.nil ?_)
 refine T.cond (!r2) (by kernel_rfl) (by kernel_rfl) (fun hc2 => ?_) (fun hc2 => ?_)
 ·
  rw [hc2, cond_true] at hF
  refine T.seq (T.region (T.p2 sN (vi 3) (fun _ => by kernel_rfl) (T.nil ?_)))
  cases hF
  refine T.ret rfl ?_
  exact T.ret2 rfl (ResIs.tmp rfl) (ResIs.tmp rfl) fun w' hh => ⟨_, rfl, hh.below, (vT2.mk ⟨_, _, rfl, (SlOk.nil _ _)⟩ (show _ from rfl))⟩
 rw [hc2, cond_false] at hF
 refine T.skip_code ?_
 refine T.seq ?_
 refine T.cut (fun a w' => Fr 76 [(0, .slice A1 p0.length c1), (1, vi p1), (2, vi p2), (3, .string p3), (4, vi p4), (5, vi p5), (37, .bool ((decide (p4 < 0)) || (decide ((1048576 : Int) < p4))))] a ∧ Hp w V2 [] w') ?_ ?_
 ·
  refine T.region (T.p3 (vi p4) (.bool (decide (p4 < 0))) (.bool (decide (p4 < 0))) (fun _ => by kernel_rfl) ?_)
  cases hg1 : decide (p4 < 0)
  ·
   skip
   refine T.p3 (vi p4) (.bool (decide ((1048576 : Int) < p4))) (.bool (decide ((1048576 : Int) < p4))) (fun _ => by kernel_rfl) (T.nil ?_)
   exact fun a w' hf hh => ⟨(Fr.sel hf rfl), (hh.sub List.Sublist.slnil)⟩
  skip
  refine T.pass (by kernel_rfl) (by kernel_rfl) (T.pass (by kernel_rfl) (by kernel_rfl) (T.pk (.bool true) (fun _ => by kernel_rfl) (T.nil ?_)))
  exact fun a w' hf hh => ⟨(Fr.sel hf rfl), (hh.sub List.Sublist.slnil)⟩
 rintro a w' ⟨hf, hh⟩
 refine (?_ : T 76 w V2 [] [(0, .slice A1 p0.length c1), (1, vi p1), (2, vi p2), (3, .string p3), (4, vi p4), (5, vi p5), (37, .bool ((decide (p4 < 0)) || (decide ((1048576 : Int) < p4))))] _) a w' hf hh
 clear hf hh
 refine T.cond ((decide (p4 < 0)) || (decide ((1048576 : Int) < p4))) (by kernel_rfl) (by kernel_rfl) (fun hc3 => ?_) (fun hc3 => ?_)
 ·
  rw [hc3, cond_true] at hF
  refine T.seq (T.region (T.p2 sN (vi 1) (fun _ => by kernel_rfl) (T.nil ?_)))
  cases hF
  refine T.ret rfl ?_
  exact T.ret2 rfl (ResIs.tmp rfl) (ResIs.tmp rfl) fun w' hh => ⟨_, rfl, hh.below, (vT2.mk ⟨_, _, rfl, (SlOk.nil _ _)⟩ (show _ from rfl))⟩
 rw [hc3, cond_false] at hF
 refine T.skip_code ?_
 refine T.seq (T.seq (T.region (T.p4 (.slice A1 p0.length c1) (vi p1) (vi p2) (.string p3) (fun _ => by kernel_rfl) ?_)))
 obtain ⟨r3, hb3, hF⟩ := ob hF
 refine T.step (W1.call (vT3 (vAg eElem) (vSc eInt) (vSc eBool)) r3 92 #[.slice A1 p0.length c1, vi p1, vi p2, .string p3, vi 2147483647] (by kernel_rfl) (fun _ => by kernel_rfl) (fun w' hh => dir_find_l F p0 p1 p2 p3 2147483647 r3 hb3 w' (Glob.mono hGl (vt hh.base hh.view)) A1 c1 (SlOk.mono (SlOk.mono hs1 (vt hV1 hV2)) hh.view)) ?_)
 intro u V3 hV3 hu
 obtain rfl := (Sure.t3 sureElem sureInt sureBool) _ _ _ hu
 refine T.p4 (.tuple #[.agg #[vi r3.1.key.pfs, vi r3.1.key.obj, vi r3.1.key.off, vi r3.1.made, vi r3.1.gone, .string r3.1.val], vi r3.2.1, .bool r3.2.2]) (.agg #[vi r3.1.key.pfs, vi r3.1.key.obj, vi r3.1.key.off, vi r3.1.made, vi r3.1.gone, .string r3.1.val]) (vi r3.2.1) (.bool r3.2.2) (fun _ => by kernel_rfl) ?_
 let v13_ : List Value := [vi 0, vi 0, vi 0, vi 0, vi 0, .string (ByteArray.mk #[])]
 refine T.step (W1.np 44 v13_ (fun _ => by kernel_rfl) (fun b1 => ?_))
 let v14_ : List Value := [vi r3.1.key.pfs, vi r3.1.key.obj, vi r3.1.key.off, vi r3.1.made, vi r3.1.gone, .string r3.1.val]
 refine T.step (W1.st 0 v14_ ((box b1 44 v14_) :: []) v14_ (by rfl) rfl rfl rfl rfl rfl rfl (fun _ => by kernel_rfl) ?_)
 refine T.p2 (vi r3.2.1) (.bool r3.2.2) (fun _ => by kernel_rfl) (T.nil (T.seq (T.region (T.pk (.bool r3.2.2) (fun _ => by kernel_rfl) (T.nil ?_)))))
 refine T.cond r3.2.2 (by kernel_rfl) (by kernel_rfl) (fun hc4 => ?_) (fun hc4 => ?_)
 ·
  rw [hc4, cond_true] at hF
  refine T.seq (T.region (T.p2 sN (vi 5) (fun _ => by kernel_rfl) (T.nil ?_)))
  cases hF
  refine T.ret rfl ?_
  exact T.ret2 rfl (ResIs.tmp rfl) (ResIs.tmp rfl) fun w' hh => ⟨_, rfl, hh.below, (vT2.mk ⟨_, _, rfl, (SlOk.nil _ _)⟩ (show _ from rfl))⟩
 rw [hc4, cond_false] at hF
 refine T.skip_code ?_
 refine T.seq (T.seq (T.region (T.pk (vi 0) (fun _ => by kernel_rfl) (T.nil ?_))))
 obtain ⟨q1, hz1, hF⟩ := ob hF
 refine T.mid (fun a w' => q1 = Sum.inl () ∧ ∃ (V5 : View), View.le V3 V5 ∧ Fr 76 [] a ∧ Hp w V5 [] w') ?_ ?_
 ·
  refine T.block ?_
  refine T.iter (fun x1 a w' => ∃ (V4 : View), View.le V3 V4 ∧ Fr 76 [(0, .slice A1 p0.length c1), (1, vi p1), (2, vi p2), (3, .string p3), (4, vi p4), (5, vi p5), (48, vi x1)] a ∧ Hp w V4 [] w') hz1 ?_ ?_
  ·
   exact fun a w' hf hh => ⟨V3, vr, (Fr.sel hf rfl), (hh.sub (dr1 kp0))⟩
  rintro x1 y1 hY1 hr1 a w' ⟨V4, hV4, hf, hh⟩
  refine (?_ : T 76 w V4 [] [(0, .slice A1 p0.length c1), (1, vi p1), (2, vi p2), (3, .string p3), (4, vi p4), (5, vi p5), (48, vi x1)] _) a w' hf hh
  clear hf hh
  try dsimp only at hY1
  refine T.seq (T.region (T.pk (.bool (decide (x1 < 8))) (fun _ => by kernel_rfl) (T.nil (T.seq ?_))))
  refine T.cond (decide (x1 < 8)) (by kernel_rfl) (by kernel_rfl) (fun hc5 => ?_) (fun hc5 => ?_)
  ·
   rw [hc5, cond_true] at hY1
   refine T.skip_code ?_
   refine T.seq (T.block (T.seq (T.region (T.p2 (vi x1) (vi x1) (fun _ => by kernel_rfl) (T.nil (T.seq (T.region (T.p4 (vi p1) (vi p2) (.string p3) (vi x1) (fun _ => by kernel_rfl) ?_))))))))
   obtain ⟨r4, hb4, hY1⟩ := ob hY1
   refine T.step (W1.call (vAg eKey) r4 93 #[vi p1, vi p2, .string p3, vi x1] (by kernel_rfl) (fun _ => by kernel_rfl) (fun w' hh => dir_slot_l F p1 p2 p3 x1 r4 hb4 w' ) ?_)
   intro u V6 hV6 hu
   obtain rfl := sureKey _ _ _ hu
   refine T.step (W1.np 42 [vi 0, vi 0, vi 0] (fun _ => by kernel_rfl) (fun b2 => ?_))
   let v15_ : List Value := [vi r4.pfs, vi r4.obj, vi r4.off]
   let i11_ : HObj := box b2 42 v15_
   refine T.step (W1.st 0 v15_ (i11_ :: []) v15_ (by rfl) rfl rfl rfl rfl rfl rfl (fun _ => by kernel_rfl) ?_)
   refine T.nil (T.seq (T.region (T.pk (.slice A1 p0.length c1) (fun _ => by kernel_rfl) ?_)))
   let a17_ : Value := .agg #[vi r4.pfs, vi r4.obj, vi r4.off]
   refine T.look a17_ (by kernel_rfl) (ldN 0 rfl rfl (fun _ => by kernel_rfl) (by rfl) rfl) ?_
   obtain ⟨r5, hb5, hY1⟩ := ob hY1
   refine T.step (W1.call (vT2 (vAg eElem) (vSc eInt)) r5 94 #[.slice A1 p0.length c1, a17_, vi 2147483647] (by kernel_rfl) (fun _ => by kernel_rfl) (fun w' hh => run_At_l F p0 r4 2147483647 r5 hb5 w' A1 c1 (SlOk.mono (SlOk.mono hs1 (vt (vt (vt (vt hV1 hV2) hV3) hV4) hV6)) hh.view)) ?_)
   intro u V7 hV7 hu
   obtain rfl := (Sure.t2 sureElem sureInt) _ _ _ hu
   refine T.p3 (.tuple #[.agg #[vi r5.1.key.pfs, vi r5.1.key.obj, vi r5.1.key.off, vi r5.1.made, vi r5.1.gone, .string r5.1.val], vi r5.2]) (.agg #[vi r5.1.key.pfs, vi r5.1.key.obj, vi r5.1.key.off, vi r5.1.made, vi r5.1.gone, .string r5.1.val]) (vi r5.2) (fun _ => by kernel_rfl) (T.step (W1.np 44 v13_ (fun _ => by kernel_rfl) (fun b3 => ?_)))
   let v16_ : List Value := [vi r5.1.key.pfs, vi r5.1.key.obj, vi r5.1.key.off, vi r5.1.made, vi r5.1.gone, .string r5.1.val]
   let i12_ : HObj := box b3 44 v16_
   refine T.step (W1.st 0 v16_ (i12_ :: i11_ :: []) v16_ (by rfl) rfl rfl rfl rfl rfl rfl (fun _ => by kernel_rfl) ?_)
   refine T.pk (vi r5.2) (fun _ => by kernel_rfl) (T.nil (T.seq (T.region (T.p2 (vi r5.2) (.bool (r5.2 == 4)) (fun _ => by kernel_rfl) (T.nil ?_)))))
   refine T.cond (r5.2 == 4) (by kernel_rfl) (by kernel_rfl) (fun hc6 => ?_) (fun hc6 => ?_)
   ·
    rw [hc6, cond_true] at hY1
    refine T.seq ?_
    refine T.held (i12_ :: i11_ :: []) (by kernel_rfl) ?_
    have w18_ := vt (vt (vt (vt (vt hV1 hV2) hV3) hV4) hV6) hV7
    refine TA.keep (Hp.old vr w18_ (kp1 (kp1 kp0)) (oB1 (oB1 ol0))) fun o19_ => ?_
    refine TA.tp 0 (.slice A1 p0.length c1) rfl (fun _ => by kernel_rfl) (fun _ _ _ h => h) o19_ ?_
    refine TA.tk 1 a17_ rfl (by kernel_rfl) (fun _ _ _ h => h) o19_ (ldN 1 rfl rfl (fun _ => by kernel_rfl) (by rfl) rfl) ?_
    refine TA.tp 2 (vi p4) rfl (fun _ => by kernel_rfl) (fun _ _ _ h => h) o19_ ?_
    refine TA.tp 5 (.string p3) rfl (fun _ => by kernel_rfl) (fun _ _ _ h => h) o19_ ?_
    refine TA.tp 7 (vi p5) rfl (fun _ => by kernel_rfl) (fun _ _ _ h => h) o19_ ?_
    refine TA.all [3] (by kernel_rfl) rfl ⟨?_, trivial⟩
    obtain ⟨r6, hb6, hY1⟩ := ob hY1
    refine TA.br rfl (W1.call (vSc eStr) r6 95 #[vi p4] (by kernel_rfl) (fun _ => by kernel_rfl) (fun w' hh => strconv_Itoa_l p4 r6 hb6 w' (Glob.mono hGl (vt hh.base hh.view))) ?_)
    intro u V8 hV8 hu
    obtain rfl := sureStr _ _ _ hu
    refine TA.onk (Hp.old hV8 w18_ (kp1 (kp1 kp0)) (oB1 (oB1 ol0))) fun o20_ => ?_
    obtain ⟨s1, hb7, hY1⟩ := ob hY1
    refine TA.tk 4 (.string s1) rfl (by kernel_rfl) (fun _ _ _ h => h) o20_ (fun w' hh => exec_scat rfl rfl rfl hb7) ?_
    obtain ⟨s2, hb8, hY1⟩ := ob hY1
    refine TA.tk 6 (.string s2) rfl (by kernel_rfl) (fun _ _ _ h => h) o20_ (fun w' hh => exec_scat rfl rfl rfl hb8) ?_
    refine TA.all [8] (by kernel_rfl) rfl ⟨?_, trivial⟩
    obtain ⟨r7, hb9, hY1⟩ := ob hY1
    refine TA.br rfl (W1.call (vT2 (vSc (eList eElem)) (vSc eInt)) r7 79 #[.slice A1 p0.length c1, a17_, .string s2, vi p5] (by kernel_rfl) (fun _ => by kernel_rfl) (fun w' hh => run_Put_l F p0 r4 s2 p5 r7 hb9 w' A1 c1 (SlOk.mono (SlOk.mono hs1 (vt (vt (vt (vt (vt (vt hV1 hV2) hV3) hV4) hV6) hV7) hV8)) hh.view)) ?_)
    intro u V9 hV9 hu
    obtain ⟨u1, u2, rfl, hu1, hu2⟩ := vT2_elim hu
    obtain ⟨A2, c2, rfl, hs2⟩ := vlist_elim hu1
    obtain rfl := sureInt _ _ _ hu2
    refine TA.onk (Hp.old (vt hV8 hV9) w18_ (kp1 (kp1 kp0)) (oB1 (oB1 ol0))) fun o21_ => ?_
    refine TA.tp 9 (.slice A2 r7.1.length c2) rfl (fun _ => by kernel_rfl) (fun _ _ _ h => h) o21_ ?_
    refine TA.tp 10 (vi r7.2) rfl (fun _ => by kernel_rfl) (fun _ _ _ h => h) o21_ ?_
    refine TA.tp 11 (.slice A2 r7.1.length c2) rfl (fun _ => by kernel_rfl) (fun _ _ _ h => h) o21_ ?_
    refine TA.tp 12 (vi r7.2) rfl (fun _ => by kernel_rfl) (fun _ _ _ h => h) o21_ ?_
    refine TA.done (by kernel_rfl) ?_
    cases hY1
    cases (hr1 _ rfl)
    try dsimp only at hF
    cases hF
    refine T.ret rfl ?_
    exact T.ret2 rfl (ResIs.tmp rfl) (ResIs.tmp rfl) fun w' hh => ⟨_, rfl, hh.below, (vT2.mk ⟨_, _, rfl, (SlOk.mono hs2 (vt (made_mono vr) (made_fresh hh)))⟩ (show _ from rfl))⟩
   rw [hc6, cond_false] at hY1
   refine T.skip_code ?_
   refine T.region (T.p2 (vi (IntKind.i64.wrap (x1 + 1))) (vi (IntKind.i64.wrap (x1 + 1))) (fun _ => by kernel_rfl) (T.nil ?_))
   cases hY1
   exact fun a w' hf hh => ⟨(IntKind.i64.wrap (x1 + 1)), rfl, V7, (vt (vt hV4 hV6) hV7), (Fr.sel hf rfl), (hh.sub (dr1 (dr1 kp0)))⟩
  rw [hc5, cond_false] at hY1
  refine T.exit ?_
  cases hY1
  cases (hr1 _ rfl)
  exact fun a w' hf hh => ⟨rfl, V4, hV4, (Fr.nil hf), (hh.sub List.Sublist.slnil)⟩
 rintro a w' ⟨rfl, V5, hV5, hf, hh⟩
 try dsimp only at hF
 refine (?_ : T 76 w V5 [] [] _) a w' hf hh
 clear hf hh
 refine T.seq (T.region (T.p2 sN (vi 8) (fun _ => by kernel_rfl) (T.nil ?_)))
 cases hF
 refine T.ret rfl ?_
 exact T.ret2 rfl (ResIs.tmp rfl) (ResIs.tmp rfl) fun w' hh => ⟨_, rfl, hh.below, (vT2.mk ⟨_, _, rfl, (SlOk.nil _ _)⟩ (show _ from rfl))⟩
end Go.Proofs.YtacjdfhllomccaaGreatDoor
