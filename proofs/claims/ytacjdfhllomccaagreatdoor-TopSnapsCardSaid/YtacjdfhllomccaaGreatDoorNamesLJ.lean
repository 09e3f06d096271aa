/- Pure functions, written by walkgen.py out of the Go functions of group LibP. Their conditions: none. -/
import Derived.Test.YtacjdfhllomccaaGreatDoorLibFJ
import Derived.Test.YtacjdfhllomccaaGreatDoorMapJ
import Derived.Test.YtacjdfhllomccaaGreatDoorSh2J
import Derived.Test.YtacjdfhllomccaaGreatDoorLibLJ
import Derived.Test.YtacjdfhllomccaaGreatDoorEqLJ
import Derived.Test.YtacjdfhllomccaaGreatDoorDirFJ
import Derived.Test.YtacjdfhllomccaaGreatDoorLibDLJ
import Derived.Test.YtacjdfhllomccaaGreatDoorDirLJ
namespace Go.Proofs.YtacjdfhllomccaaGreatDoor
set_option linter.unusedVariables false
def internal_stringslite_HasPrefix (p0 : ByteArray) (p1 : ByteArray) : Option (Bool) :=
 (
  bif decide ((p1.size : Int) ≤ (p0.size : Int)) then
   (sslice p0 0 (p1.size : Int)).bind fun s1 =>
   some (seq s1 p1)
   else
    some false : Option (Bool)).bind fun z1 =>
 some z1
def strings_HasPrefix (p0 : ByteArray) (p1 : ByteArray) : Option (Bool) :=
 (internal_stringslite_HasPrefix p0 p1).bind fun r1 =>
 some r1
end Go.Proofs.YtacjdfhllomccaaGreatDoor
/- The Go functions of group LibP compute the pure functions of that group: written by walkgen.py. Condition of each: the pure function yields a result. -/
namespace Go.Proofs.YtacjdfhllomccaaGreatDoor
set_option linter.unusedVariables false
set_option maxRecDepth 100000 in
set_option maxHeartbeats 4000000 in
theorem internal_stringslite_HasPrefix_l (p0 : ByteArray) (p1 : ByteArray) (r : Bool) (hF : internal_stringslite_HasPrefix p0 p1 = some r) (w : World)  :
 Calls Tryz.prog 68 #[.string p0, .string p1] w (Post (vSc eBool) r w) := by
 unfold internal_stringslite_HasPrefix at hF
 refine T.start (l := [.string p0, .string p1]) Tryz.func68 rfl rfl rfl ?_
 refine T.seq (T.region (T.pk (.bool false) (fun _ => by kernel_rfl) (T.nil ?_)))
 obtain ⟨z1, hX1, hF⟩ := ob hF
 refine T.cut (fun a w' => Fr 18 [(4, .bool z1)] a ∧ Hp w (vw w) [] w') ?_ ?_
 ·
  refine T.region (T.p6 (.string p0) (vi (p0.size : Int)) (.string p1) (vi (p1.size : Int)) (.bool (decide ((p1.size : Int) ≤ (p0.size : Int)))) (.bool (decide ((p1.size : Int) ≤ (p0.size : Int)))) (fun _ => by kernel_rfl) ?_)
  cases hg1 : decide ((p1.size : Int) ≤ (p0.size : Int))
  ·
   skip
   rw [hg1, cond_false] at hX1
   refine T.pass (by kernel_rfl) (by kernel_rfl) (T.pass (by kernel_rfl) (by kernel_rfl) (T.pass (by kernel_rfl) (by kernel_rfl) (T.pass (by kernel_rfl) (by kernel_rfl) (T.pass (by kernel_rfl) (by kernel_rfl) (T.pass (by kernel_rfl) (by kernel_rfl) (T.p2 (.bool false) (.bool false) (fun _ => by kernel_rfl) (T.nil ?_)))))))
   cases hX1
   exact fun a w' hf hh => ⟨(Fr.sel hf rfl), (hh.sub List.Sublist.slnil)⟩
  skip
  rw [hg1, cond_true] at hX1
  refine T.p3 (.string p0) (.string p1) (vi (p1.size : Int)) (fun _ => by kernel_rfl) ?_
  obtain ⟨s1, hb1, hX1⟩ := ob hX1
  refine T.look (.string s1) (by kernel_rfl) (fun w' hh => exec_slice_str_hi rfl rfl rfl (by kernel_rfl) hb1) ?_
  refine T.p4 (.string p1) (.bool (seq s1 p1)) (.bool (seq s1 p1)) (.bool (seq s1 p1)) (fun _ => by kernel_rfl) (T.nil ?_)
  cases hX1
  exact fun a w' hf hh => ⟨(Fr.sel hf rfl), (hh.sub List.Sublist.slnil)⟩
 rintro a w' ⟨hf, hh⟩
 refine (?_ : T 18 w (vw w) [] [(4, .bool z1)] _) a w' hf hh
 clear hf hh
 cases hF
 refine T.ret rfl ?_
 exact T.ret1 rfl (ResIs.tmp rfl) fun w' hh => ⟨_, rfl, hh.below, (show _ from rfl)⟩
set_option maxRecDepth 100000 in
set_option maxHeartbeats 4000000 in
theorem strings_HasPrefix_l (p0 : ByteArray) (p1 : ByteArray) (r : Bool) (hF : strings_HasPrefix p0 p1 = some r) (w : World)  :
 Calls Tryz.prog 31 #[.string p0, .string p1] w (Post (vSc eBool) r w) := by
 unfold strings_HasPrefix at hF
 refine T.start (l := [.string p0, .string p1]) Tryz.func31 rfl rfl rfl ?_
 refine T.seq (T.region (T.pk (.bool false) (fun _ => by kernel_rfl) (T.nil (T.seq (T.region (T.p2 (.string p0) (.string p1) (fun _ => by kernel_rfl) ?_))))))
 obtain ⟨r1, hb1, hF⟩ := ob hF
 refine T.step (W1.call (vSc eBool) r1 68 #[.string p0, .string p1] (by kernel_rfl) (fun _ => by kernel_rfl) (fun w' hh => internal_stringslite_HasPrefix_l p0 p1 r1 hb1 w' ) ?_)
 intro u V1 hV1 hu
 obtain rfl := sureBool _ _ _ hu
 refine T.pk (.bool r1) (fun _ => by kernel_rfl) (T.nil ?_)
 cases hF
 refine T.ret rfl ?_
 exact T.ret1 rfl (ResIs.tmp rfl) fun w' hh => ⟨_, rfl, hh.below, (show _ from rfl)⟩
end Go.Proofs.YtacjdfhllomccaaGreatDoor
/- Pure functions, written by walkgen.py out of the Go functions of group Names. Their conditions: none. -/
namespace Go.Proofs.YtacjdfhllomccaaGreatDoor
set_option linter.unusedVariables false
def fs_names (F : Nat) (p0 : ByteArray) : Option (((List ByteArray)) × Int) :=
 bif (seq p0 (ByteArray.mk #[47])) then
  some ([], 0)
 else
  (strings_HasPrefix p0 (ByteArray.mk #[47])).bind fun r1 =>
  bif (!r1) then
   some ([], 3)
  else
   (sslice p0 1 (p0.size : Int)).bind fun s1 =>
   (strings_Split s1 (ByteArray.mk #[47])).bind fun r2 =>
   (iter (σ := Int) (ρ := (Unit) ⊕ (((List ByteArray)) × Int)) (fun x1 =>
    bif decide (x1 < (r2.length : Int)) then
     (idx r2 x1).bind fun e1 =>
     (dir_Name F e1).bind fun r3 =>
     bif (!r3) then
      some (.inr (.inr ([], 3)))
     else
      some (.inl (IntKind.i64.wrap (x1 + 1)))
     else
      some (.inr (.inl ()))) F 0).bind fun z => match z with
    | .inl _ =>
     bif decide ((6 : Int) < (r2.length : Int)) then
      some ([], 2)
     else
      some (r2, 0)
    | .inr q => some q
end Go.Proofs.YtacjdfhllomccaaGreatDoor
/- The Go functions of group Names compute the pure functions of that group: written by walkgen.py. Condition of each: the pure function yields a result. -/
namespace Go.Proofs.YtacjdfhllomccaaGreatDoor
set_option linter.unusedVariables false
set_option maxRecDepth 100000 in
set_option maxHeartbeats 4000000 in
theorem fs_names_l (F : Nat) (p0 : ByteArray) (r : ((List ByteArray)) × Int) (hF : fs_names F p0 = some r) (w : World) (hGl : Glob w) :
 Calls Tryz.prog 86 #[.string p0] w (Post (vT2 (vSc (eList eStr)) (vSc eInt)) r w) := by
 unfold fs_names at hF
 refine T.start (l := [.string p0]) Tryz.func86 rfl rfl rfl ?_
 refine T.seq (T.region (T.p2 sN (vi 0) (fun _ => by kernel_rfl) (T.nil (T.seq (T.seq (T.region (T.p2 (.string p0) (.bool (seq p0 (ByteArray.mk #[47]))) (fun _ => by kernel_rfl) (T.nil ?_))))))))
 refine T.cond (seq p0 (ByteArray.mk #[47])) (by kernel_rfl) (by kernel_rfl) (fun hc1 => ?_) (fun hc1 => ?_)
 ·
  rw [hc1, cond_true] at hF
  refine T.seq (T.region (T.p2 sN (vi 0) (fun _ => by kernel_rfl) (T.nil ?_)))
  cases hF
  refine T.ret rfl ?_
  exact T.ret2 rfl (ResIs.tmp rfl) (ResIs.tmp rfl) fun w' hh => ⟨_, rfl, hh.below, (vT2.mk ⟨_, _, rfl, (SlOk.nil _ _)⟩ (show _ from rfl))⟩
 rw [hc1, cond_false] at hF
 refine T.skip_code ?_
 refine T.seq (T.seq (T.region (T.pk (.string p0) (fun _ => by kernel_rfl) ?_)))
 obtain ⟨r1, hb1, hF⟩ := ob hF
 refine T.step (W1.call (vSc eBool) r1 31 #[.string p0, .string (ByteArray.mk #[47])] (by kernel_rfl) (fun _ => by kernel_rfl) (fun w' hh => strings_HasPrefix_l p0 (ByteArray.mk #[47]) r1 hb1 w' ) ?_)
 intro u V1 hV1 hu
 obtain rfl := sureBool _ _ _ hu
 refine T.pk (.bool (!r1)) (fun _ => by kernel_rfl) (T.nil ?_)
 refine T.cond (!r1) (by kernel_rfl) (by kernel_rfl) (fun hc2 => ?_) (fun hc2 => ?_)
 ·
  rw [hc2, cond_true] at hF
  refine T.seq (T.region (T.p2 sN (vi 3) (fun _ => by kernel_rfl) (T.nil ?_)))
  cases hF
  refine T.ret rfl ?_
  exact T.ret2 rfl (ResIs.tmp rfl) (ResIs.tmp rfl) fun w' hh => ⟨_, rfl, hh.below, (vT2.mk ⟨_, _, rfl, (SlOk.nil _ _)⟩ (show _ from rfl))⟩
 rw [hc2, cond_false] at hF
 refine T.skip_code ?_
 refine T.seq (T.region (T.pk (.string p0) (fun _ => by kernel_rfl) ?_))
 obtain ⟨s1, hb2, hF⟩ := ob hF
 refine T.look (.string s1) (by kernel_rfl) (fun w' hh => exec_slice_str_lo rfl rfl rfl (by kernel_rfl) hb2) ?_
 obtain ⟨r2, hb3, hF⟩ := ob hF
 refine T.step (W1.call (vSc (eList eStr)) r2 118 #[.string s1, .string (ByteArray.mk #[47])] (by kernel_rfl) (fun _ => by kernel_rfl) (fun w' hh => strings_Split_l s1 (ByteArray.mk #[47]) r2 hb3 w' (Glob.mono hGl (vt hh.base hh.view))) ?_)
 intro u V2 hV2 hu
 obtain ⟨A1, c1, rfl, hs1⟩ := vlist_elim hu
 refine T.pk (.slice A1 r2.length c1) (fun _ => by kernel_rfl) (T.nil (T.seq (T.seq (T.region (T.p3 (.slice A1 r2.length c1) (vi (r2.length : Int)) (vi 0) (fun _ => by kernel_rfl) (T.nil ?_))))))
 obtain ⟨q1, hz1, hF⟩ := ob hF
 refine T.mid (fun a w' => q1 = Sum.inl () ∧ ∃ (V4 : View), View.le V2 V4 ∧ Fr 29 [(4, .slice A1 r2.length c1)] a ∧ Hp w V4 [] w') ?_ ?_
 ·
  refine T.block ?_
  refine T.iter (fun x1 a w' => ∃ (V3 : View), View.le V2 V3 ∧ Fr 29 [(4, .slice A1 r2.length c1), (15, .slice A1 r2.length c1), (16, vi (r2.length : Int)), (17, vi x1)] a ∧ Hp w V3 [] w') hz1 ?_ ?_
  ·
   exact fun a w' hf hh => ⟨V2, vr, (Fr.sel hf rfl), (hh.sub List.Sublist.slnil)⟩
  rintro x1 y1 hY1 hr1 a w' ⟨V3, hV3, hf, hh⟩
  refine (?_ : T 29 w V3 [] [(4, .slice A1 r2.length c1), (15, .slice A1 r2.length c1), (16, vi (r2.length : Int)), (17, vi x1)] _) a w' hf hh
  clear hf hh
  try dsimp only at hY1
  refine T.seq (T.region (T.pk (.bool (decide (x1 < (r2.length : Int)))) (fun _ => by kernel_rfl) (T.nil (T.seq ?_))))
  refine T.cond (decide (x1 < (r2.length : Int))) (by kernel_rfl) (by kernel_rfl) (fun hc3 => ?_) (fun hc3 => ?_)
  ·
   rw [hc3, cond_true] at hY1
   refine T.skip_code ?_
   refine T.seq (T.block (T.seq (T.region ?_)))
   obtain ⟨e1, hb4, hY1⟩ := ob hY1
   obtain ⟨hi1, hi2, hi3⟩ := idx_some hb4
   refine T.look (.pointer (some ((sadr A1).add (x1.toNat * 1)))) (by kernel_rfl) (fun w' hh => exec_indexAddr (e := 9) (s := 1) rfl rfl rfl (by kernel_rfl) (by kernel_rfl) hi1 hi2 ((SlOk.mono hs1 (vt (made_le _ _) hV3)).some_ hi3 (by decide))) ?_
   refine T.look (.string e1) (by kernel_rfl) (fun w' hh => exec_load1 rfl rfl (by kernel_rfl) (hh.cell_view (SlOk.cellF0 (E := eStr) (SlOk.mono hs1 (vt (made_le _ _) hV3)) hi3 (fun _ _ _ h => h) rfl))) ?_
   refine T.pk (.string e1) (fun _ => by kernel_rfl) (T.nil (T.seq (T.region (T.pk (.string e1) (fun _ => by kernel_rfl) ?_))))
   obtain ⟨r3, hb5, hY1⟩ := ob hY1
   refine T.step (W1.call (vSc eBool) r3 91 #[.string e1] (by kernel_rfl) (fun _ => by kernel_rfl) (fun w' hh => dir_Name_l F e1 r3 hb5 w' ) ?_)
   intro u V5 hV5 hu
   obtain rfl := sureBool _ _ _ hu
   refine T.pk (.bool (!r3)) (fun _ => by kernel_rfl) (T.nil ?_)
   refine T.cond (!r3) (by kernel_rfl) (by kernel_rfl) (fun hc4 => ?_) (fun hc4 => ?_)
   ·
    rw [hc4, cond_true] at hY1
    refine T.seq (T.region (T.p2 sN (vi 3) (fun _ => by kernel_rfl) (T.nil ?_)))
    cases hY1
    cases (hr1 _ rfl)
    try dsimp only at hF
    cases hF
    refine T.ret rfl ?_
    exact T.ret2 rfl (ResIs.tmp rfl) (ResIs.tmp rfl) fun w' hh => ⟨_, rfl, hh.below, (vT2.mk ⟨_, _, rfl, (SlOk.nil _ _)⟩ (show _ from rfl))⟩
   rw [hc4, cond_false] at hY1
   refine T.skip_code ?_
   refine T.region (T.p2 (vi (IntKind.i64.wrap (x1 + 1))) (vi (IntKind.i64.wrap (x1 + 1))) (fun _ => by kernel_rfl) (T.nil ?_))
   cases hY1
   exact fun a w' hf hh => ⟨(IntKind.i64.wrap (x1 + 1)), rfl, V5, (vt hV3 hV5), (Fr.sel hf rfl), (hh.sub List.Sublist.slnil)⟩
  rw [hc3, cond_false] at hY1
  refine T.exit ?_
  cases hY1
  cases (hr1 _ rfl)
  exact fun a w' hf hh => ⟨rfl, V3, hV3, (Fr.sel hf rfl), (hh.sub List.Sublist.slnil)⟩
 rintro a w' ⟨rfl, V4, hV4, hf, hh⟩
 try dsimp only at hF
 refine (?_ : T 29 w V4 [] [(4, .slice A1 r2.length c1)] _) a w' hf hh
 clear hf hh
 refine T.seq (T.seq (T.region (T.p3 (.slice A1 r2.length c1) (vi (r2.length : Int)) (.bool (decide ((6 : Int) < (r2.length : Int)))) (fun _ => by kernel_rfl) (T.nil ?_))))
 refine T.cond (decide ((6 : Int) < (r2.length : Int))) (by kernel_rfl) (by kernel_rfl) (fun hc5 => ?_) (fun hc5 => ?_)
 ·
  rw [hc5, cond_true] at hF
  refine T.seq (T.region (T.p2 sN (vi 2) (fun _ => by kernel_rfl) (T.nil ?_)))
  cases hF
  refine T.ret rfl ?_
  exact T.ret2 rfl (ResIs.tmp rfl) (ResIs.tmp rfl) fun w' hh => ⟨_, rfl, hh.below, (vT2.mk ⟨_, _, rfl, (SlOk.nil _ _)⟩ (show _ from rfl))⟩
 rw [hc5, cond_false] at hF
 refine T.skip_code ?_
 refine T.seq (T.region (T.p3 (.slice A1 r2.length c1) (.slice A1 r2.length c1) (vi 0) (fun _ => by kernel_rfl) (T.nil ?_)))
 cases hF
 refine T.ret rfl ?_
 exact T.ret2 rfl (ResIs.tmp rfl) (ResIs.tmp rfl) fun w' hh => ⟨_, rfl, hh.below, (vT2.mk ⟨_, _, rfl, (SlOk.mono hs1 (vt (made_mono hV4) (made_fresh hh)))⟩ (show _ from rfl))⟩
end Go.Proofs.YtacjdfhllomccaaGreatDoor
