/- Pure functions, written by walkgen.py out of the Go functions of group LibX. Their conditions: none. -/
import Derived.Test.YtacjdfhllomccaaGreatDoorLibDFJ
import Derived.Test.YtacjdfhllomccaaGreatDoorMapJ
import Derived.Test.YtacjdfhllomccaaGreatDoorLibDLJ
import Derived.Test.YtacjdfhllomccaaGreatDoorEqLJ
import Derived.Test.YtacjdfhllomccaaGreatDoorKeyFJ
import Derived.Test.YtacjdfhllomccaaGreatDoorSh2J
import Derived.Test.YtacjdfhllomccaaGreatDoorKeyLJ
import Derived.Test.YtacjdfhllomccaaGreatDoorFrFJ
import Derived.Test.YtacjdfhllomccaaGreatDoorFrLJ
import Derived.Test.YtacjdfhllomccaaGreatDoorLawJ
import Derived.Test.YtacjdfhllomccaaGreatDoorOpsJ
import Derived.Test.YtacjdfhllomccaaGreatDoorRunFJ
import Derived.Test.YtacjdfhllomccaaGreatDoorCodeFJ
import Derived.Test.YtacjdfhllomccaaGreatDoorFileFJ
import Derived.Test.YtacjdfhllomccaaGreatDoorBytesJ
import Derived.Test.YtacjdfhllomccaaGreatDoorErrJ
import Derived.Test.YtacjdfhllomccaaGreatDoorTie
import Derived.Test.YtacjdfhllomccaaGreatDoorCards
import Derived.Deep.DeepHandedRow
import Derived.Deep.DeepWitnessRowRef
import Derived.LaidMore
import Derived.MakeChecks
import Derived.Stop.LaidErr
import Derived.SevenTiedAt
import Derived.Shelf.Vars
import Derived.JoinedCond
import Derived.Deep.CondSized
import Derived.Lay
namespace Go.Proofs.YtacjdfhllomccaaGreatDoor
set_option linter.unusedVariables false
def strings_TrimSuffix (p0 : ByteArray) (p1 : ByteArray) : Option ByteArray := if p0.size ≤ 9223372036854775807 then some (ByteArray.mk (Lib.trimSuffix p0.data.toList p1.data.toList).toArray) else none
def strings_LastIndexByte (p0 : ByteArray) (p1 : Int) : Option Int := if p0.size < 4611686018427387904 then some (Lib.lastIndexByte p0 p1) else none
def strings_Count (p0 : ByteArray) (p1 : ByteArray) : Option Int :=
 match p1.data.toList with | [c] => some ((p0.data.toList.count c : Nat) : Int) | _ => none
end Go.Proofs.YtacjdfhllomccaaGreatDoor
/- The Go functions of group LibX compute the pure functions of that group: written by walkgen.py. Condition of each: the pure function yields a result. -/
namespace Go.Proofs.YtacjdfhllomccaaGreatDoor
set_option linter.unusedVariables false
theorem strings_TrimSuffix_l (p0 : ByteArray) (p1 : ByteArray) (r : ByteArray) (hF : strings_TrimSuffix p0 p1 = some r) (w : World) :
 Calls Tryz.prog 40 #[.string p0, .string p1] w (Post (vSc eStr) r w) := by
 unfold strings_TrimSuffix at hF
 by_cases h : p0.size ≤ 9223372036854775807
 · rw [if_pos h] at hF
   cases hF
   refine (Tryz.strings_TrimSuffix p0 p1 w h).mono ?_
   rintro e w1 ⟨rfl, rfl⟩
   exact ⟨_, rfl, RowKit.Below.refl _ _, rfl⟩
 · rw [if_neg h] at hF; cases hF
theorem strings_LastIndexByte_l (p0 : ByteArray) (p1 : Int) (r : Int) (hF : strings_LastIndexByte p0 p1 = some r) (w : World) :
 Calls Tryz.prog 42 #[.string p0, .int .u8 p1] w (Post (vSc eInt) r w) := by
 unfold strings_LastIndexByte at hF
 by_cases h : p0.size < 4611686018427387904
 · rw [if_pos h] at hF
   cases hF
   refine (Tryz.strings_LastIndexByte p0 p1 h w).mono ?_
   rintro e w1 ⟨rfl, rfl⟩
   exact ⟨_, rfl, RowKit.Below.refl _ _, rfl⟩
 · rw [if_neg h] at hF; cases hF
theorem strings_Count_l (p0 : ByteArray) (p1 : ByteArray) (r : Int) (hF : strings_Count p0 p1 = some r) (w : World) :
 Calls Tryz.prog 41 #[.string p0, .string p1] w (Post (vSc eInt) r w) := by
 unfold strings_Count at hF
 split at hF
 case h_1 c hc =>
  cases hF
  have e1 : p1 = ⟨#[c]⟩ := by cases p1 with | mk d => congr 1; rw [← Array.toList_inj]; exact hc
  subst e1
  refine (Tryz.strings_Count_one p0 c w).mono ?_
  rintro e w1 ⟨rfl, rfl⟩
  exact ⟨_, rfl, RowKit.Below.refl _ _, rfl⟩
 case h_2 => cases hF
end Go.Proofs.YtacjdfhllomccaaGreatDoor
/- Pure functions, written by walkgen.py out of the Go functions of group Strs. Their conditions: none. -/
namespace Go.Proofs.YtacjdfhllomccaaGreatDoor
set_option linter.unusedVariables false
def slices_Equal_string (F : Nat) (p0 : (List ByteArray)) (p1 : (List ByteArray)) : Option (Bool) :=
 bif ((p0.length : Int) != (p1.length : Int)) then
  some false
 else
  (iter (σ := Int) (ρ := (Unit) ⊕ Bool) (fun x1 =>
   bif decide (x1 < (p0.length : Int)) then
    (idx p0 x1).bind fun e1 =>
    (idx p1 x1).bind fun e2 =>
    bif (!(seq e1 e2)) then
     some (.inr (.inr false))
    else
     some (.inl (IntKind.i64.wrap (x1 + 1)))
    else
     some (.inr (.inl ()))) F 0).bind fun z => match z with
   | .inl _ =>
    some true
   | .inr q => some q
def slices_Index_string (F : Nat) (p0 : (List ByteArray)) (p1 : ByteArray) : Option (Int) :=
 (iter (σ := Int) (ρ := (Unit) ⊕ Int) (fun x1 =>
  bif decide (x1 < (p0.length : Int)) then
   (idx p0 x1).bind fun e1 =>
   bif (seq p1 e1) then
    some (.inr (.inr x1))
   else
    some (.inl (IntKind.i64.wrap (x1 + 1)))
   else
    some (.inr (.inl ()))) F 0).bind fun z => match z with
  | .inl _ =>
   some (-1)
  | .inr q => some q
def slices_Contains_string (F : Nat) (p0 : (List ByteArray)) (p1 : ByteArray) : Option (Bool) :=
 (slices_Index_string F p0 p1).bind fun r1 =>
 some (decide ((0 : Int) ≤ r1))
end Go.Proofs.YtacjdfhllomccaaGreatDoor
/- The Go functions of group Strs compute the pure functions of that group: written by walkgen.py. Condition of each: the pure function yields a result. -/
namespace Go.Proofs.YtacjdfhllomccaaGreatDoor
set_option linter.unusedVariables false
set_option maxRecDepth 100000 in
set_option maxHeartbeats 4000000 in
theorem slices_Equal_string_l (F : Nat) (p0 : (List ByteArray)) (p1 : (List ByteArray)) (r : Bool) (hF : slices_Equal_string F p0 p1 = some r) (w : World) (A1 : Option Addr) (c1 : Nat) (hs1 : SlOk (vw w) eStr A1 c1 p0) (A2 : Option Addr) (c2 : Nat) (hs2 : SlOk (vw w) eStr A2 c2 p1) :
 Calls Tryz.prog 37 #[.slice A1 p0.length c1, .slice A2 p1.length c2] w (Post (vSc eBool) r w) := by
 unfold slices_Equal_string at hF
 refine T.start (l := [.slice A1 p0.length c1, .slice A2 p1.length c2]) Tryz.func37 rfl rfl rfl ?_
 refine T.seq (T.region (T.pk (.bool false) (fun _ => by kernel_rfl) (T.nil (T.seq (T.seq (T.region (T.p5 (.slice A1 p0.length c1) (vi (p0.length : Int)) (.slice A2 p1.length c2) (vi (p1.length : Int)) (.bool ((p0.length : Int) != (p1.length : Int))) (fun _ => by kernel_rfl) (T.nil ?_))))))))
 refine T.cond ((p0.length : Int) != (p1.length : Int)) (by kernel_rfl) (by kernel_rfl) (fun hc1 => ?_) (fun hc1 => ?_)
 ·
  rw [hc1, cond_true] at hF
  refine T.seq (T.region (T.pk (.bool false) (fun _ => by kernel_rfl) (T.nil ?_)))
  cases hF
  refine T.ret rfl ?_
  exact T.ret1 rfl (ResIs.tmp rfl) fun w' hh => ⟨_, rfl, hh.below, (show _ from rfl)⟩
 rw [hc1, cond_false] at hF
 refine T.skip_code ?_
 refine T.seq (T.seq (T.region (T.p3 (.slice A1 p0.length c1) (vi (p0.length : Int)) (vi 0) (fun _ => by kernel_rfl) (T.nil ?_))))
 obtain ⟨q1, hz1, hF⟩ := ob hF
 refine T.mid (fun a w' => q1 = Sum.inl () ∧ Fr 26 [] a ∧ Hp w (vw w) [] w') ?_ ?_
 ·
  refine T.block ?_
  refine T.iter (fun x1 a w' => Fr 26 [(0, .slice A1 p0.length c1), (1, .slice A2 p1.length c2), (12, vi (p0.length : Int)), (13, vi x1)] a ∧ Hp w (vw w) [] w') hz1 ?_ ?_
  ·
   exact fun a w' hf hh => ⟨(Fr.sel hf rfl), (hh.sub List.Sublist.slnil)⟩
  rintro x1 y1 hY1 hr1 a w' ⟨hf, hh⟩
  refine (?_ : T 26 w (vw w) [] [(0, .slice A1 p0.length c1), (1, .slice A2 p1.length c2), (12, vi (p0.length : Int)), (13, vi x1)] _) a w' hf hh
  clear hf hh
  try dsimp only at hY1
  refine T.seq (T.region (T.pk (.bool (decide (x1 < (p0.length : Int)))) (fun _ => by kernel_rfl) (T.nil (T.seq ?_))))
  refine T.cond (decide (x1 < (p0.length : Int))) (by kernel_rfl) (by kernel_rfl) (fun hc2 => ?_) (fun hc2 => ?_)
  ·
   rw [hc2, cond_true] at hY1
   refine T.skip_code ?_
   refine T.seq (T.block (T.seq (T.region (T.p2 (vi x1) (vi x1) (fun _ => by kernel_rfl) (T.nil (T.seq ?_))))))
   refine T.quiet (by kernel_rfl) (by kernel_rfl) ?_
   refine TQ.pure (.slice A1 p0.length c1) (by kernel_rfl) (fun _ => by kernel_rfl) ?_
   refine TQ.pure (vi x1) (by kernel_rfl) (fun _ => by kernel_rfl) ?_
   obtain ⟨e1, hb1, hY1⟩ := ob hY1
   obtain ⟨hi1, hi2, hi3⟩ := idx_some hb1
   refine TQ.look (.pointer (some ((sadr A1).add (x1.toNat * 1)))) (by kernel_rfl) (fun w' hh => exec_indexAddr (e := 9) (s := 1) rfl rfl rfl (by kernel_rfl) (by kernel_rfl) hi1 hi2 (hs1.some_ hi3 (by decide))) ?_
   refine TQ.look (.string e1) (by kernel_rfl) (fun w' hh => exec_load1 rfl rfl (by kernel_rfl) (hh.cell_view (SlOk.cellF0 (E := eStr) hs1 hi3 (fun _ _ _ h => h) rfl))) ?_
   refine TQ.pure (.slice A2 p1.length c2) (by kernel_rfl) (fun _ => by kernel_rfl) ?_
   refine TQ.pure (vi x1) (by kernel_rfl) (fun _ => by kernel_rfl) ?_
   obtain ⟨e2, hb2, hY1⟩ := ob hY1
   obtain ⟨hi4, hi5, hi6⟩ := idx_some hb2
   refine TQ.look (.pointer (some ((sadr A2).add (x1.toNat * 1)))) (by kernel_rfl) (fun w' hh => exec_indexAddr (e := 9) (s := 1) rfl rfl rfl (by kernel_rfl) (by kernel_rfl) hi4 hi5 (hs2.some_ hi6 (by decide))) ?_
   refine TQ.look (.string e2) (by kernel_rfl) (fun w' hh => exec_load1 rfl rfl (by kernel_rfl) (hh.cell_view (SlOk.cellF0 (E := eStr) hs2 hi6 (fun _ _ _ h => h) rfl))) ?_
   refine TQ.pure (.bool (!(seq e1 e2))) (by kernel_rfl) (fun _ => by kernel_rfl) ?_
   refine TQ.nil ?_
   refine T.cond (!(seq e1 e2)) (by kernel_rfl) (by kernel_rfl) (fun hc3 => ?_) (fun hc3 => ?_)
   ·
    rw [hc3, cond_true] at hY1
    refine T.seq (T.region (T.pk (.bool false) (fun _ => by kernel_rfl) (T.nil ?_)))
    cases hY1
    cases (hr1 _ rfl)
    try dsimp only at hF
    cases hF
    refine T.ret rfl ?_
    exact T.ret1 rfl (ResIs.tmp rfl) fun w' hh => ⟨_, rfl, hh.below, (show _ from rfl)⟩
   rw [hc3, cond_false] at hY1
   refine T.skip_code ?_
   refine T.region (T.p2 (vi (IntKind.i64.wrap (x1 + 1))) (vi (IntKind.i64.wrap (x1 + 1))) (fun _ => by kernel_rfl) (T.nil ?_))
   cases hY1
   exact fun a w' hf hh => ⟨(IntKind.i64.wrap (x1 + 1)), rfl, (Fr.sel hf rfl), (hh.sub List.Sublist.slnil)⟩
  rw [hc2, cond_false] at hY1
  refine T.exit ?_
  cases hY1
  cases (hr1 _ rfl)
  exact fun a w' hf hh => ⟨rfl, (Fr.nil hf), (hh.sub List.Sublist.slnil)⟩
 rintro a w' ⟨rfl, hf, hh⟩
 try dsimp only at hF
 refine (?_ : T 26 w (vw w) [] [] _) a w' hf hh
 clear hf hh
 refine T.seq (T.region (T.pk (.bool true) (fun _ => by kernel_rfl) (T.nil ?_)))
 cases hF
 refine T.ret rfl ?_
 exact T.ret1 rfl (ResIs.tmp rfl) fun w' hh => ⟨_, rfl, hh.below, (show _ from rfl)⟩
set_option maxRecDepth 100000 in
set_option maxHeartbeats 4000000 in
theorem slices_Index_string_l (F : Nat) (p0 : (List ByteArray)) (p1 : ByteArray) (r : Int) (hF : slices_Index_string F p0 p1 = some r) (w : World) (A1 : Option Addr) (c1 : Nat) (hs1 : SlOk (vw w) eStr A1 c1 p0) :
 Calls Tryz.prog 77 #[.slice A1 p0.length c1, .string p1] w (Post (vSc eInt) r w) := by
 unfold slices_Index_string at hF
 refine T.start (l := [.slice A1 p0.length c1, .string p1]) Tryz.func77 rfl rfl rfl ?_
 refine T.seq (T.region (T.pk (vi 0) (fun _ => by kernel_rfl) (T.nil (T.seq (T.seq (T.region (T.p3 (.slice A1 p0.length c1) (vi (p0.length : Int)) (vi 0) (fun _ => by kernel_rfl) (T.nil ?_))))))))
 obtain ⟨q1, hz1, hF⟩ := ob hF
 refine T.mid (fun a w' => q1 = Sum.inl () ∧ Fr 19 [] a ∧ Hp w (vw w) [] w') ?_ ?_
 ·
  refine T.block ?_
  refine T.iter (fun x1 a w' => Fr 19 [(0, .slice A1 p0.length c1), (1, .string p1), (7, vi (p0.length : Int)), (8, vi x1)] a ∧ Hp w (vw w) [] w') hz1 ?_ ?_
  ·
   exact fun a w' hf hh => ⟨(Fr.sel hf rfl), (hh.sub List.Sublist.slnil)⟩
  rintro x1 y1 hY1 hr1 a w' ⟨hf, hh⟩
  refine (?_ : T 19 w (vw w) [] [(0, .slice A1 p0.length c1), (1, .string p1), (7, vi (p0.length : Int)), (8, vi x1)] _) a w' hf hh
  clear hf hh
  try dsimp only at hY1
  refine T.seq (T.region (T.pk (.bool (decide (x1 < (p0.length : Int)))) (fun _ => by kernel_rfl) (T.nil (T.seq ?_))))
  refine T.cond (decide (x1 < (p0.length : Int))) (by kernel_rfl) (by kernel_rfl) (fun hc1 => ?_) (fun hc1 => ?_)
  ·
   rw [hc1, cond_true] at hY1
   refine T.skip_code ?_
   refine T.seq (T.block (T.seq (T.region (T.p2 (vi x1) (vi x1) (fun _ => by kernel_rfl) (T.nil (T.seq (T.region (T.p3 (.string p1) (.slice A1 p0.length c1) (vi x1) (fun _ => by kernel_rfl) ?_))))))))
   obtain ⟨e1, hb1, hY1⟩ := ob hY1
   obtain ⟨hi1, hi2, hi3⟩ := idx_some hb1
   refine T.look (.pointer (some ((sadr A1).add (x1.toNat * 1)))) (by kernel_rfl) (fun w' hh => exec_indexAddr (e := 9) (s := 1) rfl rfl rfl (by kernel_rfl) (by kernel_rfl) hi1 hi2 (hs1.some_ hi3 (by decide))) ?_
   refine T.look (.string e1) (by kernel_rfl) (fun w' hh => exec_load1 rfl rfl (by kernel_rfl) (hh.cell_view (SlOk.cellF0 (E := eStr) hs1 hi3 (fun _ _ _ h => h) rfl))) ?_
   refine T.pk (.bool (seq p1 e1)) (fun _ => by kernel_rfl) (T.nil ?_)
   refine T.cond (seq p1 e1) (by kernel_rfl) (by kernel_rfl) (fun hc2 => ?_) (fun hc2 => ?_)
   ·
    rw [hc2, cond_true] at hY1
    refine T.seq (T.region (T.p2 (vi x1) (vi x1) (fun _ => by kernel_rfl) (T.nil ?_)))
    cases hY1
    cases (hr1 _ rfl)
    try dsimp only at hF
    cases hF
    refine T.ret rfl ?_
    exact T.ret1 rfl (ResIs.tmp rfl) fun w' hh => ⟨_, rfl, hh.below, (show _ from rfl)⟩
   rw [hc2, cond_false] at hY1
   refine T.skip_code ?_
   refine T.region (T.p2 (vi (IntKind.i64.wrap (x1 + 1))) (vi (IntKind.i64.wrap (x1 + 1))) (fun _ => by kernel_rfl) (T.nil ?_))
   cases hY1
   exact fun a w' hf hh => ⟨(IntKind.i64.wrap (x1 + 1)), rfl, (Fr.sel hf rfl), (hh.sub List.Sublist.slnil)⟩
  rw [hc1, cond_false] at hY1
  refine T.exit ?_
  cases hY1
  cases (hr1 _ rfl)
  exact fun a w' hf hh => ⟨rfl, (Fr.nil hf), (hh.sub List.Sublist.slnil)⟩
 rintro a w' ⟨rfl, hf, hh⟩
 try dsimp only at hF
 refine (?_ : T 19 w (vw w) [] [] _) a w' hf hh
 clear hf hh
 refine T.seq (T.region (T.pk (vi (-1)) (fun _ => by kernel_rfl) (T.nil ?_)))
 cases hF
 refine T.ret rfl ?_
 exact T.ret1 rfl (ResIs.tmp rfl) fun w' hh => ⟨_, rfl, hh.below, (show _ from rfl)⟩
set_option maxRecDepth 100000 in
set_option maxHeartbeats 4000000 in
theorem slices_Contains_string_l (F : Nat) (p0 : (List ByteArray)) (p1 : ByteArray) (r : Bool) (hF : slices_Contains_string F p0 p1 = some r) (w : World) (A1 : Option Addr) (c1 : Nat) (hs1 : SlOk (vw w) eStr A1 c1 p0) :
 Calls Tryz.prog 43 #[.slice A1 p0.length c1, .string p1] w (Post (vSc eBool) r w) := by
 unfold slices_Contains_string at hF
 refine T.start (l := [.slice A1 p0.length c1, .string p1]) Tryz.func43 rfl rfl rfl ?_
 refine T.seq (T.region (T.pk (.bool false) (fun _ => by kernel_rfl) (T.nil (T.seq (T.region (T.p2 (.slice A1 p0.length c1) (.string p1) (fun _ => by kernel_rfl) ?_))))))
 obtain ⟨r1, hb1, hF⟩ := ob hF
 refine T.step (W1.call (vSc eInt) r1 77 #[.slice A1 p0.length c1, .string p1] (by kernel_rfl) (fun _ => by kernel_rfl) (fun w' hh => slices_Index_string_l F p0 p1 r1 hb1 w' A1 c1 (SlOk.mono hs1 hh.view)) ?_)
 intro u V1 hV1 hu
 obtain rfl := sureInt _ _ _ hu
 refine T.p2 (.bool (decide ((0 : Int) ≤ r1))) (.bool (decide ((0 : Int) ≤ r1))) (fun _ => by kernel_rfl) (T.nil ?_)
 cases hF
 refine T.ret rfl ?_
 exact T.ret1 rfl (ResIs.tmp rfl) fun w' hh => ⟨_, rfl, hh.below, (show _ from rfl)⟩
end Go.Proofs.YtacjdfhllomccaaGreatDoor
/- Pure functions, written by walkgen.py out of the Go functions of group WFsTree. Their conditions: none. -/
namespace Go.Proofs.YtacjdfhllomccaaGreatDoor
set_option linter.unusedVariables false
def annalkeep_FsTree (F : Nat) (p0 : (List (List Int))) (p1 : (List ByteArray)) (p2 : (List ByteArray)) (p3 : Int) : Option (Bool) :=
 (fs_FS_Mkdir_fr F [(DElem.mk (DKey.mk 0 1 0) 1 0 (ByteArray.mk #[100]))] 1 2 (ByteArray.mk #[47, 97])).bind fun r2 =>
 bif (r2.2.2.2 != 0) then
  some false
 else
  (fs_FS_List_fr F r2.1 r2.2.1 r2.2.2.1 (ByteArray.mk #[47]) 2).bind fun r3 =>
  (
   bif (r3.2 != 0) then
    some true
    else
     (slices_Equal_string F r3.1 [(ByteArray.mk #[97])]).bind fun r4 =>
     some (!r4) : Option (Bool)).bind fun z1 =>
  bif z1 then
   some false
  else
   (lslice p0 0 (if (25 : Int) < (p0.length : Int) then 25 else (p0.length : Int))).bind fun s1 =>
   (
    (iter (σ := (List DElem) × Int × Int × Int) (ρ := (List DElem) × Int × Int) (fun x => match x with
     | (x1, x2, x3, x4) =>
      bif decide (x4 < (s1.length : Int)) then
       (idx s1 x4).bind fun e1 =>
       (annalkeep_act_fr F x1 x2 x3 e1 p1 p2).bind fun r6 =>
       some (.inl (r6.1, r6.2.1, r6.2.2.1, IntKind.i64.wrap (x4 + 1)))
       else
        some (.inr (x1, x2, x3))) F ([(DElem.mk (DKey.mk 0 1 0) 1 0 (ByteArray.mk #[100]))], 1, 2, 0)).bind fun z => match z with
     | (z5, z6, z7) =>
      some (z5, z6, z7) : Option ((List DElem) × Int × Int)).bind fun z => match z with
    | (z2, z3, z4) =>
     (annalkeep_Within p3 (IntKind.i64.wrap (z3 + 1))).bind fun r7 =>
     (grow 16 [(ByteArray.mk #[47])] p1).bind fun _ =>
     (iter (σ := Int) (ρ := (Unit) ⊕ Bool) (fun x5 =>
      bif decide (x5 < (([(ByteArray.mk #[47])] ++ p1).length : Int)) then
       (
        (idx ([(ByteArray.mk #[47])] ++ p1) x5).bind fun e2 =>
         (fs_FS_Kind_fr F z2 z3 z4 e2 r7).bind fun r9 =>
         (fs_FS_List_fr F z2 z3 z4 e2 r7).bind fun r10 =>
         bif (r9.2 != 0) then
          bif (r10.2 != r9.2) then
           some (.inr (.inr (.inr false)))
          else
           some (.inl ())
         else
          bif ((!((seq r9.1 (ByteArray.mk #[100])) == (r10.2 == 0))) || ((!(seq r9.1 (ByteArray.mk #[100]))) && (!(seq r9.1 (ByteArray.mk #[102]))))) then
           some (.inr (.inr (.inr false)))
          else
           (iter (σ := Int) (ρ := (Unit) ⊕ ((Unit) ⊕ ((Int) ⊕ ((Unit) ⊕ Bool)))) (fun x6 =>
            bif decide (x6 < (r10.1.length : Int)) then
             (
              (idx r10.1 x6).bind fun e3 =>
               (strings_TrimSuffix e2 (ByteArray.mk #[47])).bind fun r11 =>
               (scat r11 (ByteArray.mk #[47])).bind fun s3 =>
               (scat s3 e3).bind fun s4 =>
               (strings_Count s4 (ByteArray.mk #[47])).bind fun r12 =>
               bif decide ((6 : Int) < r12) then
                some (.inl ())
               else
                (fs_FS_Kind_fr F z2 z3 z4 s4 r7).bind fun r13 =>
                bif (r13.2 != 0) then
                 some (.inr (.inr (.inr (.inr (.inr (.inr false))))))
                else
                 some (.inl ()) : Option ((Unit) ⊕ ((Int) ⊕ ((Unit) ⊕ ((Unit) ⊕ ((Int) ⊕ ((Unit) ⊕ Bool))))))).bind fun z => match z with
              | .inl _ =>
               some (.inl (IntKind.i64.wrap (x6 + 1)))
              | .inr q => some q
             else
              some (.inr (.inl ()))) F 0).bind fun z => match z with
            | .inl _ =>
             (strings_LastIndexByte e2 47).bind fun r14 =>
             bif (!(seq e2 (ByteArray.mk #[47]))) then
              (sslice e2 0 r14).bind fun s5 =>
              (
               bif (seq s5 (ByteArray.mk #[])) then
                some (ByteArray.mk #[47])
                else
                 some s5 : Option (ByteArray)).bind fun z8 =>
              (fs_FS_List_fr F z2 z3 z4 z8 r7).bind fun r15 =>
              (
               bif (r15.2 != 0) then
                some true
                else
                 (sslice e2 (IntKind.i64.wrap (r14 + 1)) (e2.size : Int)).bind fun s6 =>
                 (slices_Contains_string F r15.1 s6).bind fun r16 =>
                 some (!r16) : Option (Bool)).bind fun z9 =>
              bif z9 then
               some (.inr (.inr (.inr false)))
              else
               some (.inl ())
             else
              some (.inl ())
            | .inr q => some q : Option ((Unit) ⊕ ((Int) ⊕ ((Unit) ⊕ Bool)))).bind fun z => match z with
        | .inl _ =>
         some (.inl (IntKind.i64.wrap (x5 + 1)))
        | .inr q => some q
       else
        some (.inr (.inl ()))) F 0).bind fun z => match z with
      | .inl _ =>
       some true
      | .inr q => some q
end Go.Proofs.YtacjdfhllomccaaGreatDoor
/- The Go functions of group WFsTree compute the pure functions of that group: written by walkgen.py. Condition of each: the pure function yields a result. -/
namespace Go.Proofs.YtacjdfhllomccaaGreatDoor
set_option linter.unusedVariables false
set_option maxRecDepth 100000 in
set_option maxHeartbeats 4000000 in
theorem annalkeep_FsTree_l (F : Nat) (p0 : (List (List Int))) (p1 : (List ByteArray)) (p2 : (List ByteArray)) (p3 : Int) (r : Bool) (hF : annalkeep_FsTree F p0 p1 p2 p3 = some r) (w : World) (hGl : Glob w) (A1 : Option Addr) (c1 : Nat) (hs1 : SlOk (vw w) (eList eInt) A1 c1 p0) (A2 : Option Addr) (c2 : Nat) (hs2 : SlOk (vw w) eStr A2 c2 p1) (A3 : Option Addr) (c3 : Nat) (hs3 : SlOk (vw w) eStr A3 c3 p2) :
 Calls Tryz.prog 12 #[.slice A1 p0.length c1, .slice A2 p1.length c2, .slice A3 p2.length c3, .int .i64 p3] w (Post (vSc eBool) r w) := by
 unfold annalkeep_FsTree at hF
 refine T.start (l := [.slice A1 p0.length c1, .slice A2 p1.length c2, .slice A3 p2.length c3, vi p3]) Tryz.func12 rfl rfl rfl ?_
 refine T.seq (T.region (T.pk (.bool false) (fun _ => by kernel_rfl) (T.nil (T.seq (T.region ?_)))))
 let v7_ : List Value := [vi 0, vi 1, vi 0, vi 1, vi 0, .string (ByteArray.mk #[100])]
 refine T.step (W1.within 15 [] (fun v w' => ∃ (b3 : Nat) (b2 : Nat), v = pB b3 0 ∧ Hp w (vw w) ((box b3 78 [.slice (some ⟨b2, 0, none⟩) 1 1, vi 1, vi 2]) :: (box b2 44 v7_) :: []) w') Tryz.func15 rfl rfl (by kernel_rfl) (fun _ => by kernel_rfl) rfl ?_ ?_)
 ·
  refine T.seq (T.region (T.pk (.pointer none) (fun _ => by kernel_rfl) (T.nil (T.seq (T.region (T.step (W1.within 50 [vi 1] (fun v w' => v = .agg #[vi 0, vi 1, vi 0] ∧ Hp w (vw w) [] w') Tryz.func50 rfl rfl (by kernel_rfl) (fun _ => by kernel_rfl) rfl ?_ ?_)))))))
  ·
   refine T.seq (T.region (T.step (W1.np 42 [vi 0, vi 0, vi 0] (fun _ => by kernel_rfl) (fun b1 => ?_))))
   refine T.nil (T.seq (T.region (T.p2 (vi 1) (.agg #[vi 0, vi 1, vi 0]) (fun _ => by kernel_rfl) ?_)))
   let v8_ : List Value := [vi 0, vi 1, vi 0]
   refine T.step (W1.st 0 v8_ ((box b1 42 v8_) :: []) v8_ (by rfl) rfl rfl rfl rfl rfl rfl (fun _ => by kernel_rfl) ?_)
   refine T.nil ?_
   refine T.ret rfl ?_
   exact T.ret1 rfl (ResIs.cellN 0 rfl (by rfl) (fun _ => by kernel_rfl) (fun _ => by kernel_rfl)) fun w' hh => ⟨_, rfl, ⟨rfl, (hh.sub (dr1 kp0))⟩⟩
  rintro v w' ⟨rfl, hh⟩
  refine ⟨(vw w), [], hh, ?_⟩
  clear hh
  refine T.pk (.agg #[vi 0, vi 1, vi 0, vi 1, vi 0, .string (ByteArray.mk #[100])]) (fun _ => by kernel_rfl) (T.step (W1.ns 44 v7_ (fun _ => by kernel_rfl) (fun b2 => ?_)))
  refine T.pk (.agg #[.slice (some ⟨b2, 0, none⟩) 1 1, vi 1, vi 2]) (fun _ => by kernel_rfl) (T.step (W1.np 78 [.slice (some ⟨b2, 0, none⟩) 1 1, vi 1, vi 2] (fun _ => by kernel_rfl) (fun b3 => ?_)))
  refine T.pk (pB b3 0) (fun _ => by kernel_rfl) (T.nil ?_)
  refine T.ret rfl ?_
  exact T.ret1 rfl (ResIs.tmp rfl) fun w' hh => ⟨_, rfl, ⟨b3, b2, rfl, (hh.sub (kp1 (kp1 kp0)))⟩⟩
 rintro v w' ⟨b3, b2, rfl, hh⟩
 let i1_ : HObj := box b3 78 [.slice (some ⟨b2, 0, none⟩) 1 1, vi 1, vi 2]
 refine ⟨(vw w), (i1_ :: (box b2 44 v7_) :: []), hh, ?_⟩
 clear hh
 refine T.pk (pB b3 0) (fun _ => by kernel_rfl) (T.nil (T.seq (T.seq (T.region (T.p4 (pB b3 0) (.bool false) (.bool false) (pB b3 0) (fun _ => by kernel_rfl) ?_)))))
 refine T.litrow (E := eElem) (f := DElem.cells) (l := [(DElem.mk (DKey.mk 0 1 0) 1 0 (ByteArray.mk #[100]))]) 1 _ (by rfl) (fun _ _ => rfl) (Nat.succ_pos _) (Nat.le_of_ble_eq_true (by rfl)) rfl ?_
 refine T.reH (H' := (i1_ :: (row 44 eElem (some ⟨b2, 0, none⟩) ([(DElem.mk (DKey.mk 0 1 0) 1 0 (ByteArray.mk #[100]))].length) [(DElem.mk (DKey.mk 0 1 0) 1 0 (ByteArray.mk #[100]))]) :: [])) (by rfl) ?_
 refine T.freezeF (E := eElem) (H' := ((box b3 78 [.slice (some ⟨b2, 0, none⟩) ([(DElem.mk (DKey.mk 0 1 0) 1 0 (ByteArray.mk #[100]))].length) ([(DElem.mk (DKey.mk 0 1 0) 1 0 (ByteArray.mk #[100]))].length), vi 1, vi 2]) :: [])) 1 (by rfl) rfl (fun _ _ _ _ h => h) (fun V1 hV1 hs4 => ?_)
 obtain ⟨r2, hb1, hF⟩ := ob hF
 refine T.step (W1.callI 16 [pB b3 0, .string (ByteArray.mk #[47, 97])] (fun v w' => ∃ (A4 : Option Addr) (c4 : Nat) (V2 : View), View.le V1 V2 ∧ SlOk V2 eElem A4 c4 r2.1 ∧ v = vi r2.2.2.2 ∧ Hp w V2 ((box b3 78 [.slice A4 r2.1.length c4, vi r2.2.1, vi r2.2.2.1]) :: []) w') (by kernel_rfl) (fun _ => by kernel_rfl) (fun w' hh => fs_FS_Mkdir_fr_l F [(DElem.mk (DKey.mk 0 1 0) 1 0 (ByteArray.mk #[100]))] 1 2 (ByteArray.mk #[47, 97]) r2 hb1 w hGl b3 (some ⟨b2, 0, none⟩) ([(DElem.mk (DKey.mk 0 1 0) 1 0 (ByteArray.mk #[100]))].length) V1 [] w' (SlOk.mono hs4 (vt (made_le _ _) vr)) (hh.sub (kp1 kp0))) ?_)
 rintro v w' ⟨A4, c4, V2, hV2, hs5, rfl, hh⟩
 refine ⟨_, _, hh, ?_⟩
 clear hh
 refine T.p2 (.bool (r2.2.2.2 != 0)) (.bool (r2.2.2.2 != 0)) (fun _ => by kernel_rfl) (T.nil ?_)
 refine T.cond (r2.2.2.2 != 0) (by kernel_rfl) (by kernel_rfl) (fun hc1 => ?_) (fun hc1 => ?_)
 ·
  rw [hc1, cond_true] at hF
  refine T.seq (T.region (T.pk (.bool false) (fun _ => by kernel_rfl) (T.nil ?_)))
  cases hF
  refine T.ret rfl ?_
  exact T.ret1 rfl (ResIs.tmp rfl) fun w' hh => ⟨_, rfl, hh.below, (show _ from rfl)⟩
 rw [hc1, cond_false] at hF
 refine T.skip_code ?_
 refine T.seq (T.seq (T.region (T.pk (pB b3 0) (fun _ => by kernel_rfl) ?_)))
 obtain ⟨r3, hb2, hF⟩ := ob hF
 refine T.step (W1.callI 34 [pB b3 0, .string (ByteArray.mk #[47]), vi 2] (fun v w' => ∃ (A5 : Option Addr) (c5 : Nat) (V3 : View), View.le V2 V3 ∧ SlOk (made w V3) eStr A5 c5 r3.1 ∧ v = .tuple #[.slice A5 r3.1.length c5, vi r3.2] ∧ Hp w V3 ((box b3 78 [.slice A4 r2.1.length c4, vi r2.2.1, vi r2.2.2.1]) :: []) w') (by kernel_rfl) (fun _ => by kernel_rfl) (fun w' hh => fs_FS_List_fr_l F r2.1 r2.2.1 r2.2.2.1 (ByteArray.mk #[47]) 2 r3 hb2 w hGl b3 A4 c4 V2 [] w' hs5 (hh.sub (kp1 kp0))) ?_)
 rintro v w' ⟨A5, c5, V3, hV3, hs6, rfl, hh⟩
 refine ⟨_, _, hh, ?_⟩
 clear hh
 refine T.p5 (.tuple #[.slice A5 r3.1.length c5, vi r3.2]) (.slice A5 r3.1.length c5) (vi r3.2) (.slice A5 r3.1.length c5) (vi r3.2) (fun _ => by kernel_rfl) (T.nil ?_)
 obtain ⟨z1, hX1, hF⟩ := ob hF
 refine T.cut (fun a w' => ∃ (V4 : View), View.le V3 V4 ∧ Fr 153 [(0, .slice A1 p0.length c1), (1, .slice A2 p1.length c2), (2, .slice A3 p2.length c3), (3, vi p3), (47, .bool z1)] a ∧ Hp w V4 [] w') ?_ ?_
 ·
  refine T.region (T.p3 (vi r3.2) (.bool (r3.2 != 0)) (.bool (r3.2 != 0)) (fun _ => by kernel_rfl) ?_)
  cases hg1 : (r3.2 != 0)
  ·
   skip
   rw [hg1, cond_false] at hX1
   refine T.pk (.slice A5 r3.1.length c5) (fun _ => by kernel_rfl) (T.step (W1.ns 9 [.string (ByteArray.mk #[97])] (fun _ => by kernel_rfl) (fun b4 => ?_)))
   obtain ⟨r4, hb3, hX1⟩ := ob hX1
   refine T.step (W1.call (vSc eBool) r4 37 #[.slice A5 r3.1.length c5, .slice (some ⟨b4, 0, none⟩) 1 1] (by kernel_rfl) (fun _ => by kernel_rfl) (fun w' hh => slices_Equal_string_l F r3.1 [(ByteArray.mk #[97])] r4 hb3 w' A5 c5 (SlOk.mono (SlOk.mono hs6 (vt (made_le _ _) vr)) hh.view) (some ⟨b4, 0, none⟩) 1 (slok_lit (E := eStr) (f := (fun x => [.string x])) [(ByteArray.mk #[97])] (fun _ _ => rfl) (Nat.le_of_ble_eq_true (by rfl)) (fun j => hh.cellBox (i := 0) (by rfl) j))) ?_)
   intro u V5 hV5 hu
   obtain rfl := sureBool _ _ _ hu
   refine T.p2 (.bool (!r4)) (.bool (!r4)) (fun _ => by kernel_rfl) (T.nil ?_)
   cases hX1
   exact fun a w' hf hh => ⟨V5, hV5, (Fr.sel hf rfl), (hh.sub (dr1 (dr1 kp0)))⟩
  skip
  rw [hg1, cond_true] at hX1
  refine T.pass (by kernel_rfl) (by kernel_rfl) (T.pass (by kernel_rfl) (by kernel_rfl) (T.pass (by kernel_rfl) (by kernel_rfl) (T.pass (by kernel_rfl) (by kernel_rfl) (T.pk (.bool true) (fun _ => by kernel_rfl) (T.nil ?_)))))
  cases hX1
  exact fun a w' hf hh => ⟨V3, vr, (Fr.sel hf rfl), (hh.sub (dr1 kp0))⟩
 rintro a w' ⟨V4, hV4, hf, hh⟩
 refine (?_ : T 153 w V4 [] [(0, .slice A1 p0.length c1), (1, .slice A2 p1.length c2), (2, .slice A3 p2.length c3), (3, vi p3), (47, .bool z1)] _) a w' hf hh
 clear hf hh
 refine T.cond z1 (by kernel_rfl) (by kernel_rfl) (fun hc2 => ?_) (fun hc2 => ?_)
 ·
  rw [hc2, cond_true] at hF
  refine T.seq (T.region (T.pk (.bool false) (fun _ => by kernel_rfl) (T.nil ?_)))
  cases hF
  refine T.ret rfl ?_
  exact T.ret1 rfl (ResIs.tmp rfl) fun w' hh => ⟨_, rfl, hh.below, (show _ from rfl)⟩
 rw [hc2, cond_false] at hF
 refine T.skip_code ?_
 refine T.seq (T.region (T.p4 (.slice A1 p0.length c1) (.slice A1 p0.length c1) (vi (p0.length : Int)) (vi (if (25 : Int) < (p0.length : Int) then 25 else (p0.length : Int))) (fun _ => by kernel_rfl) ?_))
 obtain ⟨s1, hb4, hF⟩ := ob hF
 refine T.look (.slice A1 s1.length c1) (by kernel_rfl) (fun w' hh => exec_slice_list0 (e := 55) (s := 1) (lx := none) (hx := (some _)) (k := .i64) (k' := .i64) rfl rfl (by kernel_rfl) (by kernel_rfl) ((SlOk.mono hs1 (vt (vt (vt hV1 hV2) hV3) hV4))).1 rfl rfl hb4) ?_
 refine T.p2 (.slice A2 p1.length c2) (.slice A3 p2.length c3) (fun _ => by kernel_rfl) ?_
 obtain ⟨q1, hX2, hF⟩ := ob hF
 refine T.step (W1.within 18 [.slice A1 s1.length c1, .slice A2 p1.length c2, .slice A3 p2.length c3] (fun v w' => ∃ (z2 : List DElem) (z3 : Int) (z4 : Int), q1 = (z2, z3, z4) ∧ ∃ (b7 : Nat) (A6 : Option Addr) (c6 : Nat) (A7 : Option Addr) (c7 : Nat) (V6 : View), View.le V4 V6 ∧ SlOk V6 eElem A6 c6 z2 ∧ SlOk V6 (eList eInt) A7 c7 s1 ∧ v = pB b7 0 ∧ Hp w V6 ((box b7 78 [.slice A6 z2.length c6, vi z3, vi z4]) :: []) w') Tryz.func18 rfl rfl (by kernel_rfl) (fun _ => by kernel_rfl) rfl ?_ ?_)
 ·
  refine T.seq (T.region (T.pk (.pointer none) (fun _ => by kernel_rfl) (T.nil (T.seq (T.region (T.step (W1.within 15 [] (fun v w' => ∃ (b7 : Nat) (b6 : Nat) (A8 : Option Addr) (c8 : Nat) (V7 : View), View.le V4 V7 ∧ SlOk V7 (eList eInt) A8 c8 s1 ∧ v = pB b7 0 ∧ Hp w V7 ((box b7 78 [.slice (some ⟨b6, 0, none⟩) 1 1, vi 1, vi 2]) :: (box b6 44 v7_) :: []) w') Tryz.func15 rfl rfl (by kernel_rfl) (fun _ => by kernel_rfl) rfl ?_ ?_)))))))
  ·
   refine T.seq (T.region (T.pk (.pointer none) (fun _ => by kernel_rfl) (T.nil (T.seq (T.region (T.step (W1.within 50 [vi 1] (fun v w' => v = .agg #[vi 0, vi 1, vi 0] ∧ Hp w V4 [] w') Tryz.func50 rfl rfl (by kernel_rfl) (fun _ => by kernel_rfl) rfl ?_ ?_)))))))
   ·
    refine T.seq (T.region (T.step (W1.np 42 [vi 0, vi 0, vi 0] (fun _ => by kernel_rfl) (fun b5 => ?_))))
    refine T.nil (T.seq (T.region (T.p2 (vi 1) (.agg #[vi 0, vi 1, vi 0]) (fun _ => by kernel_rfl) ?_)))
    let v9_ : List Value := [vi 0, vi 1, vi 0]
    refine T.step (W1.st 0 v9_ ((box b5 42 v9_) :: []) v9_ (by rfl) rfl rfl rfl rfl rfl rfl (fun _ => by kernel_rfl) ?_)
    refine T.nil ?_
    refine T.ret rfl ?_
    exact T.ret1 rfl (ResIs.cellN 0 rfl (by rfl) (fun _ => by kernel_rfl) (fun _ => by kernel_rfl)) fun w' hh => ⟨_, rfl, ⟨rfl, (hh.sub (dr1 kp0))⟩⟩
   rintro v w' ⟨rfl, hh⟩
   refine ⟨V4, [], hh, ?_⟩
   clear hh
   refine T.pk (.agg #[vi 0, vi 1, vi 0, vi 1, vi 0, .string (ByteArray.mk #[100])]) (fun _ => by kernel_rfl) (T.step (W1.ns 44 v7_ (fun _ => by kernel_rfl) (fun b6 => ?_)))
   refine T.pk (.agg #[.slice (some ⟨b6, 0, none⟩) 1 1, vi 1, vi 2]) (fun _ => by kernel_rfl) (T.step (W1.np 78 [.slice (some ⟨b6, 0, none⟩) 1 1, vi 1, vi 2] (fun _ => by kernel_rfl) (fun b7 => ?_)))
   refine T.pk (pB b7 0) (fun _ => by kernel_rfl) (T.nil ?_)
   refine T.ret rfl ?_
   exact T.ret1 rfl (ResIs.tmp rfl) fun w' hh => ⟨_, rfl, ⟨b7, b6, A1, c1, V4, vr, (SlOk.cut0 (SlOk.mono hs1 (vt (vt (vt hV1 hV2) hV3) hV4)) hb4), rfl, (hh.sub (kp1 (kp1 kp0)))⟩⟩
  rintro v w' ⟨b7, b6, A8, c8, V7, hV7, hs9, rfl, hh⟩
  let i2_ : HObj := box b7 78 [.slice (some ⟨b6, 0, none⟩) 1 1, vi 1, vi 2]
  refine ⟨V7, (i2_ :: (box b6 44 v7_) :: []), hh, ?_⟩
  clear hh
  refine T.pk (pB b7 0) (fun _ => by kernel_rfl) (T.nil (T.seq (T.seq (T.region (T.p2 (pB b7 0) (.bool false) (fun _ => by kernel_rfl) (T.nil ?_))))))
  refine T.cond false (by kernel_rfl) (by kernel_rfl) (fun h => Bool.noConfusion h) (fun _ => ?_)
  refine T.skip_code ?_
  refine T.seq (T.seq (T.region (T.p3 (.slice A1 s1.length c1) (vi (s1.length : Int)) (vi 0) (fun _ => by kernel_rfl) (T.nil ?_))))
  refine T.litrow (E := eElem) (f := DElem.cells) (l := [(DElem.mk (DKey.mk 0 1 0) 1 0 (ByteArray.mk #[100]))]) 1 _ (by rfl) (fun _ _ => rfl) (Nat.succ_pos _) (Nat.le_of_ble_eq_true (by rfl)) rfl ?_
  refine T.reH (H' := (i2_ :: (row 44 eElem (some ⟨b6, 0, none⟩) ([(DElem.mk (DKey.mk 0 1 0) 1 0 (ByteArray.mk #[100]))].length) [(DElem.mk (DKey.mk 0 1 0) 1 0 (ByteArray.mk #[100]))]) :: [])) (by rfl) ?_
  refine T.freezeF (E := eElem) (H' := ((box b7 78 [.slice (some ⟨b6, 0, none⟩) ([(DElem.mk (DKey.mk 0 1 0) 1 0 (ByteArray.mk #[100]))].length) ([(DElem.mk (DKey.mk 0 1 0) 1 0 (ByteArray.mk #[100]))].length), vi 1, vi 2]) :: [])) 1 (by rfl) rfl (fun _ _ _ _ h => h) (fun V8 hV8 hs10 => ?_)
  obtain ⟨q2, hz1, hX2⟩ := ob hX2
  refine T.mid (fun a w' => ∃ (z5 : List DElem) (z6 : Int) (z7 : Int), q2 = (z5, z6, z7) ∧ ∃ (A11 : Option Addr) (c11 : Nat) (V10 : View), View.le V8 V10 ∧ SlOk V10 eElem A11 c11 z5 ∧ Fr 26 [(7, pB b7 0)] a ∧ Hp w V10 ((box b7 78 [.slice A11 z5.length c11, vi z6, vi z7]) :: []) w') ?_ ?_
  ·
   refine T.block ?_
   refine T.iter (fun s2 a w' => ∃ (x1 : List DElem) (x2 : Int) (x3 : Int) (x4 : Int), s2 = (x1, x2, x3, x4) ∧ ∃ (A9 : Option Addr) (c9 : Nat) (A10 : Option Addr) (c10 : Nat) (V9 : View), View.le V8 V9 ∧ SlOk V9 eElem A9 c9 x1 ∧ SlOk V9 (eList eInt) A10 c10 s1 ∧ Fr 26 [(1, .slice A2 p1.length c2), (2, .slice A3 p2.length c3), (7, pB b7 0), (13, .slice A10 s1.length c10), (14, vi (s1.length : Int)), (15, vi x4)] a ∧ Hp w V9 ((box b7 78 [.slice A9 x1.length c9, vi x2, vi x3]) :: []) w') hz1 ?_ ?_
   ·
    exact fun a w' hf hh => ⟨[(DElem.mk (DKey.mk 0 1 0) 1 0 (ByteArray.mk #[100]))], 1, 2, 0, rfl, (some ⟨b6, 0, none⟩), ([(DElem.mk (DKey.mk 0 1 0) 1 0 (ByteArray.mk #[100]))].length), A1, c1, V8, vr, (SlOk.mono hs10 (vt (made_le _ _) vr)), (SlOk.cut0 (SlOk.mono hs1 (vt (vt (vt (vt (vt hV1 hV2) hV3) hV4) hV7) hV8)) hb4), (Fr.sel hf rfl), (hh.sub (kp1 kp0))⟩
   rintro s2 y1 hY1 hr1 a w' ⟨x1, x2, x3, x4, rfl, A9, c9, A10, c10, V9, hV9, hs11, hs12, hf, hh⟩
   refine (?_ : T 26 w V9 ((box b7 78 [.slice A9 x1.length c9, vi x2, vi x3]) :: []) [(1, .slice A2 p1.length c2), (2, .slice A3 p2.length c3), (7, pB b7 0), (13, .slice A10 s1.length c10), (14, vi (s1.length : Int)), (15, vi x4)] _) a w' hf hh
   clear hf hh
   try dsimp only at hY1
   refine T.seq (T.region (T.pk (.bool (decide (x4 < (s1.length : Int)))) (fun _ => by kernel_rfl) (T.nil (T.seq ?_))))
   refine T.cond (decide (x4 < (s1.length : Int))) (by kernel_rfl) (by kernel_rfl) (fun hc3 => ?_) (fun hc3 => ?_)
   ·
    rw [hc3, cond_true] at hY1
    refine T.skip_code ?_
    refine T.seq (T.block (T.seq (T.region ?_)))
    obtain ⟨e1, hb5, hY1⟩ := ob hY1
    obtain ⟨hi1, hi2, hi3⟩ := idx_some hb5
    obtain ⟨cs1, hr2, hc4⟩ := SlOk.elem hs12 hi3
    obtain ⟨A12, c12, rfl, hs14⟩ := hr2
    refine T.look (.pointer (some ((sadr A10).add (x4.toNat * 1)))) (by kernel_rfl) (fun w' hh => exec_indexAddr (e := 55) (s := 1) rfl rfl rfl (by kernel_rfl) (by kernel_rfl) hi1 hi2 (hs12.some_ hi3 (by decide))) ?_
    refine T.look (.slice A12 e1.length c12) (by kernel_rfl) (fun w' hh => exec_load1 rfl rfl (by kernel_rfl) (hh.cell_view (View.cell_mono vr (hc4 0 _ rfl).2))) ?_
    refine T.pk (.slice A12 e1.length c12) (fun _ => by kernel_rfl) (T.nil (T.region (T.p4 (pB b7 0) (.slice A12 e1.length c12) (.slice A2 p1.length c2) (.slice A3 p2.length c3) (fun _ => by kernel_rfl) ?_)))
    obtain ⟨r6, hb6, hY1⟩ := ob hY1
    refine T.step (W1.callI 36 [pB b7 0, .slice A12 e1.length c12, .slice A2 p1.length c2, .slice A3 p2.length c3] (fun v w' => ∃ (A13 : Option Addr) (c13 : Nat) (V11 : View), View.le V9 V11 ∧ SlOk V11 eElem A13 c13 r6.1 ∧ v = vi r6.2.2.2 ∧ Hp w V11 ((box b7 78 [.slice A13 r6.1.length c13, vi r6.2.1, vi r6.2.2.1]) :: []) w') (by kernel_rfl) (fun _ => by kernel_rfl) (fun w' hh => annalkeep_act_fr_l F x1 x2 x3 e1 p1 p2 r6 hb6 w hGl b7 A9 c9 A12 c12 A2 c2 A3 c3 V9 [] w' hs11 hs14 (SlOk.mono hs2 (vt (vt (vt (vt (vt (vt hV1 hV2) hV3) hV4) hV7) hV8) hV9)) (SlOk.mono hs3 (vt (vt (vt (vt (vt (vt hV1 hV2) hV3) hV4) hV7) hV8) hV9)) (hh.sub (kp1 kp0))) ?_)
    rintro v w' ⟨A13, c13, V11, hV11, hs15, rfl, hh⟩
    refine ⟨_, _, hh, ?_⟩
    clear hh
    refine T.nil (T.region (T.p2 (vi (IntKind.i64.wrap (x4 + 1))) (vi (IntKind.i64.wrap (x4 + 1))) (fun _ => by kernel_rfl) (T.nil ?_)))
    cases hY1
    exact fun a w' hf hh => ⟨(r6.1, r6.2.1, r6.2.2.1, IntKind.i64.wrap (x4 + 1)), rfl, r6.1, r6.2.1, r6.2.2.1, (IntKind.i64.wrap (x4 + 1)), rfl, A13, c13, A10, c10, V11, (vt hV9 hV11), hs15, (SlOk.mono hs12 hV11), (Fr.sel hf rfl), (hh.sub (kp1 kp0))⟩
   rw [hc3, cond_false] at hY1
   refine T.exit ?_
   cases hY1
   cases (hr1 _ rfl)
   exact fun a w' hf hh => ⟨x1, x2, x3, rfl, A9, c9, V9, hV9, hs11, (Fr.sel hf rfl), (hh.sub (kp1 kp0))⟩
  rintro a w' ⟨z5, z6, z7, rfl, A11, c11, V10, hV10, hs13, hf, hh⟩
  try dsimp only at hX2
  refine (?_ : T 26 w V10 ((box b7 78 [.slice A11 z5.length c11, vi z6, vi z7]) :: []) [(7, pB b7 0)] _) a w' hf hh
  clear hf hh
  refine T.seq (T.region (T.p2 (pB b7 0) (pB b7 0) (fun _ => by kernel_rfl) (T.nil ?_)))
  cases hX2
  refine T.ret rfl ?_
  exact T.ret1 rfl (ResIs.tmp rfl) fun w' hh => ⟨_, rfl, ⟨z5, z6, z7, rfl, b7, A11, c11, A1, c1, V10, (vt (vt hV7 hV8) hV10), hs13, (SlOk.cut0 (SlOk.mono hs1 (vt (vt (vt (vt (vt (vt hV1 hV2) hV3) hV4) hV7) hV8) hV10)) hb4), rfl, (hh.sub (kp1 kp0))⟩⟩
 rintro v w' ⟨z2, z3, z4, rfl, b7, A6, c6, A7, c7, V6, hV6, hs7, hs8, rfl, hh⟩
 try dsimp only at hF
 let i3_ : HObj := box b7 78 [.slice A6 z2.length c6, vi z3, vi z4]
 refine ⟨V6, (i3_ :: []), hh, ?_⟩
 clear hh
 refine T.pk (pB b7 0) (fun _ => by kernel_rfl) (T.nil (T.seq (T.region (T.p2 (vi p3) (pB b7 0) (fun _ => by kernel_rfl) (T.step (W1.within 21 [pB b7 0] (fun v w' => v = vi z3 ∧ Hp w V6 (i3_ :: []) w') Tryz.func21 rfl rfl (by kernel_rfl) (fun _ => by kernel_rfl) rfl ?_ ?_))))))
 ·
  refine T.seq (T.region (T.pk (vi 0) (fun _ => by kernel_rfl) (T.nil (T.seq (T.region (T.p3 (pB b7 0) (pB b7 0) (pB b7 1) (fun _ => by kernel_rfl) (T.look (vi z3) (by kernel_rfl) (ld1 0 rfl rfl (fun _ => by kernel_rfl) (by rfl) rfl) ?_)))))))
  refine T.pk (vi z3) (fun _ => by kernel_rfl) (T.nil ?_)
  refine T.ret rfl ?_
  exact T.ret1 rfl (ResIs.tmp rfl) fun w' hh => ⟨_, rfl, ⟨rfl, (hh.sub (kp1 kp0))⟩⟩
 rintro v w' ⟨rfl, hh⟩
 refine ⟨V6, (i3_ :: []), hh, ?_⟩
 clear hh
 refine T.pk (vi (IntKind.i64.wrap (z3 + 1))) (fun _ => by kernel_rfl) ?_
 obtain ⟨r7, hb7, hF⟩ := ob hF
 refine T.step (W1.call (vSc eInt) r7 22 #[vi p3, vi (IntKind.i64.wrap (z3 + 1))] (by kernel_rfl) (fun _ => by kernel_rfl) (fun w' hh => annalkeep_Within_l p3 (IntKind.i64.wrap (z3 + 1)) r7 hb7 w' ) ?_)
 intro u V12 hV12 hu
 obtain rfl := sureInt _ _ _ hu
 refine T.pk (vi r7) (fun _ => by kernel_rfl) (T.nil (T.seq (T.seq (T.region (T.step (W1.ns 9 [.string (ByteArray.mk #[47])] (fun _ => by kernel_rfl) (fun b8 => ?_)))))))
 refine T.pk (.slice A2 p1.length c2) (fun _ => by kernel_rfl) ?_
 refine T.litrow (E := eStr) (f := (fun x => [.string x])) (l := [(ByteArray.mk #[47])]) 0 _ (by rfl) (fun _ _ => rfl) (Nat.succ_pos _) (Nat.le_of_ble_eq_true (by rfl)) rfl ?_
 refine T.reH (H' := ((row 9 eStr (some ⟨b8, 0, none⟩) ([(ByteArray.mk #[47])].length) [(ByteArray.mk #[47])]) :: i3_ :: [])) (by rfl) ?_
 obtain ⟨y2, hb8, hF⟩ := ob hF
 obtain ⟨hb8_r, hb8_m, rfl⟩ := grow_some hb8
 obtain ⟨ti, hti, hz1, hz2, hz3⟩ := info_parts (P := Tryz.prog) (e := 9) (z := .string (ByteArray.mk #[])) (size := 1) (bytes := 16) (by kernel_rfl)
 refine T.step (W1.append (E := eStr) (l := [(ByteArray.mk #[47])]) (m := p1) 0 _ _ 16 ti _ (by rfl) (by kernel_rfl) rfl (by kernel_rfl) hti hz1 hz2 hz3 rfl (by decide) rfl rfl (fun w' hh => (SlOk.srcF (SlOk.mono (SlOk.mono hs2 (vt (vt (vt (vt (vt hV1 hV2) hV3) hV4) hV6) hV12)) hh.view) (fun _ _ _ _ h => h))) hb8_r hb8_m (fun A14 c14 => ?_))
 refine T.p2 (vi (([(ByteArray.mk #[47])] ++ p1).length : Int)) (vi 0) (fun _ => by kernel_rfl) (T.nil ?_)
 obtain ⟨q3, hz2, hF⟩ := ob hF
 refine T.mid (fun a w' => q3 = Sum.inl () ∧ ∃ (V14 : View), View.le V12 V14 ∧ Fr 153 [] a ∧ Hp w V14 [] w') ?_ ?_
 ·
  refine T.block ?_
  let i4_ : HObj := row 9 eStr A14 c14 ([(ByteArray.mk #[47])] ++ p1)
  let t5_ : List HObj := i4_ :: i3_ :: []
  refine T.iter (fun x5 a w' => ∃ (V13 : View), View.le V12 V13 ∧ Fr 153 [(3, vi r7), (9, pB b7 0), (63, .slice A14 (([(ByteArray.mk #[47])] ++ p1).length) c14), (64, vi (([(ByteArray.mk #[47])] ++ p1).length : Int)), (65, vi x5)] a ∧ Hp w V13 t5_ w') hz2 ?_ ?_
  ·
   exact fun a w' hf hh => ⟨V12, vr, (Fr.sel hf rfl), (hh.sub (kp1 (kp1 kp0)))⟩
  rintro x5 y3 hY2 hr3 a w' ⟨V13, hV13, hf, hh⟩
  refine (?_ : T 153 w V13 t5_ [(3, vi r7), (9, pB b7 0), (63, .slice A14 (([(ByteArray.mk #[47])] ++ p1).length) c14), (64, vi (([(ByteArray.mk #[47])] ++ p1).length : Int)), (65, vi x5)] _) a w' hf hh
  clear hf hh
  try dsimp only at hY2
  refine T.seq (T.region (T.pk (.bool (decide (x5 < (([(ByteArray.mk #[47])] ++ p1).length : Int)))) (fun _ => by kernel_rfl) (T.nil (T.seq ?_))))
  refine T.cond (decide (x5 < (([(ByteArray.mk #[47])] ++ p1).length : Int))) (by kernel_rfl) (by kernel_rfl) (fun hc5 => ?_) (fun hc5 => ?_)
  ·
   rw [hc5, cond_true] at hY2
   refine T.skip_code ?_
   obtain ⟨q4, hX3, hY2⟩ := ob hY2
   refine T.cut (fun a w' => q4 = Sum.inl () ∧ ∃ (V15 : View), View.le V13 V15 ∧ Fr 153 [(3, vi r7), (9, pB b7 0), (63, .slice A14 (([(ByteArray.mk #[47])] ++ p1).length) c14), (64, vi (([(ByteArray.mk #[47])] ++ p1).length : Int)), (65, vi x5)] a ∧ Hp w V15 t5_ w') ?_ ?_
   ·
    refine T.block (T.seq (T.region ?_))
    obtain ⟨e2, hb9, hX3⟩ := ob hX3
    obtain ⟨hi4, hi5, hi6⟩ := idx_some hb9
    refine T.look (.pointer (some ((sadr A14).add (x5.toNat * 1)))) (by kernel_rfl) (ixR 0 (e := 9) (s := 1) rfl rfl rfl (fun _ => by kernel_rfl) hi4 hi5 (by rfl) hi6 (by decide)) ?_
    refine T.look (.string e2) (by kernel_rfl) (fun w' hh => exec_load1 rfl rfl (by kernel_rfl) (SlOk.wcellF0 (E := eStr) (hh.row_slOk (i := 0) (by rfl)) hi6 (fun _ _ _ h => h) rfl)) ?_
    refine T.pk (.string e2) (fun _ => by kernel_rfl) (T.nil (T.seq (T.region (T.p3 (pB b7 0) (.string e2) (vi r7) (fun _ => by kernel_rfl) ?_))))
    obtain ⟨r9, hb10, hX3⟩ := ob hX3
    let t6_ : List HObj := i3_ :: i4_ :: []
    refine T.step (W1.callI 20 [pB b7 0, .string e2, vi r7] (fun v w' => ∃ (V16 : View), View.le V13 V16 ∧ v = .tuple #[.string r9.1, vi r9.2] ∧ Hp w V16 t6_ w') (by kernel_rfl) (fun _ => by kernel_rfl) (fun w' hh => fs_FS_Kind_fr_l F z2 z3 z4 e2 r7 r9 hb10 w hGl b7 A6 c6 V13 (i4_ :: []) w' (SlOk.mono hs7 (vt hV12 hV13)) (hh.ix 2 [1, 0])) ?_)
    rintro v w' ⟨V16, hV16, rfl, hh⟩
    refine ⟨V16, t5_, hh.ix 2 [1, 0], ?_⟩
    clear hh
    refine T.p5 (.tuple #[.string r9.1, vi r9.2]) (.string r9.1) (vi r9.2) (.string r9.1) (vi r9.2) (fun _ => by kernel_rfl) (T.nil (T.seq (T.region (T.p3 (pB b7 0) (.string e2) (vi r7) (fun _ => by kernel_rfl) ?_))))
    obtain ⟨r10, hb11, hX3⟩ := ob hX3
    refine T.step (W1.callI 34 [pB b7 0, .string e2, vi r7] (fun v w' => ∃ (A15 : Option Addr) (c15 : Nat) (V17 : View), View.le V16 V17 ∧ SlOk (made w V17) eStr A15 c15 r10.1 ∧ v = .tuple #[.slice A15 r10.1.length c15, vi r10.2] ∧ Hp w V17 t6_ w') (by kernel_rfl) (fun _ => by kernel_rfl) (fun w' hh => fs_FS_List_fr_l F z2 z3 z4 e2 r7 r10 hb11 w hGl b7 A6 c6 V16 (i4_ :: []) w' (SlOk.mono hs7 (vt (vt hV12 hV13) hV16)) (hh.ix 2 [1, 0])) ?_)
    rintro v w' ⟨A15, c15, V17, hV17, hs16, rfl, hh⟩
    refine ⟨V17, t5_, hh.ix 2 [1, 0], ?_⟩
    clear hh
    refine T.p5 (.tuple #[.slice A15 r10.1.length c15, vi r10.2]) (.slice A15 r10.1.length c15) (vi r10.2) (.slice A15 r10.1.length c15) (vi r10.2) (fun _ => by kernel_rfl) (T.nil (T.seq (T.seq (T.region (T.p2 (vi r9.2) (.bool (r9.2 != 0)) (fun _ => by kernel_rfl) (T.nil ?_))))))
    refine T.cond (r9.2 != 0) (by kernel_rfl) (by kernel_rfl) (fun hc6 => ?_) (fun hc6 => ?_)
    ·
     rw [hc6, cond_true] at hX3
     refine T.seq (T.seq (T.region (T.p3 (vi r10.2) (vi r9.2) (.bool (r10.2 != r9.2)) (fun _ => by kernel_rfl) (T.nil ?_))))
     refine T.cond (r10.2 != r9.2) (by kernel_rfl) (by kernel_rfl) (fun hc7 => ?_) (fun hc7 => ?_)
     ·
      rw [hc7, cond_true] at hX3
      refine T.seq (T.region (T.pk (.bool false) (fun _ => by kernel_rfl) (T.nil ?_)))
      cases hX3
      try dsimp only at hY2
      cases hY2
      cases (hr3 _ rfl)
      try dsimp only at hF
      cases hF
      refine T.ret rfl ?_
      exact T.ret1 rfl (ResIs.tmp rfl) fun w' hh => ⟨_, rfl, hh.below, (show _ from rfl)⟩
     rw [hc7, cond_false] at hX3
     refine T.skip_code ?_
     refine T.exit ?_
     cases hX3
     exact fun a w' hf hh => ⟨rfl, V17, (vt hV16 hV17), (Fr.sel hf rfl), (hh.sub (kp1 (kp1 kp0)))⟩
    rw [hc6, cond_false] at hX3
    refine T.skip_code ?_
    refine T.seq ?_
    refine T.cut (fun a w' => Fr 153 [(3, vi r7), (9, pB b7 0), (13, .string e2), (16, .slice A15 r10.1.length c15), (63, .slice A14 (([(ByteArray.mk #[47])] ++ p1).length) c14), (64, vi (([(ByteArray.mk #[47])] ++ p1).length : Int)), (65, vi x5), (100, .bool ((!((seq r9.1 (ByteArray.mk #[100])) == (r10.2 == 0))) || ((!(seq r9.1 (ByteArray.mk #[100]))) && (!(seq r9.1 (ByteArray.mk #[102]))))))] a ∧ Hp w V17 t5_ w') ?_ ?_
    ·
     refine T.region (T.p6 (.string r9.1) (.bool (seq r9.1 (ByteArray.mk #[100]))) (vi r10.2) (.bool (r10.2 == 0)) (.bool (!((seq r9.1 (ByteArray.mk #[100])) == (r10.2 == 0)))) (.bool (!((seq r9.1 (ByteArray.mk #[100])) == (r10.2 == 0)))) (fun _ => by kernel_rfl) ?_)
     cases hg2 : (!((seq r9.1 (ByteArray.mk #[100])) == (r10.2 == 0)))
     ·
      skip
      refine T.p3 (.string r9.1) (.bool (!(seq r9.1 (ByteArray.mk #[100])))) (.bool (!(seq r9.1 (ByteArray.mk #[100])))) (fun _ => by kernel_rfl) ?_
      cases hg3 : (!(seq r9.1 (ByteArray.mk #[100])))
      ·
       skip
       refine T.pass (by kernel_rfl) (by kernel_rfl) (T.pass (by kernel_rfl) (by kernel_rfl) (T.p2 (.bool false) (.bool false) (fun _ => by kernel_rfl) (T.nil ?_)))
       exact fun a w' hf hh => ⟨(Fr.sel hf rfl), (hh.sub (kp1 (kp1 kp0)))⟩
      skip
      refine T.p4 (.string r9.1) (.bool (!(seq r9.1 (ByteArray.mk #[102])))) (.bool (!(seq r9.1 (ByteArray.mk #[102])))) (.bool (!(seq r9.1 (ByteArray.mk #[102])))) (fun _ => by kernel_rfl) (T.nil ?_)
      exact fun a w' hf hh => ⟨(Fr.sel hf rfl), (hh.sub (kp1 (kp1 kp0)))⟩
     skip
     refine T.pass (by kernel_rfl) (by kernel_rfl) (T.pass (by kernel_rfl) (by kernel_rfl) (T.pass (by kernel_rfl) (by kernel_rfl) (T.pass (by kernel_rfl) (by kernel_rfl) (T.pass (by kernel_rfl) (by kernel_rfl) (T.pass (by kernel_rfl) (by kernel_rfl) (T.pk (.bool true) (fun _ => by kernel_rfl) (T.nil ?_)))))))
     exact fun a w' hf hh => ⟨(Fr.sel hf rfl), (hh.sub (kp1 (kp1 kp0)))⟩
    rintro a w' ⟨hf, hh⟩
    refine (?_ : T 153 w V17 t5_ [(3, vi r7), (9, pB b7 0), (13, .string e2), (16, .slice A15 r10.1.length c15), (63, .slice A14 (([(ByteArray.mk #[47])] ++ p1).length) c14), (64, vi (([(ByteArray.mk #[47])] ++ p1).length : Int)), (65, vi x5), (100, .bool ((!((seq r9.1 (ByteArray.mk #[100])) == (r10.2 == 0))) || ((!(seq r9.1 (ByteArray.mk #[100]))) && (!(seq r9.1 (ByteArray.mk #[102]))))))] _) a w' hf hh
    clear hf hh
    refine T.cond ((!((seq r9.1 (ByteArray.mk #[100])) == (r10.2 == 0))) || ((!(seq r9.1 (ByteArray.mk #[100]))) && (!(seq r9.1 (ByteArray.mk #[102]))))) (by kernel_rfl) (by kernel_rfl) (fun hc8 => ?_) (fun hc8 => ?_)
    ·
     rw [hc8, cond_true] at hX3
     refine T.seq (T.region (T.pk (.bool false) (fun _ => by kernel_rfl) (T.nil ?_)))
     cases hX3
     try dsimp only at hY2
     cases hY2
     cases (hr3 _ rfl)
     try dsimp only at hF
     cases hF
     refine T.ret rfl ?_
     exact T.ret1 rfl (ResIs.tmp rfl) fun w' hh => ⟨_, rfl, hh.below, (show _ from rfl)⟩
    rw [hc8, cond_false] at hX3
    refine T.skip_code ?_
    refine T.seq (T.seq (T.region (T.p3 (.slice A15 r10.1.length c15) (vi (r10.1.length : Int)) (vi 0) (fun _ => by kernel_rfl) (T.nil ?_))))
    obtain ⟨q5, hz3, hX3⟩ := ob hX3
    refine T.mid (fun a w' => q5 = Sum.inl () ∧ ∃ (V19 : View), View.le V17 V19 ∧ Fr 153 [(3, vi r7), (9, pB b7 0), (13, .string e2), (63, .slice A14 (([(ByteArray.mk #[47])] ++ p1).length) c14), (64, vi (([(ByteArray.mk #[47])] ++ p1).length : Int)), (65, vi x5)] a ∧ Hp w V19 t5_ w') ?_ ?_
    ·
     refine T.block ?_
     refine T.iter (fun x6 a w' => ∃ (V18 : View), View.le V17 V18 ∧ Fr 153 [(3, vi r7), (9, pB b7 0), (13, .string e2), (63, .slice A14 (([(ByteArray.mk #[47])] ++ p1).length) c14), (64, vi (([(ByteArray.mk #[47])] ++ p1).length : Int)), (65, vi x5), (101, .slice A15 r10.1.length c15), (102, vi (r10.1.length : Int)), (103, vi x6)] a ∧ Hp w V18 t5_ w') hz3 ?_ ?_
     ·
      exact fun a w' hf hh => ⟨V17, vr, (Fr.sel hf rfl), (hh.sub (kp1 (kp1 kp0)))⟩
     rintro x6 y4 hY3 hr4 a w' ⟨V18, hV18, hf, hh⟩
     refine (?_ : T 153 w V18 t5_ [(3, vi r7), (9, pB b7 0), (13, .string e2), (63, .slice A14 (([(ByteArray.mk #[47])] ++ p1).length) c14), (64, vi (([(ByteArray.mk #[47])] ++ p1).length : Int)), (65, vi x5), (101, .slice A15 r10.1.length c15), (102, vi (r10.1.length : Int)), (103, vi x6)] _) a w' hf hh
     clear hf hh
     try dsimp only at hY3
     refine T.seq (T.region (T.pk (.bool (decide (x6 < (r10.1.length : Int)))) (fun _ => by kernel_rfl) (T.nil (T.seq ?_))))
     refine T.cond (decide (x6 < (r10.1.length : Int))) (by kernel_rfl) (by kernel_rfl) (fun hc9 => ?_) (fun hc9 => ?_)
     ·
      rw [hc9, cond_true] at hY3
      refine T.skip_code ?_
      obtain ⟨q6, hX4, hY3⟩ := ob hY3
      refine T.cut (fun a w' => q6 = Sum.inl () ∧ ∃ (V20 : View), View.le V18 V20 ∧ Fr 153 [(3, vi r7), (9, pB b7 0), (13, .string e2), (63, .slice A14 (([(ByteArray.mk #[47])] ++ p1).length) c14), (64, vi (([(ByteArray.mk #[47])] ++ p1).length : Int)), (65, vi x5), (101, .slice A15 r10.1.length c15), (102, vi (r10.1.length : Int)), (103, vi x6)] a ∧ Hp w V20 t5_ w') ?_ ?_
      ·
       refine T.block (T.seq (T.region ?_))
       obtain ⟨e3, hb12, hX4⟩ := ob hX4
       obtain ⟨hi7, hi8, hi9⟩ := idx_some hb12
       refine T.look (.pointer (some ((sadr A15).add (x6.toNat * 1)))) (by kernel_rfl) (fun w' hh => exec_indexAddr (e := 9) (s := 1) rfl rfl rfl (by kernel_rfl) (by kernel_rfl) hi7 hi8 ((SlOk.mono hs16 (vt (made_le _ _) hV18)).some_ hi9 (by decide))) ?_
       refine T.look (.string e3) (by kernel_rfl) (fun w' hh => exec_load1 rfl rfl (by kernel_rfl) (hh.cell_view (SlOk.cellF0 (E := eStr) (SlOk.mono hs16 (vt (made_le _ _) hV18)) hi9 (fun _ _ _ h => h) rfl))) ?_
       refine T.pk (.string e3) (fun _ => by kernel_rfl) (T.nil (T.seq (T.region (T.pk (.string e2) (fun _ => by kernel_rfl) ?_))))
       obtain ⟨r11, hb13, hX4⟩ := ob hX4
       refine T.step (W1.call (vSc eStr) r11 40 #[.string e2, .string (ByteArray.mk #[47])] (by kernel_rfl) (fun _ => by kernel_rfl) (fun w' hh => strings_TrimSuffix_l e2 (ByteArray.mk #[47]) r11 hb13 w' ) ?_)
       intro u V21 hV21 hu
       obtain rfl := sureStr _ _ _ hu
       obtain ⟨s3, hb14, hX4⟩ := ob hX4
       refine T.look (.string s3) (by kernel_rfl) (fun w' hh => exec_scat rfl rfl rfl hb14) ?_
       refine T.pk (.string e3) (fun _ => by kernel_rfl) ?_
       obtain ⟨s4, hb15, hX4⟩ := ob hX4
       refine T.look (.string s4) (by kernel_rfl) (fun w' hh => exec_scat rfl rfl rfl hb15) ?_
       refine T.pk (.string s4) (fun _ => by kernel_rfl) (T.nil (T.seq (T.seq (T.region (T.pk (.string s4) (fun _ => by kernel_rfl) ?_)))))
       obtain ⟨r12, hb16, hX4⟩ := ob hX4
       refine T.step (W1.call (vSc eInt) r12 41 #[.string s4, .string (ByteArray.mk #[47])] (by kernel_rfl) (fun _ => by kernel_rfl) (fun w' hh => strings_Count_l s4 (ByteArray.mk #[47]) r12 hb16 w' ) ?_)
       intro u V22 hV22 hu
       obtain rfl := sureInt _ _ _ hu
       refine T.pk (.bool (decide ((6 : Int) < r12))) (fun _ => by kernel_rfl) (T.nil ?_)
       refine T.cond (decide ((6 : Int) < r12)) (by kernel_rfl) (by kernel_rfl) (fun hc10 => ?_) (fun hc10 => ?_)
       ·
        rw [hc10, cond_true] at hX4
        refine T.exit ?_
        cases hX4
        exact fun a w' hf hh => ⟨rfl, V22, (vt hV21 hV22), (Fr.sel hf rfl), (hh.sub (kp1 (kp1 kp0)))⟩
       rw [hc10, cond_false] at hX4
       refine T.skip_code ?_
       refine T.seq (T.region (T.p3 (pB b7 0) (.string s4) (vi r7) (fun _ => by kernel_rfl) ?_))
       obtain ⟨r13, hb17, hX4⟩ := ob hX4
       refine T.step (W1.callI 20 [pB b7 0, .string s4, vi r7] (fun v w' => ∃ (V23 : View), View.le V22 V23 ∧ v = .tuple #[.string r13.1, vi r13.2] ∧ Hp w V23 t6_ w') (by kernel_rfl) (fun _ => by kernel_rfl) (fun w' hh => fs_FS_Kind_fr_l F z2 z3 z4 s4 r7 r13 hb17 w hGl b7 A6 c6 V22 (i4_ :: []) w' (SlOk.mono hs7 (vt (vt (vt (vt (vt (vt hV12 hV13) hV16) hV17) hV18) hV21) hV22)) (hh.ix 2 [1, 0])) ?_)
       rintro v w' ⟨V23, hV23, rfl, hh⟩
       refine ⟨V23, t5_, hh.ix 2 [1, 0], ?_⟩
       clear hh
       refine T.p5 (.tuple #[.string r13.1, vi r13.2]) (.string r13.1) (vi r13.2) (.string r13.1) (vi r13.2) (fun _ => by kernel_rfl) (T.nil (T.seq (T.region (T.p2 (vi r13.2) (.bool (r13.2 != 0)) (fun _ => by kernel_rfl) (T.nil ?_)))))
       refine T.cond (r13.2 != 0) (by kernel_rfl) (by kernel_rfl) (fun hc11 => ?_) (fun hc11 => ?_)
       ·
        rw [hc11, cond_true] at hX4
        refine T.seq (T.region (T.pk (.bool false) (fun _ => by kernel_rfl) (T.nil ?_)))
        cases hX4
        try dsimp only at hY3
        cases hY3
        cases (hr4 _ rfl)
        try dsimp only at hX3
        cases hX3
        try dsimp only at hY2
        cases hY2
        cases (hr3 _ rfl)
        try dsimp only at hF
        cases hF
        refine T.ret rfl ?_
        exact T.ret1 rfl (ResIs.tmp rfl) fun w' hh => ⟨_, rfl, hh.below, (show _ from rfl)⟩
       rw [hc11, cond_false] at hX4
       refine T.skip_code ?_
       cases hX4
       exact fun a w' hf hh => ⟨rfl, V23, (vt (vt hV21 hV22) hV23), (Fr.sel hf rfl), (hh.sub (kp1 (kp1 kp0)))⟩
      rintro a w' ⟨rfl, V20, hV20, hf, hh⟩
      try dsimp only at hY3
      refine (?_ : T 153 w V20 t5_ [(3, vi r7), (9, pB b7 0), (13, .string e2), (63, .slice A14 (([(ByteArray.mk #[47])] ++ p1).length) c14), (64, vi (([(ByteArray.mk #[47])] ++ p1).length : Int)), (65, vi x5), (101, .slice A15 r10.1.length c15), (102, vi (r10.1.length : Int)), (103, vi x6)] _) a w' hf hh
      clear hf hh
      refine T.region (T.p2 (vi (IntKind.i64.wrap (x6 + 1))) (vi (IntKind.i64.wrap (x6 + 1))) (fun _ => by kernel_rfl) (T.nil ?_))
      cases hY3
      exact fun a w' hf hh => ⟨(IntKind.i64.wrap (x6 + 1)), rfl, V20, (vt hV18 hV20), (Fr.sel hf rfl), (hh.sub (kp1 (kp1 kp0)))⟩
     rw [hc9, cond_false] at hY3
     refine T.exit ?_
     cases hY3
     cases (hr4 _ rfl)
     exact fun a w' hf hh => ⟨rfl, V18, hV18, (Fr.sel hf rfl), (hh.sub (kp1 (kp1 kp0)))⟩
    rintro a w' ⟨rfl, V19, hV19, hf, hh⟩
    try dsimp only at hX3
    refine (?_ : T 153 w V19 t5_ [(3, vi r7), (9, pB b7 0), (13, .string e2), (63, .slice A14 (([(ByteArray.mk #[47])] ++ p1).length) c14), (64, vi (([(ByteArray.mk #[47])] ++ p1).length : Int)), (65, vi x5)] _) a w' hf hh
    clear hf hh
    refine T.seq (T.region (T.pk (.string e2) (fun _ => by kernel_rfl) ?_))
    obtain ⟨r14, hb18, hX3⟩ := ob hX3
    refine T.step (W1.call (vSc eInt) r14 42 #[.string e2, .int .u8 47] (by kernel_rfl) (fun _ => by kernel_rfl) (fun w' hh => strings_LastIndexByte_l e2 47 r14 hb18 w' ) ?_)
    intro u V24 hV24 hu
    obtain rfl := sureInt _ _ _ hu
    refine T.pk (vi r14) (fun _ => by kernel_rfl) (T.nil (T.seq (T.region (T.p2 (.string e2) (.bool (!(seq e2 (ByteArray.mk #[47])))) (fun _ => by kernel_rfl) (T.nil ?_)))))
    refine T.cond (!(seq e2 (ByteArray.mk #[47]))) (by kernel_rfl) (by kernel_rfl) (fun hc12 => ?_) (fun hc12 => ?_)
    ·
     rw [hc12, cond_true] at hX3
     refine T.seq (T.region (T.p2 (.string e2) (vi r14) (fun _ => by kernel_rfl) ?_))
     obtain ⟨s5, hb19, hX3⟩ := ob hX3
     refine T.look (.string s5) (by kernel_rfl) (fun w' hh => exec_slice_str_hi rfl rfl rfl (by kernel_rfl) hb19) ?_
     refine T.pk (.string s5) (fun _ => by kernel_rfl) (T.nil ?_)
     obtain ⟨z8, hX5, hX3⟩ := ob hX3
     refine T.cut (fun a w' => Fr 153 [(3, vi r7), (9, pB b7 0), (13, .string e2), (23, vi r14), (24, .string z8), (63, .slice A14 (([(ByteArray.mk #[47])] ++ p1).length) c14), (64, vi (([(ByteArray.mk #[47])] ++ p1).length : Int)), (65, vi x5)] a ∧ Hp w V24 t5_ w') ?_ ?_
     ·
      refine T.seq (T.region (T.p2 (.string s5) (.bool (seq s5 (ByteArray.mk #[]))) (fun _ => by kernel_rfl) (T.nil ?_)))
      refine T.cond (seq s5 (ByteArray.mk #[])) (by kernel_rfl) (by kernel_rfl) (fun hc13 => ?_) (fun hc13 => ?_)
      ·
       rw [hc13, cond_true] at hX5
       refine T.region (T.pk (.string (ByteArray.mk #[47])) (fun _ => by kernel_rfl) (T.nil ?_))
       cases hX5
       exact fun a w' hf hh => ⟨(Fr.sel hf rfl), (hh.sub (kp1 (kp1 kp0)))⟩
      rw [hc13, cond_false] at hX5
      refine T.skip_code ?_
      cases hX5
      exact fun a w' hf hh => ⟨(Fr.sel hf rfl), (hh.sub (kp1 (kp1 kp0)))⟩
     rintro a w' ⟨hf, hh⟩
     refine (?_ : T 153 w V24 t5_ [(3, vi r7), (9, pB b7 0), (13, .string e2), (23, vi r14), (24, .string z8), (63, .slice A14 (([(ByteArray.mk #[47])] ++ p1).length) c14), (64, vi (([(ByteArray.mk #[47])] ++ p1).length : Int)), (65, vi x5)] _) a w' hf hh
     clear hf hh
     refine T.seq (T.region (T.p3 (pB b7 0) (.string z8) (vi r7) (fun _ => by kernel_rfl) ?_))
     obtain ⟨r15, hb20, hX3⟩ := ob hX3
     refine T.step (W1.callI 34 [pB b7 0, .string z8, vi r7] (fun v w' => ∃ (A16 : Option Addr) (c16 : Nat) (V25 : View), View.le V24 V25 ∧ SlOk (made w V25) eStr A16 c16 r15.1 ∧ v = .tuple #[.slice A16 r15.1.length c16, vi r15.2] ∧ Hp w V25 t6_ w') (by kernel_rfl) (fun _ => by kernel_rfl) (fun w' hh => fs_FS_List_fr_l F z2 z3 z4 z8 r7 r15 hb20 w hGl b7 A6 c6 V24 (i4_ :: []) w' (SlOk.mono hs7 (vt (vt (vt (vt (vt hV12 hV13) hV16) hV17) hV19) hV24)) (hh.ix 2 [1, 0])) ?_)
     rintro v w' ⟨A16, c16, V25, hV25, hs17, rfl, hh⟩
     refine ⟨V25, t5_, hh.ix 2 [1, 0], ?_⟩
     clear hh
     refine T.p5 (.tuple #[.slice A16 r15.1.length c16, vi r15.2]) (.slice A16 r15.1.length c16) (vi r15.2) (.slice A16 r15.1.length c16) (vi r15.2) (fun _ => by kernel_rfl) (T.nil ?_)
     obtain ⟨z9, hX6, hX3⟩ := ob hX3
     refine T.cut (fun a w' => ∃ (V26 : View), View.le V25 V26 ∧ Fr 153 [(3, vi r7), (9, pB b7 0), (63, .slice A14 (([(ByteArray.mk #[47])] ++ p1).length) c14), (64, vi (([(ByteArray.mk #[47])] ++ p1).length : Int)), (65, vi x5), (151, .bool z9)] a ∧ Hp w V26 t5_ w') ?_ ?_
     ·
      refine T.region (T.p3 (vi r15.2) (.bool (r15.2 != 0)) (.bool (r15.2 != 0)) (fun _ => by kernel_rfl) ?_)
      cases hg4 : (r15.2 != 0)
      ·
       skip
       rw [hg4, cond_false] at hX6
       refine T.p4 (.slice A16 r15.1.length c16) (.string e2) (vi r14) (vi (IntKind.i64.wrap (r14 + 1))) (fun _ => by kernel_rfl) ?_
       obtain ⟨s6, hb21, hX6⟩ := ob hX6
       refine T.look (.string s6) (by kernel_rfl) (fun w' hh => exec_slice_str_lo rfl rfl rfl (by kernel_rfl) hb21) ?_
       obtain ⟨r16, hb22, hX6⟩ := ob hX6
       refine T.step (W1.call (vSc eBool) r16 43 #[.slice A16 r15.1.length c16, .string s6] (by kernel_rfl) (fun _ => by kernel_rfl) (fun w' hh => slices_Contains_string_l F r15.1 s6 r16 hb22 w' A16 c16 (SlOk.mono (SlOk.mono hs17 (vt (made_le _ _) vr)) hh.view)) ?_)
       intro u V27 hV27 hu
       obtain rfl := sureBool _ _ _ hu
       refine T.p2 (.bool (!r16)) (.bool (!r16)) (fun _ => by kernel_rfl) (T.nil ?_)
       cases hX6
       exact fun a w' hf hh => ⟨V27, hV27, (Fr.sel hf rfl), (hh.sub (kp1 (kp1 kp0)))⟩
      skip
      rw [hg4, cond_true] at hX6
      refine T.pass (by kernel_rfl) (by kernel_rfl) (T.pass (by kernel_rfl) (by kernel_rfl) (T.pass (by kernel_rfl) (by kernel_rfl) (T.pass (by kernel_rfl) (by kernel_rfl) (T.pass (by kernel_rfl) (by kernel_rfl) (T.pass (by kernel_rfl) (by kernel_rfl) (T.pass (by kernel_rfl) (by kernel_rfl) (T.pk (.bool true) (fun _ => by kernel_rfl) (T.nil ?_))))))))
      cases hX6
      exact fun a w' hf hh => ⟨V25, vr, (Fr.sel hf rfl), (hh.sub (kp1 (kp1 kp0)))⟩
     rintro a w' ⟨V26, hV26, hf, hh⟩
     refine (?_ : T 153 w V26 t5_ [(3, vi r7), (9, pB b7 0), (63, .slice A14 (([(ByteArray.mk #[47])] ++ p1).length) c14), (64, vi (([(ByteArray.mk #[47])] ++ p1).length : Int)), (65, vi x5), (151, .bool z9)] _) a w' hf hh
     clear hf hh
     refine T.cond z9 (by kernel_rfl) (by kernel_rfl) (fun hc14 => ?_) (fun hc14 => ?_)
     ·
      rw [hc14, cond_true] at hX3
      refine T.seq (T.region (T.pk (.bool false) (fun _ => by kernel_rfl) (T.nil ?_)))
      cases hX3
      try dsimp only at hY2
      cases hY2
      cases (hr3 _ rfl)
      try dsimp only at hF
      cases hF
      refine T.ret rfl ?_
      exact T.ret1 rfl (ResIs.tmp rfl) fun w' hh => ⟨_, rfl, hh.below, (show _ from rfl)⟩
     rw [hc14, cond_false] at hX3
     refine T.skip_code ?_
     cases hX3
     exact fun a w' hf hh => ⟨rfl, V26, (vt (vt (vt (vt (vt hV16 hV17) hV19) hV24) hV25) hV26), (Fr.sel hf rfl), (hh.sub (kp1 (kp1 kp0)))⟩
    rw [hc12, cond_false] at hX3
    refine T.skip_code ?_
    cases hX3
    exact fun a w' hf hh => ⟨rfl, V24, (vt (vt (vt hV16 hV17) hV19) hV24), (Fr.sel hf rfl), (hh.sub (kp1 (kp1 kp0)))⟩
   rintro a w' ⟨rfl, V15, hV15, hf, hh⟩
   try dsimp only at hY2
   refine (?_ : T 153 w V15 t5_ [(3, vi r7), (9, pB b7 0), (63, .slice A14 (([(ByteArray.mk #[47])] ++ p1).length) c14), (64, vi (([(ByteArray.mk #[47])] ++ p1).length : Int)), (65, vi x5)] _) a w' hf hh
   clear hf hh
   refine T.region (T.p2 (vi (IntKind.i64.wrap (x5 + 1))) (vi (IntKind.i64.wrap (x5 + 1))) (fun _ => by kernel_rfl) (T.nil ?_))
   cases hY2
   exact fun a w' hf hh => ⟨(IntKind.i64.wrap (x5 + 1)), rfl, V15, (vt hV13 hV15), (Fr.sel hf rfl), (hh.sub (kp1 (kp1 kp0)))⟩
  rw [hc5, cond_false] at hY2
  refine T.exit ?_
  cases hY2
  cases (hr3 _ rfl)
  exact fun a w' hf hh => ⟨rfl, V13, hV13, (Fr.nil hf), (hh.sub (dr1 (dr1 kp0)))⟩
 rintro a w' ⟨rfl, V14, hV14, hf, hh⟩
 try dsimp only at hF
 refine (?_ : T 153 w V14 [] [] _) a w' hf hh
 clear hf hh
 refine T.seq (T.region (T.pk (.bool true) (fun _ => by kernel_rfl) (T.nil ?_)))
 cases hF
 refine T.ret rfl ?_
 exact T.ret1 rfl (ResIs.tmp rfl) fun w' hh => ⟨_, rfl, hh.below, (show _ from rfl)⟩
end Go.Proofs.YtacjdfhllomccaaGreatDoor
/- Plain Lean: keys and records. Its conditions: none. -/
namespace Go.Proofs.YtacjdfhllomccaaGreatDoor
set_option linter.unusedVariables false
set_option linter.unusedSimpArgs false
def ord (a b : Int) : Int := if a < b then -1 else if b < a then 1 else 0
theorem key_order_eq (a b : Int) : key_order a b = some (ord a b) := by
 unfold key_order ord
 simp only [Bool.cond_eq_ite, decide_eq_true_eq]
 split
 · rfl
 · split <;> rfl
structure Cmp {α : Type} (f : α → α → Int) : Prop where
 one : ∀ a b, f a b = -1 ∨ f a b = 0 ∨ f a b = 1
 neg : ∀ a b, f a b = - f b a
 zero : ∀ a b, f a b = 0 ↔ a = b
 trans : ∀ a b c, f a b ≤ 0 → f b c ≤ 0 → f a c ≤ 0
theorem cmp_ord : Cmp ord := by
 refine ⟨fun a b => ?_, fun a b => ?_, fun a b => ?_, fun a b c => ?_⟩ <;> unfold ord <;> (repeat' split) <;> omega
def lex {α β γ : Type} (p : γ → α) (q : γ → β) (f : α → α → Int) (g : β → β → Int) (x y : γ) : Int := if f (p x) (p y) ≠ 0 then f (p x) (p y) else g (q x) (q y)
theorem Cmp.lexic {α β γ : Type} {p : γ → α} {q : γ → β} {f : α → α → Int} {g : β → β → Int} (hf : Cmp f) (hg : Cmp g) (hpq : ∀ x y, p x = p y → q x = q y → x = y) : Cmp (lex p q f g) := by
 have le : ∀ x y, lex p q f g x y ≤ 0 ↔ (f (p x) (p y) < 0 ∨ f (p x) (p y) = 0 ∧ g (q x) (q y) ≤ 0) := fun x y => by
  unfold lex
  split <;> omega
 refine ⟨fun a b => ?_, fun a b => ?_, fun a b => ?_, fun a b c h1 h2 => ?_⟩
 · unfold lex
   split
   · exact hf.one _ _
   · exact hg.one _ _
 · have h1 := hf.neg (p a) (p b)
   have h2 := hg.neg (q a) (q b)
   unfold lex
   split <;> split <;> omega
 · unfold lex
   split
   · rename_i h
     refine ⟨fun h' => absurd h' h, fun h' => ?_⟩
     subst h'
     exact absurd ((hf.zero _ _).2 rfl) h
   · rename_i h
     have h0 : p a = p b := (hf.zero _ _).1 (by omega)
     rw [hg.zero]
     exact ⟨hpq a b h0, fun h' => by rw [h']⟩
 · rw [le] at h1 h2 ⊢
   have ht := hf.trans (p a) (p b) (p c) (by omega) (by omega)
   rcases Int.lt_or_eq_of_le ht with h | h
   · exact .inl h
   · right
     refine ⟨h, ?_⟩
     have hac := (hf.zero _ _).1 h
     have h3 := hf.neg (p a) (p b)
     rw [hac] at h1 h3
     have h4 : f (p c) (p b) = 0 := by omega
     have h5 : f (p b) (p c) = 0 := by omega
     exact hg.trans _ (q b) _ (by omega) (by omega)
def cmpK : DKey → DKey → Int := lex DKey.pfs (fun k => k) ord (lex DKey.obj DKey.off ord ord)
theorem cmpK_def (a b : DKey) : cmpK a b = if ord a.pfs b.pfs ≠ 0 then ord a.pfs b.pfs else if ord a.obj b.obj ≠ 0 then ord a.obj b.obj else ord a.off b.off := rfl
theorem cmp_cmpK : Cmp cmpK := by
 have h : Cmp (lex Prod.fst Prod.snd ord (lex Prod.fst Prod.snd ord ord) : Int × Int × Int → Int × Int × Int → Int) :=
  cmp_ord.lexic (cmp_ord.lexic cmp_ord fun x y h1 h2 => Prod.ext h1 h2) fun x y h1 h2 => Prod.ext h1 h2
 have e : ∀ a b : DKey, cmpK a b = lex Prod.fst Prod.snd ord (lex Prod.fst Prod.snd ord ord) (a.pfs, a.obj, a.off) (b.pfs, b.obj, b.off) := fun _ _ => rfl
 refine ⟨fun a b => ?_, fun a b => ?_, fun a b => ?_, fun a b c => ?_⟩
 · rw [e]; exact h.one _ _
 · rw [e, e]; exact h.neg _ _
 · rw [e, h.zero]
   obtain ⟨a1, a2, a3⟩ := a
   obtain ⟨b1, b2, b3⟩ := b
   simp
 · rw [e, e, e]; exact h.trans _ _ _
theorem key_Cmp_eq (a b : DKey) : key_Cmp a b = some (cmpK a b) := by
 unfold key_Cmp
 rw [cmpK_def]
 simp only [key_order_eq, Option.bind_some, Bool.cond_eq_ite, bne_iff_ne, ne_eq]
 by_cases h1 : ord a.pfs b.pfs = 0
 · by_cases h2 : ord a.obj b.obj = 0
   · by_cases h3 : ord a.off b.off = 0 <;> simp [h1, h2, h3]
   · simp [h1, h2]
 · simp [h1]
def cmpS : DSpot → DSpot → Int := lex DSpot.key DSpot.made cmpK ord
theorem cmpS_def (a b : DSpot) : cmpS a b = if cmpK a.key b.key ≠ 0 then cmpK a.key b.key else ord a.made b.made := rfl
theorem cmp_cmpS : Cmp cmpS := cmp_cmpK.lexic cmp_ord fun x y h1 h2 => by
 obtain ⟨x1, x2⟩ := x
 obtain ⟨y1, y2⟩ := y
 simp_all
theorem key_CmpSpot_eq (a b : DSpot) : key_CmpSpot a b = some (cmpS a b) := by
 unfold key_CmpSpot
 rw [cmpS_def]
 simp only [key_order_eq, key_Cmp_eq, Option.bind_some, Bool.cond_eq_ite, bne_iff_ne, ne_eq]
 by_cases h1 : cmpK a.key b.key = 0 <;> simp [h1]
def live (e : DElem) (t : Int) : Bool := decide (e.made ≤ t) && (e.gone == 0 || decide (t < e.gone))
theorem elem_Live_eq (e : DElem) (t : Int) : elem_Live e t = some (live e t) := by
 unfold elem_Live live
 simp
def lastE (e : DElem) : Int := if e.made < e.gone then e.gone else e.made
theorem elem_Last_eq (e : DElem) : elem_Last e = some (lastE e) := by
 unfold elem_Last lastE
 simp
def chkK (k : DKey) : Int := if k.pfs < 0 ∨ 15 < k.pfs ∨ k.obj < 0 ∨ 1048576 < k.obj ∨ k.off < 0 ∨ 1073741824 < k.off then 1 else 0
theorem key_Check_eq (k : DKey) : key_Check k = some (chkK k) := by
 unfold key_Check chkK
 simp only [Bool.cond_eq_ite, Bool.or_eq_true, decide_eq_true_eq]
 split <;> rfl
def chkE (e : DElem) : Int :=
 if chkK e.key ≠ 0 then 1 else if e.made < 1 ∨ 2147483647 < e.made ∨ e.gone ≠ 0 ∧ (e.gone ≤ e.made ∨ 2147483647 < e.gone) then 9 else if 40 < e.val.size then 2 else 0
theorem chkK_one (k : DKey) : chkK k = 0 ∨ chkK k = 1 := by unfold chkK; split <;> simp
theorem elem_Check_eq (e : DElem) : elem_Check e = some (chkE e) := by
 unfold elem_Check chkE
 simp only [key_Check_eq, Option.bind_some, Bool.cond_eq_ite, Bool.or_eq_true, Bool.and_eq_true, decide_eq_true_eq, bne_iff_ne, ne_eq]
 rcases chkK_one e.key with h | h
 · simp only [h, not_true_eq_false, if_false]
   by_cases h1 : e.made < 1 ∨ 2147483647 < e.made ∨ ¬e.gone = 0 ∧ (e.gone ≤ e.made ∨ 2147483647 < e.gone)
   · rw [if_pos h1, if_pos h1]
   · rw [if_neg h1, if_neg h1]
     by_cases h2 : 40 < e.val.size
     · rw [if_pos h2, if_pos (by omega)]
     · rw [if_neg h2, if_neg (by omega)]
 · simp [h]
theorem chkE_ok {e : DElem} (h : chkE e = 0) : chkK e.key = 0 ∧ 1 ≤ e.made ∧ e.made ≤ 2147483647 ∧ (e.gone = 0 ∨ e.made < e.gone ∧ e.gone ≤ 2147483647) ∧ e.val.size ≤ 40 := by
 unfold chkE at h
 split at h
 · cases h
 · split at h
   · cases h
   · split at h
     · cases h
     · rename_i h1 h2 h3
       refine ⟨by simpa using h1, ?_⟩
       omega
theorem wrap_i64 {x : Int} (h1 : -9223372036854775808 ≤ x) (h2 : x < 9223372036854775808) : IntKind.i64.wrap x = x := by
 rw [IntKind.wrap_i64]
 omega
end Go.Proofs.YtacjdfhllomccaaGreatDoor
/- Plain Lean: right runs, as lists of records by key. Its conditions: none. -/
namespace Go.Proofs.YtacjdfhllomccaaGreatDoor
set_option linter.unusedVariables false
set_option linter.unusedSimpArgs false
theorem ord_lt {a b : Int} : ord a b < 0 ↔ a < b := by unfold ord; (repeat' split) <;> omega
theorem Cmp.refl {α : Type} {f : α → α → Int} (h : Cmp f) (a : α) : f a a = 0 := (h.zero a a).2 rfl
theorem Cmp.lt_trans {α : Type} {f : α → α → Int} (h : Cmp f) {a b c : α} (h1 : f a b < 0) (h2 : f b c < 0) : f a c < 0 := by
 have h3 := h.trans a b c (by omega) (by omega)
 rcases Int.lt_or_eq_of_le h3 with h4 | h4
 · exact h4
 · have := (h.zero _ _).1 h4
   subst this
   have := h.neg a b
   omega
theorem Cmp.lt_le {α : Type} {f : α → α → Int} (h : Cmp f) {a b c : α} (h1 : f a b < 0) (h2 : f b c ≤ 0) : f a c < 0 := by
 rcases Int.lt_or_eq_of_le h2 with h3 | h3
 · exact h.lt_trans h1 h3
 · have := (h.zero _ _).1 h3; subst this; exact h1
theorem Cmp.pos {α : Type} {f : α → α → Int} (h : Cmp f) {a b : α} : 0 < f a b ↔ f b a < 0 := by
 have := h.neg a b; omega
theorem Cmp.tri {α : Type} {f : α → α → Int} (h : Cmp f) (a b : α) : f a b < 0 ∨ a = b ∨ f b a < 0 := by
 have h1 := h.neg a b
 rcases h.one a b with h2 | h2 | h2
 · left; omega
 · right; left; exact (h.zero _ _).1 h2
 · right; right; omega
def spotE (e : DElem) : DSpot := ⟨e.key, e.made⟩
theorem cmpS_lt {a b : DSpot} : cmpS a b < 0 ↔ cmpK a.key b.key < 0 ∨ (a.key = b.key ∧ a.made < b.made) := by
 rw [cmpS_def]
 by_cases h : cmpK a.key b.key = 0
 · rw [if_neg (by simpa using h), ord_lt]
   have := (cmp_cmpK.zero _ _).1 h
   simp [this, cmp_cmpK.refl]
 · rw [if_pos h]
   have : a.key ≠ b.key := fun e => h ((cmp_cmpK.zero _ _).2 e)
   simp [this]
def Bef (p e : DElem) : Prop := cmpS (spotE p) (spotE e) < 0 ∧ (p.key = e.key → p.gone ≠ 0 ∧ p.gone ≤ e.made)
theorem Bef.key {p e : DElem} (h : Bef p e) : cmpK p.key e.key < 0 ∨ p.key = e.key ∧ p.made < e.made ∧ p.gone ≠ 0 ∧ p.gone ≤ e.made := by
 rcases cmpS_lt.1 h.1 with h1 | h1
 · exact .inl h1
 · exact .inr ⟨h1.1, h1.2, h.2 h1.1⟩
theorem bef_iff {p e : DElem} : Bef p e ↔ cmpK p.key e.key < 0 ∨ p.key = e.key ∧ p.made < e.made ∧ p.gone ≠ 0 ∧ p.gone ≤ e.made := by
 refine ⟨Bef.key, fun h => ⟨?_, ?_⟩⟩
 · rw [cmpS_lt]
   rcases h with h | h
   · exact .inl h
   · exact .inr ⟨h.1, h.2.1⟩
 · intro hk
   rcases h with h | h
   · rw [hk, cmp_cmpK.refl] at h; omega
   · exact h.2.2
theorem Bef.trans {p q e : DElem} (hq : chkE q = 0) (h1 : Bef p q) (h2 : Bef q e) : Bef p e := by
 obtain ⟨_, _, _, h3, _⟩ := chkE_ok hq
 rw [bef_iff] at *
 rcases h1 with h1 | ⟨k1, h1⟩ <;> rcases h2 with h2 | ⟨k2, h2⟩
 · exact .inl (cmp_cmpK.lt_trans h1 h2)
 · rw [← k2]; exact .inl h1
 · rw [k1]; exact .inl h2
 · refine .inr ⟨k1.trans k2, ?_⟩; omega
structure Run (l : List DElem) : Prop where
 len : l.length ≤ 400
 ok : ∀ e ∈ l, chkE e = 0
 ord : l.Pairwise Bef
theorem Run.nil : Run [] := ⟨by simp, by simp, List.Pairwise.nil⟩
theorem Run.sub {l m : List DElem} (h : Run l) (hs : m.Sublist l) : Run m :=
 ⟨Nat.le_trans hs.length_le h.len, fun e he => h.ok e (hs.subset he), h.ord.sublist hs⟩
theorem Bef.irrefl {e : DElem} (h : Bef e e) : False := by
 have := h.1; rw [cmp_cmpS.refl] at this; omega
def hist (l : List DElem) (k : DKey) : List DElem := l.filter fun e => e.key == k
theorem mem_hist {l : List DElem} {k : DKey} {e : DElem} : e ∈ hist l k ↔ e ∈ l ∧ e.key = k := by simp [hist]
theorem Run.hist {l : List DElem} (hl : Run l) (k : DKey) : Run (hist l k) := hl.sub List.filter_sublist
def lo (l : List DElem) (k : DKey) : List DElem := l.filter fun e => decide (cmpK e.key k < 0)
def hi (l : List DElem) (k : DKey) : List DElem := l.filter fun e => decide (0 < cmpK e.key k)
theorem mem_lo {l : List DElem} {k : DKey} {e : DElem} : e ∈ lo l k ↔ e ∈ l ∧ cmpK e.key k < 0 := by simp [lo]
theorem mem_hi {l : List DElem} {k : DKey} {e : DElem} : e ∈ hi l k ↔ e ∈ l ∧ 0 < cmpK e.key k := by simp [hi]
theorem Bef.le {a b : DElem} (h : Bef a b) : cmpK a.key b.key ≤ 0 := by
 rcases h.key with h | h
 · omega
 · rw [h.1, cmp_cmpK.refl]; omega
theorem split3 : ∀ {l : List DElem} (k : DKey), l.Pairwise Bef → l = lo l k ++ (hist l k ++ hi l k)
 | [], k, _ => rfl
 | a :: l, k, h => by
  rw [List.pairwise_cons] at h
  have ih := split3 k h.2
  have low : 0 ≤ cmpK a.key k → lo l k = [] := fun h0 => by
   unfold lo
   rw [List.filter_eq_nil_iff]
   intro e he
   have h1 := (h.1 e he).le
   have h2 := cmp_cmpK.trans k a.key e.key (by have := cmp_cmpK.neg k a.key; omega) h1
   have := cmp_cmpK.neg k e.key
   simp; omega
  have mid : 0 < cmpK a.key k → hist l k = [] := fun h0 => by
   unfold hist
   rw [List.filter_eq_nil_iff]
   intro e he
   have h1 := (h.1 e he).le
   have h2 := cmp_cmpK.lt_le (a := k) (b := a.key) (c := e.key) (by have := cmp_cmpK.neg k a.key; omega) h1
   simp
   intro e'
   rw [e', cmp_cmpK.refl] at h2
   omega
  rcases cmp_cmpK.tri a.key k with h1 | h1 | h1
  · have e1 : lo (a :: l) k = a :: lo l k := by unfold lo; rw [List.filter_cons_of_pos (by simpa using h1)]
    have e2 : hist (a :: l) k = hist l k := by
     unfold hist; rw [List.filter_cons_of_neg]; simp
     intro e; rw [e, cmp_cmpK.refl] at h1; omega
    have e3 : hi (a :: l) k = hi l k := by unfold hi; rw [List.filter_cons_of_neg]; simp; omega
    rw [e1, e2, e3, List.cons_append, ← ih]
  · have e0 : cmpK a.key k = 0 := by rw [h1, cmp_cmpK.refl]
    have e1 : lo (a :: l) k = [] := by
     have := low (by omega); unfold lo at *; rw [List.filter_cons_of_neg (by simp; omega)]; exact this
    have e2 : hist (a :: l) k = a :: hist l k := by unfold hist; rw [List.filter_cons_of_pos (by simpa using h1)]
    have e3 : hi (a :: l) k = hi l k := by unfold hi; rw [List.filter_cons_of_neg]; simp; omega
    rw [e1, e2, e3]
    rw [low (by omega), List.nil_append] at ih
    rw [List.nil_append, List.cons_append, ← ih]
  · have e0 : 0 < cmpK a.key k := cmp_cmpK.pos.2 h1
    have e1 : lo (a :: l) k = [] := by
     have := low (by omega); unfold lo at *; rw [List.filter_cons_of_neg (by simp; omega)]; exact this
    have e2 : hist (a :: l) k = [] := by
     have := mid e0; unfold hist at *; rw [List.filter_cons_of_neg]; exact this
     simp; intro e; rw [e, cmp_cmpK.refl] at h1; omega
    have e3 : hi (a :: l) k = a :: hi l k := by unfold hi; rw [List.filter_cons_of_pos (by simpa using e0)]
    rw [e1, e2, e3]
    rw [low (by omega), mid e0, List.nil_append, List.nil_append] at ih
    rw [List.nil_append, List.nil_append, ← ih]
def upd (l : List DElem) (k : DKey) (h : List DElem) : List DElem := lo l k ++ (h ++ hi l k)
theorem hist_append (a b : List DElem) (k : DKey) : hist (a ++ b) k = hist a k ++ hist b k := List.filter_append ..
theorem hist_self {h : List DElem} {k : DKey} (hk : ∀ e ∈ h, e.key = k) : hist h k = h := by
 unfold hist; rw [List.filter_eq_self]; intro e he; simpa using hk e he
theorem hist_other {h : List DElem} {k' : DKey} (hk : ∀ e ∈ h, e.key ≠ k') : hist h k' = [] := by
 unfold hist; rw [List.filter_eq_nil_iff]; intro e he; simpa using hk e he
theorem hist_upd_self {l : List DElem} {k : DKey} {h : List DElem} (hk : ∀ e ∈ h, e.key = k) : hist (upd l k h) k = h := by
 unfold upd
 rw [hist_append, hist_append, hist_self hk, hist_other (h := lo l k) (k' := k), hist_other (h := hi l k) (k' := k), List.append_nil, List.nil_append]
 · intro e he e'; have := (mem_hi.1 he).2; rw [e', cmp_cmpK.refl] at this; omega
 · intro e he e'; have := (mem_lo.1 he).2; rw [e', cmp_cmpK.refl] at this; omega
theorem hist_upd_other {l : List DElem} {k k' : DKey} {h : List DElem} (hl : l.Pairwise Bef) (hk : ∀ e ∈ h, e.key = k) (hne : k' ≠ k) : hist (upd l k h) k' = hist l k' := by
 conv => rhs; rw [split3 k hl]
 unfold upd
 rw [hist_append, hist_append, hist_append, hist_append, hist_other (h := h) (k' := k'), hist_other (h := hist l k) (k' := k')]
 · intro e he; rw [(mem_hist.1 he).2]; exact fun e => hne e.symm
 · intro e he; rw [hk e he]; exact fun e => hne e.symm
theorem upd_length {l : List DElem} {k : DKey} {h : List DElem} (hl : l.Pairwise Bef) : (upd l k h).length + (hist l k).length = l.length + h.length := by
 have := congrArg List.length (split3 k hl)
 unfold upd
 simp only [List.length_append] at *
 omega
theorem upd_hist {l : List DElem} (k : DKey) (hl : l.Pairwise Bef) : upd l k (hist l k) = l := (split3 k hl).symm
theorem mem_upd {l : List DElem} {k : DKey} {h : List DElem} {e : DElem} (hl : l.Pairwise Bef) : e ∈ upd l k h ↔ e ∈ h ∨ e ∈ l ∧ e.key ≠ k := by
 unfold upd
 rw [List.mem_append, List.mem_append, mem_lo, mem_hi]
 constructor
 · rintro (⟨h1, h2⟩ | h1 | ⟨h1, h2⟩)
   · exact .inr ⟨h1, fun e => by rw [e, cmp_cmpK.refl] at h2; omega⟩
   · exact .inl h1
   · exact .inr ⟨h1, fun e => by rw [e, cmp_cmpK.refl] at h2; omega⟩
 · rintro (h1 | ⟨h1, h2⟩)
   · exact .inr (.inl h1)
   · rcases cmp_cmpK.tri e.key k with h3 | h3 | h3
     · exact .inl ⟨h1, h3⟩
     · exact absurd h3 h2
     · exact .inr (.inr ⟨h1, cmp_cmpK.pos.2 h3⟩)
theorem Run.upd {l : List DElem} {k : DKey} {h : List DElem} (hl : Run l) (hk : ∀ e ∈ h, e.key = k) (ho : ∀ e ∈ h, chkE e = 0) (hp : h.Pairwise Bef) (hn : (upd l k h).length ≤ 400) : Run (upd l k h) := by
 refine ⟨hn, fun e he => ?_, ?_⟩
 · rcases (mem_upd hl.ord).1 he with h1 | h1
   · exact ho e h1
   · exact hl.ok e h1.1
 · unfold Go.Proofs.YtacjdfhllomccaaGreatDoor.upd
   rw [List.pairwise_append, List.pairwise_append]
   refine ⟨hl.ord.sublist List.filter_sublist, ⟨hp, hl.ord.sublist List.filter_sublist, fun a ha b hb => ?_⟩, fun a ha b hb => ?_⟩
   · rw [bef_iff]; left
     have := (mem_hi.1 hb).2
     rw [hk a ha]; exact cmp_cmpK.pos.1 this
   · rw [bef_iff]; left
     have h1 := (mem_lo.1 ha).2
     rcases List.mem_append.1 hb with hb | hb
     · rw [hk b hb]; exact h1
     · exact cmp_cmpK.lt_trans h1 (cmp_cmpK.pos.1 (mem_hi.1 hb).2)
def lastL (l : List DElem) : Int := l.foldl (fun t e => if t < lastE e then lastE e else t) 0
theorem lastL_from (l : List DElem) : ∀ t0 t : Int, l.foldl (fun t e => if t < lastE e then lastE e else t) t0 ≤ t ↔ t0 ≤ t ∧ ∀ e ∈ l, lastE e ≤ t := by
 induction l with
 | nil => intro t0 t; simp
 | cons a l ih =>
  intro t0 t
  rw [List.foldl_cons, ih, List.forall_mem_cons]
  split <;> constructor <;> rintro ⟨h1, h2⟩
  · exact ⟨by omega, by omega, h2⟩
  · exact ⟨h2.1, h2.2⟩
  · exact ⟨by omega, by omega, h2⟩
  · exact ⟨h1, h2.2⟩
theorem lastL_le {l : List DElem} {t : Int} : lastL l ≤ t ↔ 0 ≤ t ∧ ∀ e ∈ l, lastE e ≤ t := lastL_from l 0 t
theorem le_lastL {l : List DElem} {e : DElem} (h : e ∈ l) : lastE e ≤ lastL l := ((lastL_le (l := l) (t := lastL l)).1 (Int.le_refl _)).2 e h
theorem lastE_le {e : DElem} {t : Int} : lastE e ≤ t ↔ e.made ≤ t ∧ e.gone ≤ t := by unfold lastE; split <;> omega
theorem Run.last_le {l : List DElem} (h : Run l) : lastL l ≤ 2147483647 := by
 rw [lastL_le]
 refine ⟨by omega, fun e he => ?_⟩
 obtain ⟨_, _, _, _, _⟩ := chkE_ok (h.ok e he)
 rw [lastE_le]; omega
theorem pair_cases {α : Type} {R : α → α → Prop} : ∀ {l : List α}, l.Pairwise R → ∀ {a b : α}, a ∈ l → b ∈ l → a = b ∨ R a b ∨ R b a
 | [], _, _, _, h, _ => by simp at h
 | c :: l, h, a, b, ha, hb => by
  rw [List.pairwise_cons] at h
  rcases List.mem_cons.1 ha with ha | ha <;> rcases List.mem_cons.1 hb with hb | hb
  · left; rw [ha, hb]
  · right; left; rw [ha]; exact h.1 b hb
  · right; right; rw [hb]; exact h.1 a ha
  · exact pair_cases h.2 ha hb
theorem live_iff {e : DElem} {t : Int} : live e t = true ↔ e.made ≤ t ∧ (e.gone = 0 ∨ t < e.gone) := by unfold live; simp
theorem Run.live_one {l : List DElem} (h : l.Pairwise Bef) {a b : DElem} (ha : a ∈ l) (hb : b ∈ l) (hk : a.key = b.key) {t : Int} (la : live a t = true) (lb : live b t = true) : a = b := by
 rw [live_iff] at la lb
 have bad : ∀ {x y : DElem}, Bef x y → x.key = y.key → (x.made ≤ t ∧ (x.gone = 0 ∨ t < x.gone)) → (y.made ≤ t ∧ (y.gone = 0 ∨ t < y.gone)) → False := fun hb hk h1 h2 => by
  have := hb.2 hk; omega
 rcases pair_cases h ha hb with h1 | h1 | h1
 · exact h1
 · exact (bad h1 hk la lb).elim
 · exact (bad h1 hk.symm lb la).elim
def atR (l : List DElem) (k : DKey) (t : Int) : Option DElem := l.find? fun e => e.key == k && live e t
theorem atR_hist (l : List DElem) (k : DKey) (t : Int) : atR l k t = (hist l k).find? fun e => live e t := by
 unfold atR hist; rw [List.find?_filter]; congr 1; funext e; cases e.key == k <;> simp
theorem atR_some {l : List DElem} (h : l.Pairwise Bef) {k : DKey} {t : Int} {e : DElem} : atR l k t = some e ↔ e ∈ l ∧ e.key = k ∧ live e t = true := by
 unfold atR
 constructor
 · intro hf
   have h1 := List.mem_of_find?_eq_some hf
   have h2 := List.find?_some hf
   simp only [Bool.and_eq_true, beq_iff_eq] at h2
   exact ⟨h1, h2⟩
 · rintro ⟨h1, h2, h3⟩
   cases hf : l.find? (fun e => e.key == k && live e t) with
   | none =>
    rw [List.find?_eq_none] at hf
    have := hf e h1
    simp [h2, h3] at this
   | some a =>
    have g1 := List.mem_of_find?_eq_some hf
    have g2 := List.find?_some hf
    simp only [Bool.and_eq_true, beq_iff_eq] at g2
    rw [Run.live_one h g1 h1 (g2.1.trans h2.symm) g2.2 h3]
theorem live_late {e : DElem} {t : Int} (h : lastE e ≤ t) : live e t = (e.gone == 0) := by
 rw [lastE_le] at h
 rw [Bool.eq_iff_iff, live_iff]; simp; omega
def cl (t : Int) (e : DElem) : Option DElem := if e.gone = 0 then if e.made = t then none else some { e with gone := t } else some e
def clo (h : List DElem) (t : Int) : List DElem := h.filterMap (cl t)
def newE (k : DKey) (v : ByteArray) (t : Int) : DElem := ⟨k, t, 0, v⟩
def cutR (l : List DElem) (k : DKey) (t : Int) : List DElem := upd l k (clo (hist l k) t)
def putR (l : List DElem) (k : DKey) (v : ByteArray) (t : Int) : List DElem := upd l k (clo (hist l k) t ++ [newE k v t])
theorem cl_some {t : Int} {e x : DElem} : cl t e = some x ↔ (e.gone ≠ 0 ∧ x = e) ∨ (e.gone = 0 ∧ e.made ≠ t ∧ x = { e with gone := t }) := by
 unfold cl
 split
 · split
   · simp_all
   · rename_i h1 h2
     simp only [Option.some.injEq]
     constructor
     · rintro rfl; exact .inr ⟨h1, h2, rfl⟩
     · rintro (h | h)
       · exact absurd h1 h.1
       · exact h.2.2.symm
 · rename_i h1
   simp only [Option.some.injEq]
   constructor
   · rintro rfl; exact .inl ⟨h1, rfl⟩
   · rintro (h | h)
     · exact h.2.symm
     · exact absurd h.1 h1
theorem mem_clo {h : List DElem} {t : Int} {x : DElem} : x ∈ clo h t ↔ (x ∈ h ∧ x.gone ≠ 0) ∨ ∃ e ∈ h, e.gone = 0 ∧ e.made ≠ t ∧ x = { e with gone := t } := by
 unfold clo
 rw [List.mem_filterMap]
 constructor
 · rintro ⟨e, he, h1⟩
   rcases cl_some.1 h1 with ⟨h2, rfl⟩ | h2
   · exact .inl ⟨he, h2⟩
   · exact .inr ⟨e, he, h2⟩
 · rintro (⟨h1, h2⟩ | ⟨e, he, h2⟩)
   · exact ⟨x, h1, cl_some.2 (.inl ⟨h2, rfl⟩)⟩
   · exact ⟨e, he, cl_some.2 (.inr h2)⟩
theorem clo_append (a b : List DElem) (t : Int) : clo (a ++ b) t = clo a t ++ clo b t := List.filterMap_append ..
theorem clo_gone {h : List DElem} {t : Int} (hg : ∀ e ∈ h, e.gone ≠ 0) : clo h t = h := by
 unfold clo
 induction h with
 | nil => rfl
 | cons a h ih =>
  rw [List.filterMap_cons_some (b := a) (cl_some.2 (.inl ⟨hg a (by simp), rfl⟩)), ih fun e he => hg e (by simp [he])]
theorem gone_clo {h : List DElem} {t : Int} (ht : t ≠ 0) : ∀ e ∈ clo h t, e.gone ≠ 0 := fun e he => by
 rcases mem_clo.1 he with h1 | ⟨e', _, _, _, rfl⟩
 · exact h1.2
 · exact ht
theorem clo_length (h : List DElem) (t : Int) : (clo h t).length ≤ h.length := List.length_filterMap_le ..
theorem keys_clo {h : List DElem} {k : DKey} {t : Int} (hk : ∀ e ∈ h, e.key = k) : ∀ e ∈ clo h t, e.key = k := fun e he => by
 rcases mem_clo.1 he with h1 | ⟨e', he', _, _, rfl⟩
 · exact hk e h1.1
 · exact hk e' he'
theorem hist_open {h : List DElem} {k : DKey} (hp : h.Pairwise Bef) (hk : ∀ e ∈ h, e.key = k) {a b : List DElem} {e : DElem} (he : h = a ++ e :: b) (hg : e.gone = 0) : b = [] := by
 subst he
 cases b with
 | nil => rfl
 | cons x b =>
  rw [List.pairwise_append, List.pairwise_cons] at hp
  have := (hp.2.1.1 x (by simp)).2 (by rw [hk e (by simp), hk x (by simp)])
  exact absurd hg this.1
theorem clo_ok {h : List DElem} {k : DKey} {t : Int} (hk : ∀ e ∈ h, e.key = k) (ho : ∀ e ∈ h, chkE e = 0) (hp : h.Pairwise Bef) (ht : ∀ e ∈ h, lastE e ≤ t) (h0 : 1 ≤ t) (h1 : t ≤ 2147483647) :
 (∀ e ∈ clo h t, chkE e = 0) ∧ (clo h t).Pairwise Bef ∧ (∀ e ∈ clo h t, e.gone ≤ t ∧ e.made < t) := by
 refine ⟨fun e he => ?_, ?_, fun e he => ?_⟩
 · rcases mem_clo.1 he with h2 | ⟨e', he', hg, hm, rfl⟩
   · exact ho e h2.1
   · have h3 := ho e' he'
     have h4 := lastE_le.1 (ht e' he')
     obtain ⟨c1, c2, c3, c4, c5⟩ := chkE_ok h3
     unfold chkE
     dsimp only
     rw [if_neg (by simpa using c1), if_neg (by omega), if_neg (by omega)]
 · unfold clo
   rw [List.pairwise_filterMap]
   refine hp.imp_of_mem ?_
   intro a b ha hb hab x hx y hy
   have g := hab.2 (by rw [hk a ha, hk b hb])
   rcases cl_some.1 (show cl t a = some x from hx) with ⟨_, rfl⟩ | ⟨h2, _⟩
   · rcases cl_some.1 (show cl t b = some y from hy) with ⟨_, rfl⟩ | ⟨_, _, rfl⟩
     · exact hab
     · exact hab
   · exact absurd h2 g.1
 · rcases mem_clo.1 he with ⟨h2, h3⟩ | ⟨e', he', hg, hm, rfl⟩
   · have h4 := lastE_le.1 (ht e h2)
     obtain ⟨_, c2, c3, c4, _⟩ := chkE_ok (ho e h2)
     omega
   · have h4 := lastE_le.1 (ht e' he')
     dsimp only
     omega
theorem newE_ok {k : DKey} {v : ByteArray} {t : Int} (hc : chkE (newE k v t) = 0) : chkK k = 0 ∧ 1 ≤ t ∧ t ≤ 2147483647 ∧ v.size ≤ 40 := by
 obtain ⟨h1, h2, h3, h4, h5⟩ := chkE_ok hc
 exact ⟨h1, h2, h3, h5⟩
theorem chkE_new {k : DKey} {v : ByteArray} {t : Int} (h1 : chkK k = 0) (h2 : 1 ≤ t) (h3 : t ≤ 2147483647) (h4 : v.size ≤ 40) : chkE (newE k v t) = 0 := by
 unfold chkE newE
 dsimp only
 rw [if_neg (by simpa using h1), if_neg (by omega), if_neg (by omega)]
section
variable {l : List DElem} {k : DKey} {t : Int} {v : ByteArray}
theorem hist_keys (l : List DElem) (k : DKey) : ∀ e ∈ hist l k, e.key = k := fun e he => (mem_hist.1 he).2
theorem Run.clo (h : Run l) (ht : lastL l ≤ t) (h0 : 1 ≤ t) (h1 : t ≤ 2147483647) (k : DKey) :
 (∀ e ∈ clo (Go.Proofs.YtacjdfhllomccaaGreatDoor.hist l k) t, chkE e = 0) ∧ (Go.Proofs.YtacjdfhllomccaaGreatDoor.clo (Go.Proofs.YtacjdfhllomccaaGreatDoor.hist l k) t).Pairwise Bef ∧ (∀ e ∈ Go.Proofs.YtacjdfhllomccaaGreatDoor.clo (Go.Proofs.YtacjdfhllomccaaGreatDoor.hist l k) t, e.gone ≤ t ∧ e.made < t) :=
 clo_ok (hist_keys l k) (h.hist k).ok (h.hist k).ord (fun e he => by have := le_lastL (mem_hist.1 he).1; omega) h0 h1
theorem Run.cutR (h : Run l) (ht : lastL l ≤ t) (h0 : 1 ≤ t) (h1 : t ≤ 2147483647) (k : DKey) : Run (cutR l k t) := by
 obtain ⟨c1, c2, c3⟩ := h.clo ht h0 h1 k
 refine h.upd (keys_clo (hist_keys l k)) c1 c2 ?_
 have h2 := upd_length (k := k) (h := Go.Proofs.YtacjdfhllomccaaGreatDoor.clo (Go.Proofs.YtacjdfhllomccaaGreatDoor.hist l k) t) h.ord
 have h3 := clo_length (Go.Proofs.YtacjdfhllomccaaGreatDoor.hist l k) t
 have := h.len
 omega
theorem put_hist (h : Run l) (ht : lastL l ≤ t) (hc : chkE (newE k v t) = 0) :
 (∀ e ∈ clo (hist l k) t ++ [newE k v t], e.key = k) ∧ (∀ e ∈ clo (hist l k) t ++ [newE k v t], chkE e = 0) ∧ (clo (hist l k) t ++ [newE k v t]).Pairwise Bef := by
 obtain ⟨_, h0, h1, _⟩ := newE_ok hc
 obtain ⟨c1, c2, c3⟩ := h.clo ht h0 h1 k
 refine ⟨fun e he => ?_, fun e he => ?_, ?_⟩
 · rcases List.mem_append.1 he with he | he
   · exact keys_clo (hist_keys l k) e he
   · simp at he; subst he; rfl
 · rcases List.mem_append.1 he with he | he
   · exact c1 e he
   · simp at he; subst he; exact hc
 · rw [List.pairwise_append]
   refine ⟨c2, by simp, fun a ha b hb => ?_⟩
   simp at hb; subst hb
   have h2 := c3 a ha
   rw [bef_iff]
   right
   refine ⟨keys_clo (hist_keys l k) a ha, h2.2, gone_clo (by omega) a ha, h2.1⟩
theorem Run.putR (h : Run l) (ht : lastL l ≤ t) (hc : chkE (newE k v t) = 0) (hn : (putR l k v t).length ≤ 400) : Run (putR l k v t) := by
 obtain ⟨h1, h2, h3⟩ := put_hist h ht hc
 exact h.upd h1 h2 h3 hn
theorem hist_cut (h : Run l) : hist (cutR l k t) k = clo (hist l k) t := hist_upd_self (keys_clo (hist_keys l k))
theorem hist_cut_other (h : Run l) {k' : DKey} (hne : k' ≠ k) : hist (cutR l k t) k' = hist l k' := hist_upd_other h.ord (keys_clo (hist_keys l k)) hne
theorem new_keys {h : List DElem} (hk : ∀ e ∈ h, e.key = k) : ∀ e ∈ clo h t ++ [newE k v t], e.key = k := fun e he => by
 rcases List.mem_append.1 he with he | he
 · exact keys_clo hk e he
 · simp at he; subst he; rfl
theorem hist_put : hist (putR l k v t) k = clo (hist l k) t ++ [newE k v t] := hist_upd_self (new_keys (hist_keys l k))
theorem hist_put_other (h : Run l) {k' : DKey} (hne : k' ≠ k) : hist (putR l k v t) k' = hist l k' := hist_upd_other h.ord (new_keys (hist_keys l k)) hne
theorem last_cut (h : Run l) (ht : lastL l ≤ t) (h0 : 1 ≤ t) (h1 : t ≤ 2147483647) : lastL (cutR l k t) ≤ t := by
 obtain ⟨c1, c2, c3⟩ := h.clo ht h0 h1 k
 rw [lastL_le]
 refine ⟨by omega, fun e he => ?_⟩
 rcases (mem_upd h.ord).1 he with he | he
 · have := c3 e he; rw [lastE_le]; omega
 · have := le_lastL he.1; omega
theorem last_put (h : Run l) (ht : lastL l ≤ t) (hc : chkE (newE k v t) = 0) : lastL (putR l k v t) = t := by
 obtain ⟨_, h0, h1, _⟩ := newE_ok hc
 obtain ⟨c1, c2, c3⟩ := h.clo ht h0 h1 k
 have hm : newE k v t ∈ putR l k v t := (mem_upd h.ord).2 (.inl (by simp))
 have hle := le_lastL hm
 have he : lastE (newE k v t) = t := by unfold lastE newE; dsimp only; rw [if_neg (by omega)]
 have : lastL (putR l k v t) ≤ t := by
  rw [lastL_le]
  refine ⟨by omega, fun e he => ?_⟩
  rcases (mem_upd h.ord).1 he with he | he
  · rcases List.mem_append.1 he with he | he
    · have := c3 e he; rw [lastE_le]; omega
    · simp at he; subst he; omega
  · have := le_lastL he.1; omega
 omega
def endE (t : Int) (e : DElem) : DElem := if e.gone = 0 then { e with gone := t } else e
theorem find_clo_late (h : List DElem) {t u : Int} (ht : ∀ e ∈ clo h t, e.gone ≤ t) (h0 : 1 ≤ t) (hu : t ≤ u) : (clo h t).find? (fun e => live e u) = none := by
 rw [List.find?_eq_none]
 intro e he
 have h1 := gone_clo (show t ≠ 0 by omega) e he
 have h2 := ht e he
 rw [live_iff]; omega
theorem find_clo_past (h : List DElem) {t u : Int} (hu : u < t) : (clo h t).find? (fun e => live e u) = (h.find? fun e => live e u).map (endE t) := by
 induction h with
 | nil => rfl
 | cons a h ih =>
  have hl : ∀ x, cl t a = some x → (live x u = live a u ∧ x = endE t a) := fun x hx => by
   unfold endE
   rcases cl_some.1 hx with ⟨h1, rfl⟩ | ⟨h1, h2, rfl⟩
   · rw [if_neg h1]; exact ⟨rfl, rfl⟩
   · rw [if_pos h1]
     refine ⟨?_, rfl⟩
     rw [Bool.eq_iff_iff, live_iff, live_iff]; dsimp only; omega
  unfold clo at ih ⊢
  cases hc : cl t a with
  | none =>
   rw [List.filterMap_cons_none hc, ih, List.find?_cons_of_neg]
   unfold cl at hc
   split at hc
   · split at hc
     · rw [live_iff]; omega
     · cases hc
   · cases hc
  | some x =>
   obtain ⟨h1, rfl⟩ := hl x hc
   rw [List.filterMap_cons_some hc, List.find?_cons, List.find?_cons, h1]
   cases live a u
   · exact ih
   · rfl
theorem at_put_other (h : Run l) {k' : DKey} (hne : k' ≠ k) (u : Int) : atR (putR l k v t) k' u = atR l k' u := by
 rw [atR_hist, atR_hist, hist_put_other h hne]
theorem at_cut_other (h : Run l) {k' : DKey} (hne : k' ≠ k) (u : Int) : atR (cutR l k t) k' u = atR l k' u := by
 rw [atR_hist, atR_hist, hist_cut_other h hne]
theorem at_put_self (h : Run l) (ht : lastL l ≤ t) (hc : chkE (newE k v t) = 0) {u : Int} (hu : t ≤ u) : atR (putR l k v t) k u = some (newE k v t) := by
 obtain ⟨_, h0, h1, _⟩ := newE_ok hc
 obtain ⟨c1, c2, c3⟩ := h.clo ht h0 h1 k
 rw [atR_hist, hist_put, List.find?_append, find_clo_late _ (fun e he => (c3 e he).1) h0 hu, Option.none_or, List.find?_cons_of_pos]
 rw [live_iff]; unfold newE; dsimp only; omega
theorem at_cut_self (h : Run l) (ht : lastL l ≤ t) (h0 : 1 ≤ t) (h1 : t ≤ 2147483647) {u : Int} (hu : t ≤ u) : atR (cutR l k t) k u = none := by
 obtain ⟨c1, c2, c3⟩ := h.clo ht h0 h1 k
 rw [atR_hist, hist_cut h, find_clo_late _ (fun e he => (c3 e he).1) h0 hu]
theorem at_put_past {u : Int} (hu : u < t) : atR (putR l k v t) k u = (atR l k u).map (endE t) := by
 rw [atR_hist, atR_hist, hist_put, List.find?_append, find_clo_past _ hu]
 cases (hist l k).find? (fun e => live e u) with
 | some e => rfl
 | none =>
  rw [Option.map_none, Option.none_or, List.find?_cons_of_neg]
  · rfl
  · rw [live_iff]; unfold newE; dsimp only; omega
theorem at_cut_past (h : Run l) {u : Int} (hu : u < t) : atR (cutR l k t) k u = (atR l k u).map (endE t) := by
 rw [atR_hist, atR_hist, hist_cut h, find_clo_past _ hu]
def nowR (l : List DElem) (k : DKey) : Option DElem := (hist l k).find? fun e => e.gone == 0
theorem nowR_at (h : Run l) {u : Int} (hu : lastL l ≤ u) (k : DKey) : atR l k u = nowR l k := by
 rw [atR_hist]
 unfold nowR
 have key : ∀ h : List DElem, (∀ e ∈ h, lastE e ≤ u) → h.find? (fun e => live e u) = h.find? fun e => e.gone == 0 := by
  intro h
  induction h with
  | nil => intro _; rfl
  | cons a h ih =>
   intro hh
   rw [List.find?_cons, List.find?_cons, live_late (hh a (by simp)), ih fun e he => hh e (by simp [he])]
 exact key _ fun e he => by have := le_lastL (mem_hist.1 he).1; omega
theorem nowR_some (h : l.Pairwise Bef) {e : DElem} : nowR l k = some e ↔ e ∈ l ∧ e.key = k ∧ e.gone = 0 := by
 unfold nowR
 constructor
 · intro hf
   have h1 := List.mem_of_find?_eq_some hf
   have h2 := List.find?_some hf
   rw [mem_hist] at h1
   exact ⟨h1.1, h1.2, by simpa using h2⟩
 · rintro ⟨h1, h2, h3⟩
   cases hf : (hist l k).find? (fun e => e.gone == 0) with
   | none =>
    rw [List.find?_eq_none] at hf
    have := hf e (mem_hist.2 ⟨h1, h2⟩)
    simp [h3] at this
   | some a =>
    have g1 := mem_hist.1 (List.mem_of_find?_eq_some hf)
    have g2 := List.find?_some hf
    simp only [beq_iff_eq] at g2
    have la : live a (max a.made e.made) = true := by rw [live_iff]; omega
    have le : live e (max a.made e.made) = true := by rw [live_iff]; omega
    rw [Run.live_one h g1.1 h1 (g1.2.trans h2.symm) la le]
theorem nowR_none : nowR l k = none ↔ ∀ e ∈ l, e.key = k → e.gone ≠ 0 := by
 unfold nowR
 rw [List.find?_eq_none]
 constructor
 · intro h e he hk; have := h e (mem_hist.2 ⟨he, hk⟩); simpa using this
 · intro h e he; have := h e (mem_hist.1 he).1 (mem_hist.1 he).2; simpa using this
theorem hist_now_none (h : nowR l k = none) : clo (hist l k) t = hist l k := clo_gone fun e he => nowR_none.1 h e (mem_hist.1 he).1 (mem_hist.1 he).2
theorem hist_now_some (h : l.Pairwise Bef) {e : DElem} (hn : nowR l k = some e) : ∃ a, hist l k = a ++ [e] ∧ ∀ x ∈ a, x.gone ≠ 0 := by
 obtain ⟨h1, h2, h3⟩ := (nowR_some h).1 hn
 obtain ⟨a, b, hab⟩ := List.append_of_mem (mem_hist.2 ⟨h1, h2⟩)
 have hp := h.sublist (List.filter_sublist (p := fun e => e.key == k))
 have hb := hist_open (show (hist l k).Pairwise Bef from hp) (hist_keys l k) hab h3
 subst hb
 refine ⟨a, hab, fun x hx hg => ?_⟩
 obtain ⟨c, d, rfl⟩ := List.append_of_mem hx
 have hab' : hist l k = c ++ x :: (d ++ [e]) := by rw [hab]; simp
 have := hist_open (show (hist l k).Pairwise Bef from hp) (hist_keys l k) hab' hg
 simp at this
theorem clo_now (h : l.Pairwise Bef) {e : DElem} (hn : nowR l k = some e) : ∃ a, hist l k = a ++ [e] ∧ clo (hist l k) t = a ++ (if e.made = t then [] else [{ e with gone := t }]) := by
 obtain ⟨a, ha, hg⟩ := hist_now_some h hn
 refine ⟨a, ha, ?_⟩
 have h3 := ((nowR_some h).1 hn).2.2
 rw [ha, clo_append, clo_gone hg]
 congr 1
 unfold clo
 by_cases hm : e.made = t
 · rw [if_pos hm, List.filterMap_cons_none (by unfold cl; rw [if_pos h3, if_pos hm])]; rfl
 · rw [if_neg hm, List.filterMap_cons_some (b := { e with gone := t }) (by unfold cl; rw [if_pos h3, if_neg hm])]; rfl
theorem put_length (h : Run l) : (putR l k v t).length = match nowR l k with
 | some e => if e.made = t then l.length else l.length + 1
 | none => l.length + 1 := by
 have h1 := upd_length (k := k) (h := clo (hist l k) t ++ [newE k v t]) h.ord
 unfold putR
 rw [List.length_append, List.length_singleton] at h1
 generalize (upd l k (clo (hist l k) t ++ [newE k v t])).length = n at h1 ⊢
 cases hn : nowR l k with
 | none => rw [hist_now_none hn] at h1; show n = l.length + 1; omega
 | some e =>
  obtain ⟨a, ha, hc⟩ := clo_now (t := t) h.ord hn
  rw [hc, ha] at h1
  dsimp only
  by_cases hm : e.made = t
  · rw [if_pos hm] at *; simp at h1 ⊢; omega
  · rw [if_neg hm] at *; simp at h1 ⊢; omega
def dput (l : List DElem) (k : DKey) (t : Int) : Nat := match nowR l k with
 | some e => if e.made = t then 0 else 1
 | none => 1
theorem put_len (h : Run l) : (putR l k v t).length = l.length + dput l k t := by
 rw [put_length h]
 unfold dput
 cases nowR l k with
 | none => rfl
 | some e => dsimp only; split <;> rfl
theorem cut_len (h : Run l) {e : DElem} (hn : nowR l k = some e) : (cutR l k t).length + (if e.made = t then 1 else 0) = l.length := by
 have h1 := upd_length (k := k) (h := clo (hist l k) t) h.ord
 unfold cutR
 generalize (upd l k (clo (hist l k) t)).length = n at h1 ⊢
 obtain ⟨a, ha, hc⟩ := clo_now (t := t) h.ord hn
 rw [hc, ha] at h1
 by_cases hm : e.made = t
 · rw [if_pos hm] at *; simp at h1 ⊢; omega
 · rw [if_neg hm] at *; simp at h1 ⊢; omega
theorem nowR_other {l m : List DElem} {k : DKey} (h : hist l k = hist m k) : nowR l k = nowR m k := by unfold nowR; rw [h]
theorem now_put_self (h : Run l) (ht : lastL l ≤ t) (hc : chkE (newE k v t) = 0) (hn : (putR l k v t).length ≤ 400) : nowR (putR l k v t) k = some (newE k v t) := by
 have h2 := h.putR ht hc hn
 rw [← nowR_at h2 (Int.le_of_eq (last_put h ht hc))]
 exact at_put_self h ht hc (Int.le_refl _)
theorem now_cut_self (h : Run l) (ht : lastL l ≤ t) (h0 : 1 ≤ t) (h1 : t ≤ 2147483647) : nowR (cutR l k t) k = none := by
 rw [← nowR_at (h.cutR ht h0 h1 k) (last_cut h ht h0 h1)]
 exact at_cut_self h ht h0 h1 (Int.le_refl _)
theorem cut_none (h : Run l) (hn : nowR l k = none) : cutR l k t = l := by
 unfold cutR
 rw [hist_now_none hn, upd_hist k h.ord]
end
end Go.Proofs.YtacjdfhllomccaaGreatDoor
/- Plain Lean: changes, as what a key has ahead and behind. Its conditions: none. -/
namespace Go.Proofs.YtacjdfhllomccaaGreatDoor
set_option linter.unusedVariables false
set_option linter.unusedSimpArgs false
def e0 : ByteArray := ByteArray.mk #[]
def fr (c : DChange) : Option ByteArray := if c.had then some c.was else none
def to (c : DChange) : Option ByteArray := if c.has then some c.is_ else none
def chgOf (k : DKey) (s t : Option ByteArray) : DChange := ⟨k, s.isSome, t.isSome, s.getD e0, t.getD e0⟩
def differs (c : DChange) : Bool := (!(c.had == c.has)) || (!decide (c.was = c.is_))
def FormC (c : DChange) : Prop := (c.had = false → c.was = e0) ∧ (c.has = false → c.is_ = e0)
theorem form_of (k : DKey) (s t : Option ByteArray) : FormC (chgOf k s t) := by
 cases s <;> cases t <;> simp [FormC, chgOf]
theorem of_form {c : DChange} (h : FormC c) : c = chgOf c.key (fr c) (to c) := by
 obtain ⟨k, had, has, was, is_⟩ := c
 obtain ⟨h1, h2⟩ := h
 dsimp only at h1 h2
 cases had <;> cases has <;> simp_all [chgOf, fr, to]
@[simp] theorem fr_of (k : DKey) (s t : Option ByteArray) : fr (chgOf k s t) = s := by cases s <;> simp [fr, chgOf]
@[simp] theorem to_of (k : DKey) (s t : Option ByteArray) : to (chgOf k s t) = t := by cases t <;> simp [to, chgOf]
@[simp] theorem key_of (k : DKey) (s t : Option ByteArray) : (chgOf k s t).key = k := rfl
theorem differs_of (k : DKey) (s t : Option ByteArray) : differs (chgOf k s t) = !decide (s = t) := by
 cases s with
 | none => cases t with
  | none => simp [differs, chgOf]
  | some y => simp [differs, chgOf]
 | some x => cases t with
  | none => simp [differs, chgOf]
  | some y =>
   by_cases h : x = y
   · rw [decide_eq_true (show some x = some y by rw [h])]
     show ((!(true == true)) || (!decide (x = y))) = _
     rw [decide_eq_true h]; rfl
   · rw [decide_eq_false (show ¬ some x = some y from fun e => h (Option.some.inj e))]
     show ((!(true == true)) || (!decide (x = y))) = _
     rw [decide_eq_false h]; rfl
theorem differs_iff {c : DChange} (h : FormC c) : differs c = !decide (fr c = to c) := by
 conv => lhs; rw [of_form h]
 exact differs_of _ _ _
def KeyLt (a b : DChange) : Prop := cmpK a.key b.key < 0
structure GoodC (l : List DChange) : Prop where
 len : l.length ≤ 400
 key : ∀ c ∈ l, chkK c.key = 0
 val : ∀ c ∈ l, c.was.size ≤ 40 ∧ c.is_.size ≤ 40
 form : ∀ c ∈ l, FormC c
 dif : ∀ c ∈ l, differs c = true
 ord : l.Pairwise KeyLt
theorem KeyLt.trans {a b c : DChange} (h : KeyLt a b) (k : KeyLt b c) : KeyLt a c := cmp_cmpK.lt_trans h k
theorem KeyLt.ne {a b : DChange} (h : KeyLt a b) : a.key ≠ b.key := fun e => by
 unfold KeyLt at h; rw [e, cmp_cmpK.refl] at h; omega
def chAt (l : List DChange) (k : DKey) : Option DChange := l.find? fun c => c.key == k
theorem chAt_cons (c : DChange) (l : List DChange) (k : DKey) : chAt (c :: l) k = if c.key = k then some c else chAt l k := by
 unfold chAt
 rw [List.find?_cons]
 by_cases h : c.key = k
 · rw [if_pos h, beq_iff_eq.2 h]
 · rw [if_neg h, beq_eq_false_iff_ne.2 h]
theorem chAt_none {l : List DChange} {k : DKey} : chAt l k = none ↔ ∀ c ∈ l, c.key ≠ k := by
 unfold chAt; rw [List.find?_eq_none]; simp
theorem chAt_some {l : List DChange} (h : l.Pairwise KeyLt) {k : DKey} {c : DChange} : chAt l k = some c ↔ c ∈ l ∧ c.key = k := by
 unfold chAt
 constructor
 · intro hf
   exact ⟨List.mem_of_find?_eq_some hf, by simpa using List.find?_some hf⟩
 · rintro ⟨h1, h2⟩
   cases hf : l.find? (fun c => c.key == k) with
   | none => rw [List.find?_eq_none] at hf; have := hf c h1; simp [h2] at this
   | some d =>
    have g1 := List.mem_of_find?_eq_some hf
    have g2 := List.find?_some hf
    rw [beq_iff_eq] at g2
    rcases pair_cases h g1 h1 with h3 | h3 | h3
    · rw [h3]
    · exact absurd (g2.trans h2.symm) h3.ne
    · exact absurd (h2.trans g2.symm) h3.ne
theorem ch_ext : ∀ {l m : List DChange}, l.Pairwise KeyLt → m.Pairwise KeyLt → (∀ k, chAt l k = chAt m k) → l = m
 | [], [], _, _, _ => rfl
 | [], b :: m, _, _, h => by have := h b.key; rw [chAt_cons, if_pos rfl] at this; cases this
 | a :: l, [], _, _, h => by have := h a.key; rw [chAt_cons, if_pos rfl] at this; cases this
 | a :: l, b :: m, hl, hm, h => by
  have hl' := hl
  have hm' := hm
  rw [List.pairwise_cons] at hl hm
  have hab : a = b := by
   rcases cmp_cmpK.tri a.key b.key with h1 | h1 | h1
   · have h2 := h a.key
     rw [chAt_cons, if_pos rfl] at h2
     have h3 := ((chAt_some hm').1 h2.symm).1
     rcases List.mem_cons.1 h3 with h3 | h3
     · exact h3
     · have := cmp_cmpK.lt_trans h1 (hm.1 a h3); rw [cmp_cmpK.refl] at this; omega
   · have h2 := h a.key
     rw [chAt_cons, if_pos rfl, chAt_cons, if_pos h1.symm] at h2
     exact Option.some.inj h2
   · have h2 := h b.key
     rw [chAt_cons (c := b), if_pos rfl] at h2
     have h3 := ((chAt_some hl').1 h2).1
     rcases List.mem_cons.1 h3 with h3 | h3
     · exact h3.symm
     · have := cmp_cmpK.lt_trans h1 (hl.1 b h3); rw [cmp_cmpK.refl] at this; omega
  subst hab
  congr 1
  refine ch_ext hl.2 hm.2 fun k => ?_
  have h2 := h k
  rw [chAt_cons, chAt_cons] at h2
  by_cases hk : a.key = k
  · have e1 : chAt l k = none := chAt_none.2 fun c hc e => (hl.1 c hc).ne (hk.trans e.symm)
    have e2 : chAt m k = none := chAt_none.2 fun c hc e => (hm.1 c hc).ne (hk.trans e.symm)
    rw [e1, e2]
  · rw [if_neg hk, if_neg hk] at h2
    exact h2
def dif (k : DKey) (s t : Option ByteArray) : Option DChange := if s = t then none else some (chgOf k s t)
def vAt (l : List DElem) (k : DKey) (t : Int) : Option ByteArray := (atR l k t).map (·.val)
structure BetwSpec (l : List DElem) (a b : Int) (cs : List DChange) : Prop where
 ord : cs.Pairwise KeyLt
 at_ : ∀ k, chAt cs k = dif k (vAt l k a) (vAt l k b)
 len : cs.length ≤ l.length
theorem BetwSpec.one {l : List DElem} {a b : Int} {c d : List DChange} (h : BetwSpec l a b c) (h' : BetwSpec l a b d) : c = d :=
 ch_ext h.ord h'.ord fun k => by rw [h.at_, h'.at_]
theorem vAt_some {l : List DElem} (h : l.Pairwise Bef) {k : DKey} {t : Int} {v : ByteArray} (hv : vAt l k t = some v) : ∃ e ∈ l, e.key = k ∧ e.val = v := by
 unfold vAt at hv
 rw [Option.map_eq_some_iff] at hv
 obtain ⟨e, h1, h2⟩ := hv
 obtain ⟨h3, h4, _⟩ := (atR_some h).1 h1
 exact ⟨e, h3, h4, h2⟩
def inv (c : DChange) : DChange := ⟨c.key, c.has, c.had, c.is_, c.was⟩
def backC (l : List DChange) : List DChange := l.map inv
theorem back_ord {l : List DChange} (h : l.Pairwise KeyLt) : (backC l).Pairwise KeyLt := by
 unfold backC; rw [List.pairwise_map]; exact h
theorem GoodC.back {l : List DChange} (h : GoodC l) : GoodC (backC l) := by
 refine ⟨by unfold backC; rw [List.length_map]; exact h.len, fun c hc => ?_, fun c hc => ?_, fun c hc => ?_, fun c hc => ?_, back_ord h.ord⟩ <;> (obtain ⟨d, hd, rfl⟩ := List.mem_map.1 hc)
 · exact h.key d hd
 · exact ⟨(h.val d hd).2, (h.val d hd).1⟩
 · exact ⟨(h.form d hd).2, (h.form d hd).1⟩
 · have := h.dif d hd
   unfold differs at this ⊢
   rw [Bool.or_eq_true, Bool.not_eq_true', Bool.not_eq_true', beq_eq_false_iff_ne, decide_eq_false_iff_not] at this ⊢
   exact this.imp (fun h e => h e.symm) (fun h e => h e.symm)
def meets (x y : Option DChange) : Prop := match x, y with
 | some c, some d => to c = fr d
 | _, _ => True
def comp (x y : Option DChange) : Option DChange := match x, y with
 | some c, some d => dif c.key (fr c) (to d)
 | some c, none => some c
 | none, some d => some d
 | none, none => none
structure ThenSpec (a b r : List DChange) : Prop where
 ord : r.Pairwise KeyLt
 meet : ∀ k, meets (chAt a k) (chAt b k)
 at_ : ∀ k, chAt r k = comp (chAt a k) (chAt b k)
theorem ThenSpec.one {a b r q : List DChange} (h : ThenSpec a b r) (h' : ThenSpec a b q) : r = q := ch_ext h.ord h'.ord fun k => by rw [h.at_, h'.at_]
theorem chAt_gt {x : DChange} {l : List DChange} (h : ∀ c ∈ l, KeyLt x c) : chAt l x.key = none := chAt_none.2 fun c hc e => (h c hc).ne e.symm
section
variable {f : List DChange × List DChange × List DChange → Option ((List DChange × List DChange × List DChange) ⊕ (List DChange ⊕ (List DChange × Int)))} {M : Nat}
end
def lastV (t : Int) (h : List DElem) (s : Option ByteArray) : Option ByteArray := h.foldl (fun s x => if live x t then some x.val else s) s
theorem lastV_hist {k : DKey} {t : Int} : ∀ {h : List DElem}, h.Pairwise Bef → (∀ x ∈ h, x.key = k) → ∀ s, lastV t h s = match h.find? (fun x => live x t) with | some x => some x.val | none => s
 | [], _, _, _ => rfl
 | x :: h, hp, hk, s => by
  have hp' := List.pairwise_cons.1 hp
  show lastV t h (if live x t then some x.val else s) = _
  rw [lastV_hist hp'.2 (fun y hy => hk y (by simp [hy])), List.find?_cons]
  cases hx : live x t with
  | false => rfl
  | true =>
   have : h.find? (fun y => live y t) = none := by
    rw [List.find?_eq_none]
    intro y hy hl
    have := Run.live_one hp (by simp) (show y ∈ x :: h by simp [hy]) ((hk x (by simp)).trans (hk y (by simp [hy])).symm) hx hl
    subst this
    exact (hp'.1 x hy).irrefl
   rw [this]; rfl
theorem lastV_vAt {l : List DElem} (h : l.Pairwise Bef) (k : DKey) (t : Int) : lastV t (hist l k) none = vAt l k t := by
 rw [lastV_hist (show (hist l k).Pairwise Bef from h.sublist List.filter_sublist) (hist_keys l k)]
 unfold vAt
 rw [atR_hist]
 cases (hist l k).find? (fun x => live x t) <;> rfl
section
variable {f : List DChange × Int → Option ((List DChange × Int) ⊕ List DChange)} {l : List DElem} {a b : Int}
end
end Go.Proofs.YtacjdfhllomccaaGreatDoor
/- Plain Lean: changes that are done. Its conditions: none. -/
namespace Go.Proofs.YtacjdfhllomccaaGreatDoor
set_option linter.unusedVariables false
set_option linter.unusedSimpArgs false
def doH (x : Option DChange) (t : Int) (h : List DElem) : List DElem := match x with
 | none => h
 | some c => if c.has then clo h t ++ [newE c.key c.is_ t] else clo h t
structure DoSpec (l : List DElem) (cs : List DChange) (t : Int) (m : List DElem) : Prop where
 run : Run m
 last : lastL m ≤ t
 at_ : ∀ k, hist m k = doH (chAt cs k) t (hist l k)
def nowV (l : List DElem) (k : DKey) : Option ByteArray := (nowR l k).map (·.val)
theorem nowV_at {l : List DElem} (h : Run l) {u : Int} (hu : lastL l ≤ u) (k : DKey) : vAt l k u = nowV l k := by
 unfold vAt nowV; rw [nowR_at h hu]
theorem nowV_hist {l m : List DElem} {k : DKey} (h : hist l k = hist m k) : nowV l k = nowV m k := by unfold nowV; rw [nowR_other h]
structure DoPre (m : List DElem) (cs : List DChange) (t : Int) : Prop where
 run : Run m
 last : lastL m ≤ t
 lo : 1 ≤ t
 hi : t ≤ 2147483647
 had : ∀ c ∈ cs, nowV m c.key = fr c
variable {ρ : Type}
theorem do_put {m : List DElem} {c : DChange} {cs : List DChange} {t : Int} (g : (c :: cs).Pairwise KeyLt) (h : DoPre m (c :: cs) t) (hk : chkK c.key = 0) (hv : c.is_.size ≤ 40) (hlen : (putR m c.key c.is_ t).length ≤ 400) :
 DoPre (putR m c.key c.is_ t) cs t := by
 have hc := chkE_new hk h.lo h.hi hv
 refine ⟨h.run.putR h.last hc hlen, Int.le_of_eq (last_put h.run h.last hc), h.lo, h.hi, fun d hd => ?_⟩
 rw [List.pairwise_cons] at g
 have hne := (g.1 d hd).ne
 rw [nowV_hist (hist_put_other h.run (fun e => hne e.symm))]
 exact h.had d (by simp [hd])
theorem do_cut {m : List DElem} {c : DChange} {cs : List DChange} {t : Int} (g : (c :: cs).Pairwise KeyLt) (h : DoPre m (c :: cs) t) : DoPre (cutR m c.key t) cs t := by
 refine ⟨h.run.cutR h.last h.lo h.hi _, last_cut h.run h.last h.lo h.hi, h.lo, h.hi, fun d hd => ?_⟩
 rw [List.pairwise_cons] at g
 have hne := (g.1 d hd).ne
 rw [nowV_hist (hist_cut_other h.run (fun e => hne e.symm))]
 exact h.had d (by simp [hd])
theorem DoSpec.nil {m : List DElem} {t : Int} (h : DoPre m [] t) : DoSpec m [] t m := ⟨h.run, h.last, fun k => rfl⟩
theorem DoSpec.cons {l m n : List DElem} {c : DChange} {cs : List DChange} {t : Int} (g : (c :: cs).Pairwise KeyLt) (h : DoSpec m cs t n) (hs : hist m c.key = doH (some c) t (hist l c.key)) (ho : ∀ k, k ≠ c.key → hist m k = hist l k) : DoSpec l (c :: cs) t n := by
 refine ⟨h.run, h.last, fun k => ?_⟩
 rw [h.at_, chAt_cons]
 rw [List.pairwise_cons] at g
 by_cases hk : c.key = k
 · subst hk
   rw [if_pos rfl, chAt_gt g.1, ← hs]; rfl
 · rw [if_neg hk, ho k (fun e => hk e.symm)]
theorem do_had {c : DChange} (hf : FormC c) (hd : differs c = true) (hh : c.has = false) {l : List DElem} (h : nowV l c.key = fr c) : ∃ e, nowR l c.key = some e := by
 rw [differs_iff hf] at hd
 have h1 : to c = none := by unfold to; rw [hh]; rfl
 have h2 : fr c ≠ none := fun e => by rw [e, h1] at hd; simp at hd
 cases hn : nowR l c.key with
 | none => unfold nowV at h; rw [hn] at h; exact absurd h.symm h2
 | some e => exact ⟨e, rfl⟩
theorem DoSpec.late {l m : List DElem} {cs : List DChange} {t : Int} (hl : Run l) (h : DoSpec l cs t m) (ho : cs.Pairwise KeyLt) (ht : lastL l ≤ t) (h0 : 1 ≤ t) (h1 : t ≤ 2147483647) {u : Int} (hu : t ≤ u) (k : DKey) :
 vAt m k u = match chAt cs k with | none => nowV l k | some c => to c := by
 have hm := h.at_ k
 unfold vAt
 rw [atR_hist, hm]
 cases hc : chAt cs k with
 | none =>
  show ((hist l k).find? fun e => live e u).map _ = _
  rw [← atR_hist]
  exact nowV_at hl (by omega) k
 | some c =>
  have hk := ((chAt_some ho).1 hc).2
  obtain ⟨c1, c2, c3⟩ := hl.clo ht h0 h1 k
  have hno := find_clo_late (hist l k) (fun e he => (c3 e he).1) h0 hu
  unfold doH
  dsimp only
  by_cases hh : c.has = true
  · rw [if_pos hh, List.find?_append, hno, Option.none_or, List.find?_cons_of_pos (by rw [live_iff]; unfold newE; dsimp only; omega)]
    unfold to; rw [hh]; rfl
  · rw [if_neg hh, hno]
    unfold to; rw [show c.has = false by simpa using hh]; rfl
theorem DoSpec.past {l m : List DElem} {cs : List DChange} {t : Int} (h : DoSpec l cs t m) {u : Int} (hu : u < t) (k : DKey) : vAt m k u = vAt l k u := by
 have hm := h.at_ k
 unfold vAt
 rw [atR_hist, atR_hist, hm]
 have hval : ∀ o : Option DElem, (o.map (endE t)).map (·.val) = o.map (·.val) := fun o => by
  cases o with
  | none => rfl
  | some e => show some (endE t e).val = some e.val; unfold endE; split <;> rfl
 cases chAt cs k with
 | none => rfl
 | some c =>
  unfold doH
  dsimp only
  split
  · rw [List.find?_append, find_clo_past _ hu]
    cases (hist l k).find? fun e => live e u with
    | some e => rw [Option.map_some, Option.some_or]; exact hval (some e)
    | none =>
     rw [Option.map_none, Option.none_or, List.find?_cons_of_neg (by rw [live_iff]; unfold newE; dsimp only; omega)]; rfl
  · rw [find_clo_past _ hu, hval]
end Go.Proofs.YtacjdfhllomccaaGreatDoor
/- Plain Lean: loops with as much fuel as need be. Its conditions: none. -/
namespace Go.Proofs.YtacjdfhllomccaaGreatDoor
set_option linter.unusedVariables false
set_option linter.unusedSimpArgs false
theorem w64 {n : Int} (h0 : -9223372036854775808 ≤ n) (h1 : n ≤ 9223372036854775807) : IntKind.i64.wrap n = n := by
 rw [IntKind.wrap_i64]
 omega
theorem idx_nat' {α : Type} (l : List α) (k : Nat) : idx l (k : Int) = l[k]? := by
 unfold idx; rw [if_neg (by omega), Int.toNat_natCast]
theorem grow_ok {α : Type} {b : Nat} {l m : List α} (h : (l.length + m.length) * b ≤ 140737488355328) (hm : l.length + m.length ≤ 9223372036854775807) : grow b l m = some (l ++ m) := by
 unfold grow; rw [if_pos ⟨h, by unfold maxLen; omega⟩]
theorem lslice_ok {α : Type} {l : List α} {lo hi : Int} (h0 : 0 ≤ lo) (h1 : lo ≤ hi) (h2 : hi ≤ l.length) : lslice l lo hi = some ((l.take hi.toNat).drop lo.toNat) := by
 unfold lslice; rw [if_pos ⟨h0, h1, h2⟩]
theorem lslice_to {α : Type} {l : List α} {k : Nat} (h : k ≤ l.length) : lslice l 0 (k : Int) = some (l.take k) := by
 rw [lslice_ok (by omega) (by omega) (by omega)]; simp
theorem lslice_from {α : Type} {l : List α} {k : Nat} (h : k ≤ l.length) : lslice l (k : Int) (l.length : Int) = some (l.drop k) := by
 rw [lslice_ok (by omega) (by omega) (by omega)]; simp
theorem bne0_true {c : Int} (h : c ≠ 0) : (c != 0) = true := by simpa using h
theorem bne0_false {c : Int} (h : c = 0) : (c != 0) = false := by simp [h]
section loops
variable {σ ρ α τ : Type} {F : Nat}
theorem iter_go {f : σ → Option (σ ⊕ ρ)} (g : Nat → σ) {r : ρ} : ∀ (n : Nat) (N : Nat), (∀ k, k < n → f (g k) = some (.inl (g (k + 1)))) → f (g n) = some (.inr r) → n < N → iter f N (g 0) = some r
 | 0, N, _, he, hN => by
  obtain ⟨N, rfl⟩ : ∃ M, N = M + 1 := ⟨N - 1, by omega⟩
  rw [iter, he]
 | n + 1, N, hs, he, hN => by
  obtain ⟨N, rfl⟩ : ∃ M, N = M + 1 := ⟨N - 1, by omega⟩
  rw [iter, hs 0 (by omega)]
  exact iter_go (fun k => g (k + 1)) n N (fun k hk => hs (k + 1) (by omega)) he (by omega)
theorem lt_big [h : Big F] {n : Nat} (hn : n ≤ 9223372036854775807) : n < F := by have := h.le; omega
theorem loop_run [Big F] {f : σ → Option (σ ⊕ ρ)} (g : Nat → σ) (n : Nat) {r : ρ} {s : σ} (h0 : s = g 0) (hn : n ≤ 9223372036854775807) (hs : ∀ k, k < n → f (g k) = some (.inl (g (k + 1)))) (he : f (g n) = some (.inr r)) : iter f F s = some r := by
 rw [h0]; exact iter_go g n F hs he (lt_big hn)
theorem iter_big [Big F] {f : σ → Option (σ ⊕ ρ)} (g : Nat → σ) {r : ρ} (n : Nat) (hs : ∀ k, k < n → f (g k) = some (.inl (g (k + 1)))) (he : f (g n) = some (.inr r)) (hn : n ≤ 9223372036854775807) {s : σ} (h0 : s = g 0) : iter f F s = some r :=
 loop_run g n h0 hn hs he
theorem iter_bindF [Big F] {f : σ → Option (σ ⊕ ρ)} {k : ρ → Option τ} {q : τ} (g : Nat → σ) {r : ρ} (n : Nat) {s : σ} (hn : n ≤ 9223372036854775807) (h0 : s = g 0) (hk : k r = some q) (hs : ∀ k, k < n → f (g k) = some (.inl (g (k + 1)))) (he : f (g n) = some (.inr r)) :
 (iter f F s).bind k = some q := by
 rw [loop_run g n h0 hn hs he]; exact hk
theorem loop_find [Big F] {f : Int → Option (Int ⊕ ρ)} (l : List α) (w : Nat → α → Option ρ) (res : ρ) (hn : l.length ≤ 9223372036854775807) {s : Int} (h0 : s = 0)
 (hs : ∀ (k : Nat) (e : α), l[k]? = some e → (∀ j x, j < k → l[j]? = some x → w j x = none) → f (k : Int) = some (match w k e with | some r => .inr r | none => .inl ((k : Int) + 1)))
 (he : f (l.length : Int) = some (.inr res)) : iter f F s = some (((l.zipIdx).findSome? fun p => w p.2 p.1).getD res) := by
 subst h0
 have key : ∀ (m k N : Nat), k + m = l.length → m < N → (∀ j x, j < k → l[j]? = some x → w j x = none) → iter f N (k : Int) = some ((((l.drop k).zipIdx k).findSome? fun p => w p.2 p.1).getD res) := by
  intro m
  induction m with
  | zero =>
   intro k N hk hN _
   obtain ⟨N, rfl⟩ : ∃ M, N = M + 1 := ⟨N - 1, by omega⟩
   rw [iter, show k = l.length by omega, he, List.drop_length]; rfl
  | succ m ih =>
   intro k N hk hN hb
   obtain ⟨N, rfl⟩ : ∃ M, N = M + 1 := ⟨N - 1, by omega⟩
   have hkl : k < l.length := by omega
   rw [iter, hs k l[k] (List.getElem?_eq_getElem hkl) hb, List.drop_eq_getElem_cons hkl, List.zipIdx_cons, List.findSome?_cons]
   dsimp only
   cases hw : w k l[k] with
   | some r => rfl
   | none =>
    refine ih (k + 1) N (by omega) (by omega) fun j x hj hx => ?_
    rcases Nat.lt_or_ge j k with h1 | h1
    · exact hb j x h1 hx
    · obtain rfl : j = k := by omega
      rw [List.getElem?_eq_getElem hkl] at hx
      obtain rfl := Option.some.inj hx
      exact hw
 have := key l.length 0 F (by omega) (lt_big hn) (fun j x hj => by omega)
 rw [List.drop_zero] at this
 exact this
theorem loop_first [Big F] {f : Int → Option (Int ⊕ ρ)} (l : List α) (w : α → Option ρ) (res : ρ) (hn : l.length ≤ 9223372036854775807) {s : Int} (h0 : s = 0)
 (hs : ∀ (k : Nat) (e : α), l[k]? = some e → f (k : Int) = some (match w e with | some r => .inr r | none => .inl ((k : Int) + 1)))
 (he : f (l.length : Int) = some (.inr res)) : iter f F s = some ((l.findSome? w).getD res) := by
 rw [loop_find l (fun _ e => w e) res hn h0 (fun k e hk _ => hs k e hk) he]
 congr 2
 have : ∀ (l : List α) (n : Nat), (l.zipIdx n).findSome? (fun p => w p.1) = l.findSome? w := by
  intro l
  induction l with
  | nil => intro n; rfl
  | cons a l ih => intro n; rw [List.zipIdx_cons, List.findSome?_cons, List.findSome?_cons, ih]
 exact this l 0
theorem find_none {l : List α} {w : Nat → α → Option ρ} : (l.zipIdx.findSome? fun p => w p.2 p.1) = none ↔ ∀ k e, l[k]? = some e → w k e = none := by
 rw [List.findSome?_eq_none_iff]
 constructor
 · intro h k e hk
   exact h (e, k) (by rw [List.mem_zipIdx_iff_getElem?]; exact hk)
 · rintro h ⟨e, k⟩ hp
   rw [List.mem_zipIdx_iff_getElem?] at hp
   exact h k e hp
theorem find_some {l : List α} {w : Nat → α → Option ρ} {r : ρ} (h : (l.zipIdx.findSome? fun p => w p.2 p.1) = some r) : ∃ k e, l[k]? = some e ∧ w k e = some r := by
 obtain ⟨⟨e, k⟩, hp, hr⟩ := List.exists_of_findSome?_eq_some h
 rw [List.mem_zipIdx_iff_getElem?] at hp
 exact ⟨k, e, hp, hr⟩
theorem loop_fold [Big F] {f : τ × Int → Option ((τ × Int) ⊕ ρ)} (l : List α) (st : τ → α → τ) (a0 : τ) {r : ρ} (hn : l.length ≤ 9223372036854775807) {s : τ × Int} (h0 : s = (a0, 0))
 (hs : ∀ (k : Nat) (e : α), l[k]? = some e → f ((l.take k).foldl st a0, (k : Int)) = some (.inl (st ((l.take k).foldl st a0) e, (k : Int) + 1)))
 (he : f (l.foldl st a0, (l.length : Int)) = some (.inr r)) : iter f F s = some r := by
 refine loop_run (fun k => ((l.take k).foldl st a0, (k : Int))) l.length (by rw [h0]; rfl) hn (fun k hk => ?_) (by rw [List.take_length]; exact he)
 rw [hs k l[k] (List.getElem?_eq_getElem hk), List.take_add_one, List.getElem?_eq_getElem hk, Option.toList_some, List.foldl_append]
 simp
theorem loop_rec [Big F] {f : σ → Option (σ ⊕ ρ)} {K : ρ → Option τ} (R : Nat → σ → τ → Prop)
 (hR : ∀ m s q, R m s q → (∃ r, f s = some (.inr r) ∧ K r = some q) ∨ ∃ m' s', m' < m ∧ f s = some (.inl s') ∧ R m' s' q) {m : Nat} {s : σ} {q : τ} (hm : m ≤ 9223372036854775807) (h : R m s q) : (iter f F s).bind K = some q := by
 have key : ∀ (n N m : Nat) (s : σ), m ≤ n → n < N → R m s q → (iter f N s).bind K = some q := by
  intro n
  induction n with
  | zero =>
   intro N m s hmn hN hs
   obtain ⟨N, rfl⟩ : ∃ M, N = M + 1 := ⟨N - 1, by omega⟩
   rcases hR m s q hs with ⟨r, h1, h2⟩ | ⟨m', s', h1, h2, h3⟩
   · rw [iter, h1]; exact h2
   · omega
  | succ n ih =>
   intro N m s hmn hN hs
   obtain ⟨N, rfl⟩ : ∃ M, N = M + 1 := ⟨N - 1, by omega⟩
   rcases hR m s q hs with ⟨r, h1, h2⟩ | ⟨m', s', h1, h2, h3⟩
   · rw [iter, h1]; exact h2
   · rw [iter, h2]; exact ih N m' s' (by omega) (by omega) h3
 exact key m F m s (Nat.le_refl _) (lt_big hm) h
end loops
end Go.Proofs.YtacjdfhllomccaaGreatDoor
/- Plain Lean: what the functions on runs compute. Its conditions: none. -/
namespace Go.Proofs.YtacjdfhllomccaaGreatDoor
set_option linter.unusedVariables false
set_option linter.unusedSimpArgs false
variable {F : Nat} [Big F]
theorem elem_Spot_eq (e : DElem) : elem_Spot e = some (spotE e) := rfl
def befB (p e : DElem) : Bool := decide (cmpS (spotE p) (spotE e) < 0) && (p.key != e.key || (p.gone != 0 && decide (p.gone ≤ e.made)))
theorem befB_iff {p e : DElem} : befB p e = true ↔ Bef p e := by
 unfold befB Bef
 simp only [Bool.and_eq_true, Bool.or_eq_true, decide_eq_true_eq, bne_iff_ne, ne_eq]
 constructor
 · rintro ⟨h1, h2⟩; exact ⟨h1, fun hk => h2.resolve_left fun h => h hk⟩
 · rintro ⟨h1, h2⟩; exact ⟨h1, (Decidable.em (p.key = e.key)).elim (fun h => .inr (h2 h)) .inl⟩
def badAt (l : List DElem) (k : Nat) (e : DElem) : Option Int :=
 if chkE e ≠ 0 then some (chkE e) else if k = 0 then none else
  match l[k - 1]? with
  | some p => if befB p e then none else some 3
  | none => none
theorem badAt_zero {l : List DElem} {e : DElem} (h : chkE e = 0) : badAt l 0 e = none := by unfold badAt; rw [if_neg (by simpa using h), if_pos rfl]
theorem badAt_succ {l : List DElem} {j : Nat} {p e : DElem} (h : chkE e = 0) (hj : l[j]? = some p) : badAt l (j + 1) e = if befB p e then none else some 3 := by
 unfold badAt; rw [if_neg (by simpa using h), if_neg (by omega), Nat.add_sub_cancel, hj]
theorem badAt_bad {l : List DElem} {k : Nat} {e : DElem} (h : chkE e ≠ 0) : badAt l k e = some (chkE e) := by unfold badAt; rw [if_pos h]
def chkR (l : List DElem) : Int := if 400 < l.length then 2 else ((l.zipIdx).findSome? fun p => badAt l p.2 p.1).getD 0
theorem findSome_map {α β γ : Type} (g : β → γ) (w : α → Option β) : ∀ l : List α, (l.findSome? fun a => (w a).map g) = (l.findSome? w).map g
 | [] => rfl
 | a :: l => by
  rw [List.findSome?_cons, List.findSome?_cons]
  cases w a with
  | some b => rfl
  | none => exact findSome_map g w l
theorem run_Check_eq (l : List DElem) : run_Check F l = some (chkR l) := by
 unfold run_Check chkR
 by_cases hl : 400 < l.length
 · rw [if_pos hl, decide_eq_true (by omega), cond_true]
 · rw [if_neg hl, decide_eq_false (by omega), cond_false]
   rw [loop_find l (fun k e => (badAt l k e).map Sum.inr) (Sum.inl ()) (by omega) rfl (fun k e hk hb => ?_) (by simp)]
   · rw [findSome_map]
     cases l.zipIdx.findSome? fun p => badAt l p.2 p.1 <;> rfl
   · have hkl := (List.getElem?_eq_some_iff.1 hk).1
     rw [decide_eq_true (by omega), cond_true, idx_nat', hk, Option.bind_some, elem_Check_eq, Option.bind_some]
     by_cases hc : chkE e = 0
     · rw [bne0_false hc, cond_false]
       cases k with
       | zero => rw [badAt_zero hc]; simp [w64]
       | succ j =>
        obtain ⟨p, hj⟩ : ∃ p, l[j]? = some p := ⟨_, List.getElem?_eq_getElem (show j < l.length by omega)⟩
        rw [badAt_succ hc hj, show (((j + 1 : Nat) : Int) == 0) = false by rw [beq_eq_false_iff_ne]; omega, cond_false, w64 (by omega) (by omega), show (((j + 1 : Nat) : Int) - 1) = (j : Int) by omega, idx_nat', hj, w64 (by omega) (by omega)]
        simp only [Option.bind_some, elem_Spot_eq, key_CmpSpot_eq]
        unfold befB
        by_cases h1 : cmpS (spotE p) (spotE e) < 0
        · rw [decide_eq_false (by omega), cond_false, decide_eq_true h1, Bool.true_and]
          by_cases h2 : p.key = e.key
          · rw [show (p.key == e.key) = true by simpa using h2, cond_true, show (p.key != e.key) = false by simpa using h2, Bool.false_or]
            by_cases h3 : p.gone = 0
            · rw [show (p.gone == 0) = true by simpa using h3, cond_true, show (p.gone != 0) = false by simpa using h3]; rfl
            · rw [show (p.gone == 0) = false by simpa using h3, cond_false, show (p.gone != 0) = true by simpa using h3, Bool.true_and]
              by_cases h4 : p.gone ≤ e.made
              · rw [decide_eq_false (by omega), decide_eq_true h4]; rfl
              · rw [decide_eq_true (by omega), decide_eq_false h4]; rfl
          · rw [show (p.key == e.key) = false by simpa using h2, cond_false, show (p.key != e.key) = true by simpa using h2]; rfl
        · rw [decide_eq_true (by omega), cond_true, decide_eq_false h1]; rfl
     · rw [bne0_true hc, cond_true, badAt_bad hc]; rfl
theorem chkR_zero {l : List DElem} : chkR l = 0 ↔ Run l := by
 unfold chkR
 by_cases hl : 400 < l.length
 · rw [if_pos hl]
   constructor
   · intro h; cases h
   · intro h; have := h.len; omega
 · rw [if_neg hl]
   cases hf : l.zipIdx.findSome? fun p => badAt l p.2 p.1 with
   | some c =>
    obtain ⟨k, e, hk, hb⟩ := find_some hf
    rw [Option.getD_some]
    constructor
    · intro hc
      subst hc
      unfold badAt at hb
      split at hb
      · rename_i h; exact absurd (Option.some.inj hb) h
      · split at hb
        · cases hb
        · split at hb
          · split at hb
            · cases hb
            · cases hb
          · cases hb
    · intro h
      have he := h.ok e (List.mem_of_getElem? hk)
      cases k with
      | zero => rw [badAt_zero he] at hb; cases hb
      | succ j =>
       have hkl := (List.getElem?_eq_some_iff.1 hk).1
       have hj : l[j]? = some l[j] := List.getElem?_eq_getElem (by omega)
       have hp := List.pairwise_iff_getElem.1 h.ord j (j + 1) (by omega) hkl (by omega)
       rw [(List.getElem?_eq_some_iff.1 hk).2] at hp
       rw [badAt_succ he hj, if_pos (befB_iff.2 hp)] at hb
       cases hb
   | none =>
    rw [find_none] at hf
    refine ⟨fun _ => ?_, fun _ => rfl⟩
    have hok : ∀ e ∈ l, chkE e = 0 := fun e he => by
     obtain ⟨k, hk, rfl⟩ := List.getElem_of_mem he
     have h1 := hf k _ (List.getElem?_eq_getElem hk)
     by_cases hc : chkE l[k] = 0
     · exact hc
     · rw [badAt_bad hc] at h1; cases h1
    refine ⟨by omega, hok, ?_⟩
    rw [List.pairwise_iff_getElem]
    have step : ∀ j (hj : j + 1 < l.length), Bef l[j] l[j + 1] := fun j hj => by
     have h1 := hf (j + 1) _ (List.getElem?_eq_getElem hj)
     rw [badAt_succ (hok _ (List.getElem_mem hj)) (List.getElem?_eq_getElem (show j < l.length by omega))] at h1
     split at h1
     · rename_i h; exact befB_iff.1 h
     · cases h1
    have far : ∀ d i (hd : i + d + 1 < l.length), Bef (l[i]'(by omega)) l[i + d + 1] := by
     intro d
     induction d with
     | zero => intro i hd; exact step i hd
     | succ d ih =>
      intro i hd
      have h1 := ih i (by omega)
      have h2 := step (i + d + 1) (by omega)
      exact h1.trans (hok _ (List.getElem_mem _)) h2
    intro i j hi hj hij
    have := far (j - i - 1) i (by omega)
    have e : i + (j - i - 1) + 1 = j := by omega
    simp only [e] at this
    exact this
theorem run_last_eq (l : List DElem) (hl : l.length ≤ 9223372036854775807) : run_last F l = some (lastL l) := by
 unfold run_last lastL
 rw [loop_fold l (fun t e => if t < lastE e then lastE e else t) 0 (r := l.foldl (fun t e => if t < lastE e then lastE e else t) 0) hl rfl (fun k e hk => ?_) (by simp), Option.bind_some]
 have hkl := (List.getElem?_eq_some_iff.1 hk).1
 dsimp only
 rw [decide_eq_true (by omega), cond_true, idx_nat', hk, Option.bind_some, elem_Last_eq, Option.bind_some, w64 (by omega) (by omega)]
theorem run_Last_eq (l : List DElem) : run_Last F l = some (if chkR l = 0 then lastL l else 0, chkR l) := by
 unfold run_Last
 rw [run_Check_eq, Option.bind_some]
 by_cases h : chkR l = 0
 · have := (chkR_zero.1 h).len
   rw [bne0_false h, cond_false, run_last_eq l (by omega), h]; rfl
 · rw [bne0_true h, cond_true, if_neg h]
def zeroE : DElem := ⟨⟨0, 0, 0⟩, 0, 0, ByteArray.mk #[]⟩
def atE (l : List DElem) (k : DKey) (t : Int) : Int := if chkR l ≠ 0 then chkR l else if chkK k ≠ 0 then chkK k else if (atR l k t).isNone then 4 else 0
def atV (l : List DElem) (k : DKey) (t : Int) : DElem := if chkR l = 0 ∧ chkK k = 0 then (atR l k t).getD zeroE else zeroE
theorem run_At_eq (l : List DElem) (k : DKey) (t : Int) : run_At F l k t = some (atV l k t, atE l k t) := by
 unfold run_At atE atV
 rw [run_Check_eq, Option.bind_some, key_Check_eq, Option.bind_some]
 by_cases h : chkR l = 0
 · rw [bne0_false h, cond_false]
   by_cases h2 : chkK k = 0
   · have hlen := (chkR_zero.1 h).len
     rw [bne0_false h2, cond_false, if_pos ⟨h, h2⟩, if_neg (by simpa using h), if_neg (by simpa using h2)]
     rw [loop_first l (fun e => if (e.key == k && live e t) = true then some (Sum.inr (e, 0)) else none) (Sum.inl ()) (by omega) rfl (fun j e hj => ?_) (by simp)]
     · unfold atR
       have : ∀ l : List DElem, l.findSome? (fun e => if (e.key == k && live e t) = true then some (Sum.inr (e, 0) : Unit ⊕ (DElem × Int)) else none) = (l.find? fun e => e.key == k && live e t).map fun e => Sum.inr (e, 0) := by
        intro l
        induction l with
        | nil => rfl
        | cons a l ih =>
         rw [List.findSome?_cons, List.find?_cons]
         cases (a.key == k && live a t)
         · exact ih
         · rfl
       rw [this]
       cases l.find? fun e => e.key == k && live e t <;> rfl
     · have hkl := (List.getElem?_eq_some_iff.1 hj).1
       rw [decide_eq_true (by omega), cond_true, idx_nat', hj, Option.bind_some]
       by_cases hk : e.key = k
       · cases hv : live e t <;> simp [hk, elem_Live_eq, hv, w64 (n := (j : Int) + 1) (by omega) (by omega)]
       · rw [show (e.key == k) = false by simpa using hk, cond_false]
         simp [w64 (n := (j : Int) + 1) (by omega) (by omega)]
   · rw [bne0_true h2, cond_true, if_neg (fun hh => h2 hh.2), if_neg (by simpa using h), if_pos h2]; rfl
 · rw [bne0_true h, cond_true, if_neg (fun hh => h hh.1), if_pos h]; rfl
section
variable {α : Type} {l a b : List α} {x : α}
theorem get_mid (h : l = a ++ x :: b) : l[a.length]? = some x := by rw [h, List.getElem?_append_right (Nat.le_refl _)]; simp
theorem set_mid (h : l = a ++ x :: b) (y : α) : l.set a.length y = a ++ y :: b := by rw [h, List.set_append_right _ _ (Nat.le_refl _)]; simp
theorem take_mid (h : l = a ++ x :: b) : l.take a.length = a := by rw [h]; exact List.take_left
theorem drop_mid (h : l = a ++ x :: b) : l.drop (a.length + 1) = b := by rw [h, List.drop_append]; simp
end
theorem search_mid {i j : Nat} (hj : j ≤ 4611686018427387903) (hi : i ≤ j) : IntKind.i64.wrap (shr .u64 (IntKind.u64.wrap (IntKind.i64.wrap ((i : Int) + (j : Int)))) 1) = (((i + j) / 2 : Nat) : Int) := by
 have e0 : IntKind.i64.wrap ((i : Int) + (j : Int)) = (i : Int) + (j : Int) := w64 (by omega) (by omega)
 have e1 : IntKind.u64.wrap ((i : Int) + (j : Int)) = (i : Int) + (j : Int) := by
  simp [IntKind.wrap, IntKind.bits, IntKind.signed]; omega
 have e2 : shr .u64 ((i : Int) + (j : Int)) 1 = (((i + j) / 2 : Nat) : Int) := by
  unfold shr
  have e3 : min 1 (IntKind.bits .u64) = 1 := by decide
  rw [e3, Int.fdiv_eq_ediv_of_nonneg _ (by decide)]
  omega
 rw [e0, e1, e2, w64 (by omega) (by omega)]
theorem loop_search {f : Int × Int → Option ((Int × Int) ⊕ Int)} (p : Nat → Bool) (n c : Nat) (hn : n ≤ 4611686018427387903) (hc : c ≤ n) (hlo : ∀ j, j < c → p j = false) (hhi : ∀ j, c ≤ j → j < n → p j = true)
 (hs : ∀ i j : Nat, i < j → j ≤ n → f ((i : Int), (j : Int)) = some (.inl (bif p ((i + j) / 2) then ((i : Int), (((i + j) / 2 : Nat) : Int)) else ((((i + j) / 2 : Nat) : Int) + 1, (j : Int))))) (he : ∀ i : Nat, f ((i : Int), (i : Int)) = some (.inr (i : Int))) :
 iter f F (0, (n : Int)) = some (c : Int) := by
 have key : ∀ (d i j N : Nat), j - i ≤ d → i ≤ c → c ≤ j → j ≤ n → d < N → iter f N ((i : Int), (j : Int)) = some (c : Int) := by
  intro d
  induction d with
  | zero =>
   intro i j N hd h1 h2 h3 hN
   obtain ⟨N, rfl⟩ : ∃ M, N = M + 1 := ⟨N - 1, by omega⟩
   obtain rfl : i = c := by omega
   obtain rfl : j = i := by omega
   rw [iter, he]
  | succ d ih =>
   intro i j N hd h1 h2 h3 hN
   obtain ⟨N, rfl⟩ : ∃ M, N = M + 1 := ⟨N - 1, by omega⟩
   rcases Nat.lt_or_ge i j with hij | hij
   · rw [iter, hs i j hij h3]
     dsimp only
     by_cases hp : p ((i + j) / 2) = true
     · rw [hp, cond_true]
       refine ih i ((i + j) / 2) N (by omega) h1 ?_ (by omega) (by omega)
       rcases Nat.lt_or_ge ((i + j) / 2) c with h4 | h4
       · rw [hlo _ h4] at hp; cases hp
       · exact h4
     · rw [show p ((i + j) / 2) = false by simpa using hp, cond_false]
       refine ih ((i + j) / 2 + 1) j N (by omega) ?_ h2 h3 (by omega)
       rcases Nat.lt_or_ge ((i + j) / 2) c with h4 | h4
       · exact h4
       · exact absurd (hhi _ h4 (by omega)) hp
   · obtain rfl : i = c := by omega
     obtain rfl : j = i := by omega
     rw [iter, he]
 exact key n 0 n F (by omega) (by omega) hc (Nat.le_refl _) (lt_big (by omega))
theorem run_place_eq (A B : List DElem) (s : DSpot) (hn : (A ++ B).length ≤ 1000000) (hA : ∀ e ∈ A, cmpS (spotE e) s < 0) (hB : ∀ e ∈ B, 0 ≤ cmpS (spotE e) s) : run_place F (A ++ B) s = some (A.length : Int) := by
 unfold run_place
 have hlen : (A ++ B).length = A.length + B.length := List.length_append
 rw [loop_search (fun j => match (A ++ B)[j]? with | some e => decide (0 ≤ cmpS (spotE e) s) | none => false) (A ++ B).length A.length (by omega) (by omega) (fun j hj => ?_) (fun j h1 h2 => ?_) (fun i j hij hj => ?_) (fun i => by simp), Option.bind_some, Option.bind_some]
 · rw [List.getElem?_append_left hj, List.getElem?_eq_getElem hj]
   simpa using hA _ (List.getElem_mem hj)
 · rw [List.getElem?_append_right h1, List.getElem?_eq_getElem (by omega)]
   simpa using hB _ (List.getElem_mem _)
 · have hm : (i + j) / 2 < (A ++ B).length := by omega
   dsimp only
   rw [decide_eq_true (by omega), cond_true, search_mid (by omega) (by omega), idx_nat', List.getElem?_eq_getElem hm, Option.bind_some, elem_Spot_eq, Option.bind_some, key_CmpSpot_eq, Option.bind_some, Option.bind_some]
   dsimp only
   by_cases hp : 0 ≤ cmpS (spotE (A ++ B)[(i + j) / 2]) s
   · rw [decide_eq_true hp]; rfl
   · rw [decide_eq_false hp, w64 (by omega) (by omega)]; rfl
theorem Run.made {l : List DElem} (h : Run l) {e : DElem} (he : e ∈ l) : 1 ≤ e.made ∧ e.made ≤ 2147483647 := by
 obtain ⟨_, h1, h2, _⟩ := chkE_ok (h.ok e he); exact ⟨h1, h2⟩
theorem hi_spot {l : List DElem} {k : DKey} {t : Int} : ∀ e ∈ hi l k, 0 ≤ cmpS (spotE e) ⟨k, t⟩ := fun e he => by
 have h1 := (mem_hi.1 he).2
 have h2 : cmpS ⟨k, t⟩ (spotE e) < 0 := cmpS_lt.2 (.inl (cmp_cmpK.pos.1 h1))
 have := cmp_cmpS.neg (spotE e) ⟨k, t⟩
 omega
theorem lo_spot {l : List DElem} {k : DKey} {t : Int} : ∀ e ∈ lo l k, cmpS (spotE e) ⟨k, t⟩ < 0 := fun e he => cmpS_lt.2 (.inl (mem_lo.1 he).2)
theorem run_now_place {l : List DElem} (h : Run l) (k : DKey) : run_place F l ⟨k, 2147483648⟩ = some ((lo l k ++ hist l k).length : Int) := by
 have hs : l = (lo l k ++ hist l k) ++ hi l k := by rw [List.append_assoc]; exact split3 k h.ord
 conv => lhs; rw [hs]
 refine run_place_eq _ _ _ (by rw [← hs]; have := h.len; omega) (fun e he => ?_) hi_spot
 rcases List.mem_append.1 he with he | he
 · exact lo_spot e he
 · obtain ⟨h1, h2⟩ := mem_hist.1 he
   have := h.made h1
   exact cmpS_lt.2 (.inr ⟨h2, by show e.made < 2147483648; omega⟩)
theorem run_now_none {l : List DElem} (h : Run l) {k : DKey} (hn : nowR l k = none) : run_now F l k = some (-1) := by
 unfold run_now
 rw [run_now_place h k, Option.bind_some]
 have hs : l = (lo l k ++ hist l k) ++ hi l k := by rw [List.append_assoc]; exact split3 k h.ord
 have hlen : (lo l k ++ hist l k).length ≤ l.length := by have := congrArg List.length hs; rw [List.length_append] at this; omega
 have hl := h.len
 rw [w64 (by omega) (by omega)]
 by_cases h0 : (lo l k ++ hist l k).length = 0
 · rw [h0]; rfl
 · obtain ⟨n, hn'⟩ : ∃ n, (lo l k ++ hist l k).length = n + 1 := ⟨(lo l k ++ hist l k).length - 1, by omega⟩
   rw [hn', decide_eq_false (by omega), cond_false, show (((n + 1 : Nat) : Int) - 1) = (n : Int) by omega, idx_nat', List.getElem?_eq_getElem (show n < l.length by omega)]
   have he : l[n]'(by omega) = (lo l k ++ hist l k)[n]'(by omega) := by
    have e1 : l[n]? = ((lo l k ++ hist l k) ++ hi l k)[n]? := by rw [← hs]
    rw [List.getElem?_append_left (by omega), List.getElem?_eq_getElem (show n < l.length by omega), List.getElem?_eq_getElem (by omega)] at e1
    exact Option.some.inj e1
   simp only [Option.bind_some]
   have hm : l[n]'(by omega) ∈ l := List.getElem_mem _
   by_cases hk : (l[n]'(by omega)).key = k
   · have hg := nowR_none.1 hn _ hm hk
     rw [beq_iff_eq.2 hk, Bool.not_true, cond_false, bne0_true hg, Option.bind_some, cond_true]
   · rw [beq_eq_false_iff_ne.2 hk, Bool.not_false, cond_true, Option.bind_some, cond_true]
theorem run_now_some {l : List DElem} (h : Run l) {k : DKey} {e : DElem} (hn : nowR l k = some e) : ∃ a, hist l k = a ++ [e] ∧ l = (lo l k ++ a) ++ e :: hi l k ∧ run_now F l k = some ((lo l k ++ a).length : Int) := by
 obtain ⟨a, ha, _⟩ := hist_now_some h.ord hn
 obtain ⟨_, hk, hg⟩ := (nowR_some h.ord).1 hn
 have hs : l = (lo l k ++ a) ++ e :: hi l k := by
  conv => lhs; rw [split3 k h.ord, ha]
  simp
 refine ⟨a, ha, hs, ?_⟩
 unfold run_now
 rw [run_now_place h k, Option.bind_some, ha]
 have hl := h.len
 have hlen := congrArg List.length hs
 simp only [List.length_append, List.length_cons, List.length_nil] at hlen ⊢
 rw [w64 (by omega) (by omega), show (((lo l k).length + (a.length + (0 + 1)) : Nat) : Int) - 1 = (((lo l k ++ a).length : Nat) : Int) by simp; omega]
 rw [decide_eq_false (by omega), cond_false, idx_nat']
 have he : l[(lo l k ++ a).length]? = some e := get_mid hs
 rw [he]
 simp [hk, hg]
def putE (l : List DElem) (k : DKey) (v : ByteArray) (t : Int) : Int :=
 if chkR l ≠ 0 then chkR l else if chkE (newE k v t) ≠ 0 then chkE (newE k v t) else if t < lastL l then 9 else if 400 < (putR l k v t).length then 8 else 0
theorem putE_zero {l : List DElem} {k : DKey} {v : ByteArray} {t : Int} : putE l k v t = 0 ↔ Run l ∧ chkE (newE k v t) = 0 ∧ lastL l ≤ t ∧ (putR l k v t).length ≤ 400 := by
 unfold putE
 rw [← chkR_zero]
 split
 · simp_all
 · split
   · simp_all
   · split
     · constructor
       · intro h; cases h
       · omega
     · split
       · constructor
         · intro h; cases h
         · omega
       · simp_all
theorem insert_shift {α : Type} (a b : List α) (x z : α) : (over ((a ++ b) ++ [z]) (a.length + 1) ((((a ++ b) ++ [z]).drop a.length).take (((a ++ b) ++ [z]).drop (a.length + 1)).length)).set a.length x = a ++ x :: b := by
 have e1 : ((a ++ b) ++ [z]).drop a.length = b ++ [z] := by rw [List.append_assoc, List.drop_left]
 have e2 : (((a ++ b) ++ [z]).drop (a.length + 1)).length = b.length := by simp
 rw [e1, e2, List.take_left]
 have e3 : ∃ y, over ((a ++ b) ++ [z]) (a.length + 1) b = a ++ y :: b := by
  unfold over
  have e4 : ((a ++ b) ++ [z]).drop (a.length + 1 + b.length) = [] := List.drop_eq_nil_of_le (by simp; omega)
  rw [e4, List.append_nil]
  cases b with
  | nil => exact ⟨z, by rw [List.append_nil, List.append_nil, List.take_of_length_le (by simp)]⟩
  | cons y b =>
   refine ⟨y, ?_⟩
   rw [List.append_assoc, List.cons_append, List.take_append, List.take_of_length_le (by omega), show a.length + 1 - a.length = 1 by omega]
   simp
 obtain ⟨y, hy⟩ := e3
 rw [hy, set_mid rfl]
theorem put_in {F : Nat} [Big F] (A B : List DElem) (s : DSpot) (x z : DElem) (hn : (A ++ B).length < 400) (hA : ∀ e ∈ A, cmpS (spotE e) s < 0) (hB : ∀ e ∈ B, 0 ≤ cmpS (spotE e) s) :
 ((run_place F (A ++ B) s).bind fun r6 =>
  (grow 56 (A ++ B) [z]).bind fun _ =>
  (lslice ((A ++ B) ++ [z]) (IntKind.i64.wrap (r6 + 1)) (((A ++ B) ++ [z]).length : Int)).bind fun s1 =>
  (lslice ((A ++ B) ++ [z]) r6 (((A ++ B) ++ [z]).length : Int)).bind fun s2 =>
  (idx (over ((A ++ B) ++ [z]) ((IntKind.i64.wrap (r6 + 1)).toNat) (s2.take s1.length)) r6).bind fun e4 =>
  some (((over ((A ++ B) ++ [z]) ((IntKind.i64.wrap (r6 + 1)).toNat) (s2.take s1.length)).set r6.toNat x), (0 : Int))) = some (A ++ x :: B, 0) := by
 have hlen : (A ++ B).length = A.length + B.length := List.length_append
 have hlen2 : ((A ++ B) ++ [z]).length = A.length + B.length + 1 := by simp; omega
 rw [run_place_eq A B s (by omega) hA hB, Option.bind_some, grow_ok (by simp; omega) (by simp; omega), Option.bind_some, w64 (by omega) (by omega),
  show ((A.length : Int) + 1) = ((A.length + 1 : Nat) : Int) by omega, lslice_from (by omega), Option.bind_some, lslice_from (by omega), Option.bind_some, idx_nat', Int.toNat_natCast, Int.toNat_natCast, insert_shift]
 have hov : A.length < (over ((A ++ B) ++ [z]) (A.length + 1) ((((A ++ B) ++ [z]).drop A.length).take (((A ++ B) ++ [z]).drop (A.length + 1)).length)).length := by
  rw [over_length]
  · omega
  · simp; omega
 rw [List.getElem?_eq_getElem hov, Option.bind_some]
theorem run_Put_eq (l : List DElem) (k : DKey) (v : ByteArray) (t : Int) : run_Put F l k v t = some (if putE l k v t = 0 then putR l k v t else [], putE l k v t) := by
 unfold run_Put
 rw [run_Check_eq, Option.bind_some, elem_Check_eq, Option.bind_some]
 show (bif chkR l != 0 then some ([], chkR l) else bif chkE (newE k v t) != 0 then some ([], chkE (newE k v t)) else _) = _
 by_cases h1 : chkR l = 0
 · have hr := chkR_zero.1 h1
   have hl := hr.len
   rw [bne0_false h1, cond_false]
   by_cases h2 : chkE (newE k v t) = 0
   · obtain ⟨_, t0, t1, _⟩ := newE_ok h2
     rw [bne0_false h2, cond_false, run_last_eq l (by omega), Option.bind_some]
     by_cases h3 : t < lastL l
     · have hz : putE l k v t = 9 := by unfold putE; rw [if_neg (by simpa using h1), if_neg (by simpa using h2), if_pos h3]
       rw [decide_eq_true h3, cond_true, hz]; rfl
     · rw [decide_eq_false h3, cond_false, grow_ok (by simp; omega) (by simp; omega), Option.bind_some, List.nil_append]
       have ht : lastL l ≤ t := by omega
       obtain ⟨c1, c2, c3⟩ := hr.clo ht t0 t1 k
       have hpl := put_length (k := k) (v := v) (t := t) hr
       have hE : putE l k v t = if 400 < (putR l k v t).length then 8 else 0 := by
        unfold putE; rw [if_neg (by simpa using h1), if_neg (by simpa using h2), if_neg h3]
       cases hn : nowR l k with
       | none =>
        rw [hn] at hpl
        rw [run_now_none hr hn, Option.bind_some, decide_eq_false (by omega), cond_false]
        simp only [Option.bind_some]
        by_cases h4 : l.length = 400
        · rw [show ((l.length : Int) == 400) = true by rw [beq_iff_eq]; omega, cond_true]
          have hz : putE l k v t = 8 := by rw [hE, if_pos (by rw [hpl]; show 400 < l.length + 1; omega)]
          rw [hz]; rfl
        · rw [show ((l.length : Int) == 400) = false by rw [beq_eq_false_iff_ne]; omega, cond_false]
          have hz : putE l k v t = 0 := by rw [hE, if_neg (by rw [hpl]; show ¬ 400 < l.length + 1; omega)]
          have hs : l = (lo l k ++ hist l k) ++ hi l k := by rw [List.append_assoc]; exact split3 k hr.ord
          have hp := put_in (F := F) (lo l k ++ hist l k) (hi l k) ⟨k, t⟩ (newE k v t) zeroE (by rw [← hs]; omega) (fun e he => by
           rcases List.mem_append.1 he with he | he
           · exact lo_spot e he
           · rw [← hist_now_none (t := t) hn] at he
             exact cmpS_lt.2 (.inr ⟨keys_clo (hist_keys l k) e he, (c3 e he).2⟩)) hi_spot
          rw [← hs] at hp
          have : putR l k v t = (lo l k ++ hist l k) ++ newE k v t :: hi l k := by unfold putR upd; rw [hist_now_none hn]; simp
          rw [hz, if_pos rfl, this]
          exact hp
       | some e =>
        rw [hn] at hpl
        obtain ⟨a, ha, hs, hnow⟩ := run_now_some (F := F) hr hn
        obtain ⟨a', ha', hclo⟩ := clo_now (t := t) hr.ord hn
        obtain ⟨hm, hk, hg⟩ := (nowR_some hr.ord).1 hn
        obtain rfl : a = a' := by
         have := ha.symm.trans ha'
         exact List.append_cancel_right this
        have hget : l[(lo l k ++ a).length]? = some e := get_mid hs
        rw [hnow, Option.bind_some, decide_eq_true (by omega), cond_true, idx_nat', hget, Option.bind_some, Option.bind_some]
        by_cases hmt : e.made = t
        · have hz : putE l k v t = 0 := by rw [hE, if_neg (by rw [hpl]; show ¬ 400 < (if e.made = t then _ else _); rw [if_pos hmt]; omega)]
          rw [show (e.made == t) = true by simpa using hmt, cond_true]
          have hset : l.set (lo l k ++ a).length ⟨e.key, e.made, e.gone, v⟩ = putR l k v t := by
           rw [set_mid hs]
           unfold putR upd newE
           rw [hclo, if_pos hmt, hk, hmt, hg]
           simp
          rw [hz, if_pos rfl, ← hset, Int.toNat_natCast]; rfl
        · rw [show (e.made == t) = false by simpa using hmt, cond_false]
          have hset : l.set (lo l k ++ a).length ⟨e.key, e.made, t, e.val⟩ = (lo l k ++ clo (hist l k) t) ++ hi l k := by
           rw [set_mid hs, hclo, if_neg hmt]
           simp
          simp only [Option.bind_some, Int.toNat_natCast]
          rw [hset]
          have hlen3 : ((lo l k ++ clo (hist l k) t) ++ hi l k).length = l.length := by rw [← hset, List.length_set]
          by_cases h4 : l.length = 400
          · rw [show ((((lo l k ++ clo (hist l k) t) ++ hi l k).length : Int) == 400) = true by rw [beq_iff_eq]; omega, cond_true]
            have hz : putE l k v t = 8 := by rw [hE, if_pos (by rw [hpl]; show 400 < (if e.made = t then _ else _); rw [if_neg hmt]; omega)]
            rw [hz]; rfl
          · rw [show ((((lo l k ++ clo (hist l k) t) ++ hi l k).length : Int) == 400) = false by rw [beq_eq_false_iff_ne]; omega, cond_false]
            have hz : putE l k v t = 0 := by rw [hE, if_neg (by rw [hpl]; show ¬ 400 < (if e.made = t then _ else _); rw [if_neg hmt]; omega)]
            have hp := put_in (F := F) (lo l k ++ clo (hist l k) t) (hi l k) ⟨k, t⟩ (newE k v t) zeroE (by omega) (fun e he => by
             rcases List.mem_append.1 he with he | he
             · exact lo_spot e he
             · exact cmpS_lt.2 (.inr ⟨keys_clo (hist_keys l k) e he, (c3 e he).2⟩)) hi_spot
            have : putR l k v t = (lo l k ++ clo (hist l k) t) ++ newE k v t :: hi l k := by unfold putR upd; simp
            rw [hz, if_pos rfl, this]
            exact hp
   · have hz : putE l k v t = chkE (newE k v t) := by unfold putE; rw [if_neg (by simpa using h1), if_pos h2]
     rw [bne0_true h2, cond_true, hz, if_neg h2]
 · have hz : putE l k v t = chkR l := by unfold putE; rw [if_pos h1]
   rw [bne0_true h1, cond_true, hz, if_neg h1]
def cutE (l : List DElem) (k : DKey) (t : Int) : Int :=
 if chkR l ≠ 0 then chkR l else if chkK k ≠ 0 then chkK k else if t < 1 ∨ 2147483647 < t ∨ t < lastL l then 9 else if (nowR l k).isNone then 4 else 0
theorem cutE_zero {l : List DElem} {k : DKey} {t : Int} : cutE l k t = 0 ↔ Run l ∧ chkK k = 0 ∧ 1 ≤ t ∧ t ≤ 2147483647 ∧ lastL l ≤ t ∧ (nowR l k).isSome = true := by
 unfold cutE
 rw [← chkR_zero]
 split
 · simp_all
 · split
   · simp_all
   · split
     · constructor
       · intro h; cases h
       · omega
     · cases nowR l k
       · simp
       · simp_all
theorem run_Cut_eq (l : List DElem) (k : DKey) (t : Int) : run_Cut F l k t = some (if cutE l k t = 0 then cutR l k t else [], cutE l k t) := by
 unfold run_Cut
 rw [run_Check_eq, Option.bind_some, key_Check_eq, Option.bind_some]
 by_cases h1 : chkR l = 0
 · have hr := chkR_zero.1 h1
   have hl := hr.len
   rw [bne0_false h1, cond_false]
   by_cases h2 : chkK k = 0
   · rw [bne0_false h2, cond_false, run_last_eq l (by omega)]
     have hb : (bif decide (t < 1) then some true else bif decide ((2147483647 : Int) < t) then some true else (some (lastL l)).bind fun r3 => some (decide (t < r3)) : Option Bool) = some (decide (t < 1 ∨ 2147483647 < t ∨ t < lastL l)) := by
      by_cases c1 : t < 1
      · simp [c1]
      · by_cases c2 : 2147483647 < t
        · simp [c1, c2]
        · simp [c1, c2]
     rw [hb, Option.bind_some]
     by_cases h3 : t < 1 ∨ 2147483647 < t ∨ t < lastL l
     · have hz : cutE l k t = 9 := by unfold cutE; rw [if_neg (by simpa using h1), if_neg (by simpa using h2), if_pos h3]
       rw [decide_eq_true h3, cond_true, hz]; rfl
     · rw [decide_eq_false h3, cond_false]
       have hE : cutE l k t = if (nowR l k).isNone then 4 else 0 := by unfold cutE; rw [if_neg (by simpa using h1), if_neg (by simpa using h2), if_neg h3]
       cases hn : nowR l k with
       | none =>
        rw [hn] at hE
        rw [run_now_none hr hn, Option.bind_some, decide_eq_true (by omega), cond_true, hE]; rfl
       | some e =>
        rw [hn] at hE
        have hz : cutE l k t = 0 := hE
        obtain ⟨a, ha, hs, hnow⟩ := run_now_some (F := F) hr hn
        obtain ⟨a', ha', hclo⟩ := clo_now (t := t) hr.ord hn
        obtain ⟨hm, hk, hg⟩ := (nowR_some hr.ord).1 hn
        obtain rfl : a = a' := List.append_cancel_right (ha.symm.trans ha')
        have hget : l[(lo l k ++ a).length]? = some e := get_mid hs
        have hlen := congrArg List.length hs
        rw [List.length_append, List.length_cons] at hlen
        rw [hnow, Option.bind_some, decide_eq_false (by omega), cond_false, grow_ok (by simp; omega) (by simp; omega), Option.bind_some, List.nil_append, idx_nat', hget, Option.bind_some, Option.bind_some, hz, if_pos rfl]
        by_cases hmt : e.made = t
        · rw [show (e.made == t) = true by simpa using hmt, cond_true, lslice_to (by omega), Option.bind_some, w64 (by omega) (by omega), show (((lo l k ++ a).length : Int) + 1) = (((lo l k ++ a).length + 1 : Nat) : Int) by omega, lslice_from (by omega), Option.bind_some]
          rw [take_mid hs, drop_mid hs, grow_ok (by rw [List.length_append] at *; omega) (by omega), Option.bind_some]
          unfold cutR upd
          rw [hclo, if_pos hmt]
          simp
        · rw [show (e.made == t) = false by simpa using hmt, cond_false, Int.toNat_natCast]
          have hset : l.set (lo l k ++ a).length ⟨e.key, e.made, t, e.val⟩ = cutR l k t := by
           rw [set_mid hs]
           unfold cutR upd
           rw [hclo, if_neg hmt]
           simp
          rw [hset]
   · have hz : cutE l k t = chkK k := by unfold cutE; rw [if_neg (by simpa using h1), if_pos h2]
     rw [bne0_true h2, cond_true, hz, if_neg h2]
 · have hz : cutE l k t = chkR l := by unfold cutE; rw [if_pos h1]
   rw [bne0_true h1, cond_true, hz, if_neg h1]
end Go.Proofs.YtacjdfhllomccaaGreatDoor
/- Pure functions, written by walkgen.py out of the Go functions of group Eqs. Their conditions: none. -/
namespace Go.Proofs.YtacjdfhllomccaaGreatDoor
set_option linter.unusedVariables false
end Go.Proofs.YtacjdfhllomccaaGreatDoor
/- Plain Lean: slices.Equal, Index, Contains. Its conditions: none. -/
namespace Go.Proofs.YtacjdfhllomccaaGreatDoor
set_option linter.unusedVariables false
set_option linter.unusedSimpArgs false
variable {F : Nat} [Big F]
end Go.Proofs.YtacjdfhllomccaaGreatDoor
/- Plain Lean: what the laws of runs share. Its conditions: none. -/
namespace Go.Proofs.YtacjdfhllomccaaGreatDoor
set_option linter.unusedVariables false
set_option linter.unusedSimpArgs false
variable {F : Nat} [Big F]
theorem chkR_run {l : List DElem} (h : Run l) : chkR l = 0 := chkR_zero.2 h
end Go.Proofs.YtacjdfhllomccaaGreatDoor
/- Plain Lean: change.Do. Its conditions: none. -/
namespace Go.Proofs.YtacjdfhllomccaaGreatDoor
set_option linter.unusedVariables false
set_option linter.unusedSimpArgs false
theorem seq_dec (x y : ByteArray) : seq x y = decide (x = y) := by rw [Bool.eq_iff_iff, seq_iff, decide_eq_true_eq]
variable {F : Nat} [Big F]
def foldE {α τ ε : Type} (st : τ → α → τ ⊕ ε) (a : τ) : List α → τ ⊕ ε
 | [] => .inl a
 | e :: l => match st a e with
  | .inl a' => foldE st a' l
  | .inr r => .inr r
theorem loop_foldE {α τ ε ρ : Type} {f : τ × Int → Option ((τ × Int) ⊕ ρ)} (l : List α) (st : τ → α → τ ⊕ ε) (bad : ε → ρ) (fin : τ → ρ) (a0 : τ) (hn : l.length ≤ 9223372036854775807) {s : τ × Int} (h0 : s = (a0, 0))
 (hs : ∀ (k : Nat) (e : α) (a : τ), l[k]? = some e → f (a, (k : Int)) = some (match st a e with | .inl a' => .inl (a', (k : Int) + 1) | .inr r => .inr (bad r)))
 (he : ∀ a, f (a, (l.length : Int)) = some (.inr (fin a))) : iter f F s = some (match foldE st a0 l with | .inl a => fin a | .inr r => bad r) := by
 subst h0
 have key : ∀ (m k N : Nat) (a : τ), k + m = l.length → m < N → iter f N (a, (k : Int)) = some (match foldE st a (l.drop k) with | .inl a => fin a | .inr r => bad r) := by
  intro m
  induction m with
  | zero =>
   intro k N a hk hN
   obtain ⟨N, rfl⟩ : ∃ M, N = M + 1 := ⟨N - 1, by omega⟩
   rw [iter, show k = l.length by omega, he, List.drop_length]; rfl
  | succ m ih =>
   intro k N a hk hN
   obtain ⟨N, rfl⟩ : ∃ M, N = M + 1 := ⟨N - 1, by omega⟩
   have hkl : k < l.length := by omega
   rw [iter, hs k l[k] a (List.getElem?_eq_getElem hkl), List.drop_eq_getElem_cons hkl, foldE]
   cases hst : st a l[k] with
   | inl a' => exact ih (k + 1) N a' (by omega) (by omega)
   | inr r => rfl
 exact key l.length 0 F a0 (by omega) (lt_big hn)
def doStep (t : Int) (m : List DElem) (c : DChange) : List DElem ⊕ Int :=
 match c.has with
 | true => if putE m c.key c.is_ t = 0 then .inl (putR m c.key c.is_ t) else .inr (putE m c.key c.is_ t)
 | false => if cutE m c.key t = 0 then .inl (cutR m c.key t) else .inr (cutE m c.key t)
theorem do_fold : ∀ {cs : List DChange} {m : List DElem} {t : Int}, (∀ c ∈ cs, chkK c.key = 0 ∧ (c.was.size ≤ 40 ∧ c.is_.size ≤ 40) ∧ FormC c ∧ differs c = true) → cs.Pairwise KeyLt → DoPre m cs t →
 foldE (doStep t) m cs = .inr 8 ∨ ∃ n, foldE (doStep t) m cs = .inl n ∧ DoSpec m cs t n
 | [], m, t, _, _, h => .inr ⟨m, rfl, DoSpec.nil h⟩
 | c :: cs, m, t, hc, g, h => by
  obtain ⟨k1, k2, k3, k4⟩ := hc c (by simp)
  have g' := (List.pairwise_cons.1 g).2
  have hc' : ∀ d ∈ cs, chkK d.key = 0 ∧ (d.was.size ≤ 40 ∧ d.is_.size ≤ 40) ∧ FormC d ∧ differs d = true := fun d hd => hc d (by simp [hd])
  rw [foldE]
  by_cases hh : c.has = true
  · by_cases hlen : (putR m c.key c.is_ t).length ≤ 400
    · have hz : putE m c.key c.is_ t = 0 := putE_zero.2 ⟨h.run, chkE_new k1 h.lo h.hi k2.2, h.last, hlen⟩
      have hst : doStep t m c = .inl (putR m c.key c.is_ t) := by unfold doStep; rw [hh]; dsimp only; rw [if_pos hz]
      rw [hst]
      dsimp only
      rcases do_fold hc' g' (do_put g h k1 k2.2 hlen) with h1 | ⟨n, h1, h2⟩
      · exact .inl h1
      · refine .inr ⟨n, h1, h2.cons g ?_ fun k hk => hist_put_other h.run hk⟩
        rw [hist_put]; unfold doH; dsimp only; rw [if_pos hh]
    · have hz : putE m c.key c.is_ t = 8 := by
       unfold putE
       rw [if_neg (by simpa using chkR_run h.run), if_neg (by simpa using chkE_new k1 h.lo h.hi k2.2), if_neg (by have := h.last; omega), if_pos (by omega)]
      have hst : doStep t m c = .inr 8 := by unfold doStep; rw [hh]; dsimp only; rw [hz]; rfl
      rw [hst]
      exact .inl rfl
  · have hf : c.has = false := by simpa using hh
    obtain ⟨e, he⟩ := do_had k3 k4 hf (h.had c (by simp))
    have hz : cutE m c.key t = 0 := cutE_zero.2 ⟨h.run, k1, h.lo, h.hi, h.last, by rw [he]; rfl⟩
    have hst : doStep t m c = .inl (cutR m c.key t) := by unfold doStep; rw [hf]; dsimp only; rw [if_pos hz]
    rw [hst]
    dsimp only
    rcases do_fold hc' g' (do_cut g h) with h1 | ⟨n, h1, h2⟩
    · exact .inl h1
    · refine .inr ⟨n, h1, h2.cons g ?_ fun k hk => hist_cut_other h.run hk⟩
      rw [hist_cut h.run]; unfold doH; dsimp only; rw [if_neg hh]
end Go.Proofs.YtacjdfhllomccaaGreatDoor
/- Plain Lean: texts in blocks. Its conditions: none. -/
namespace Go.Proofs.YtacjdfhllomccaaGreatDoor
set_option linter.unusedVariables false
set_option linter.unusedSimpArgs false
variable {F : Nat} [Big F]
def mlook (m : List (Int × ByteArray)) (k : Int) : Option ByteArray := (mfind k m 0).map (·.2)
theorem mfind_shift (k : Int) : ∀ (m : List (Int × ByteArray)) (i : Nat), (mfind k m i).map (·.2) = mlook m k
 | [], _ => rfl
 | p :: m, i => by
  unfold mlook
  rw [mfind, mfind]
  split
  · rfl
  · rw [mfind_shift k m (i + 1), mfind_shift k m (0 + 1)]
theorem mlook_cons (p : Int × ByteArray) (m : List (Int × ByteArray)) (k : Int) : mlook (p :: m) k = if p.1 = k then some p.2 else mlook m k := by
 conv => lhs; unfold mlook
 rw [mfind]
 split
 · rfl
 · exact mfind_shift k m (0 + 1)
theorem mget_look (m : List (Int × ByteArray)) (k : Int) : mget m k = (mlook m k).getD e0 := by
 unfold mget mlook
 cases mfind k m 0 <;> rfl
theorem mhas_look (m : List (Int × ByteArray)) (k : Int) : mhas m k = (mlook m k).isSome := by
 unfold mhas mlook
 cases mfind k m 0 <;> rfl
theorem mfind_off (k : Int) : ∀ (m : List (Int × ByteArray)) (i : Nat), mfind k m (i + 1) = (mfind k m i).map fun p => (p.1 + 1, p.2)
 | [], _ => rfl
 | p :: m, i => by
  rw [mfind, mfind]
  split
  · rfl
  · exact mfind_off k m (i + 1)
theorem mput_cons (p : Int × ByteArray) (m : List (Int × ByteArray)) (k : Int) (v : ByteArray) : mput (p :: m) k v = if p.1 = k then (p.1, v) :: m else p :: mput m k v := by
 by_cases hp : p.1 = k
 · rw [if_pos hp]
   unfold mput
   rw [mfind, if_pos hp]; rfl
 · rw [if_neg hp]
   unfold mput
   rw [mfind, if_neg hp, mfind_off]
   cases mfind k m 0 <;> rfl
theorem mlook_put (k : Int) (v : ByteArray) (j : Int) : ∀ m : List (Int × ByteArray), mlook (mput m k v) j = if j = k then some v else mlook m j
 | [] => by
  show mlook [(k, v)] j = _
  rw [mlook_cons]
  by_cases h : j = k
  · rw [if_pos h, if_pos h.symm]
  · rw [if_neg h, if_neg (fun e => h e.symm)]
 | p :: m => by
  rw [mput_cons]
  by_cases hp : p.1 = k
  · rw [if_pos hp, mlook_cons, mlook_cons]
    by_cases h : j = k
    · rw [if_pos h, if_pos (hp.trans h.symm)]
    · rw [if_neg h, if_neg (show ¬ p.1 = j from fun e => h (e.symm.trans hp)), if_neg (show ¬ p.1 = j from fun e => h (e.symm.trans hp))]
  · rw [if_neg hp, mlook_cons, mlook_cons, mlook_put k v j m]
    by_cases h : j = k
    · rw [if_pos h]
      by_cases hj : p.1 = j
      · exact absurd (hj.trans h) hp
      · rw [if_neg hj, if_pos h]
    · rw [if_neg h, if_neg h]
def bkF (p o : Int) (i : Nat) : DKey := ⟨p, o, 1 + (i : Int)⟩
theorem bkF_inj {p o : Int} {i j : Nat} (h : bkF p o i = bkF p o j) : i = j := by
 have := congrArg DKey.off h
 simp [bkF] at this; omega
theorem bkF_lt {p o : Int} {i j : Nat} (h : i < j) : cmpK (bkF p o i) (bkF p o j) < 0 := by
 rw [cmpK_def]
 simp [bkF, ord]; omega
theorem bkF_ok {p o : Int} {i : Nat} (h : chkK (bkF p o 0) = 0) (hi : i ≤ 1000) : chkK (bkF p o i) = 0 := by
 unfold chkK bkF at *
 dsimp only at *
 split at h
 · cases h
 · rw [if_neg]; omega
def lookF (l : List DElem) (p o : Int) : Int := if chkR l ≠ 0 then chkR l else chkK (bkF p o 0)
theorem lookF_zero {l : List DElem} {p o : Int} : lookF l p o = 0 ↔ Run l ∧ chkK (bkF p o 0) = 0 := by
 unfold lookF; rw [← chkR_zero]; split <;> simp_all
theorem file_look_eq (l : List DElem) (p o : Int) : file_look F l p o = some (lookF l p o) := by
 unfold file_look lookF
 rw [run_Check_eq, Option.bind_some]
 by_cases h : chkR l = 0
 · rw [bne0_false h, cond_false, if_neg (by simpa using h)]
   show (some (DKey.mk p o (IntKind.i64.wrap (1 + 0)))).bind _ = _
   rw [Option.bind_some, show IntKind.i64.wrap (1 + 0) = 1 by decide]
   show (key_Check (bkF p o 0)).bind _ = _
   rw [key_Check_eq, Option.bind_some]
 · rw [bne0_true h, cond_true, if_pos h]
def tcond (p o t : Int) (e : DElem) : Bool := e.key.pfs == p && (e.key.obj == o && (decide (0 ≤ e.key.off - 1) && (decide (e.key.off - 1 < 20) && live e t)))
def stT (p o t : Int) (m : List (Int × ByteArray)) (e : DElem) : List (Int × ByteArray) := if tcond p o t e then mput m (e.key.off - 1) e.val else m
def mapT (l : List DElem) (p o t : Int) : List (Int × ByteArray) := l.foldl (stT p o t) []
theorem tcond_iff {p o t : Int} {e : DElem} {i : Nat} (hi : i < 20) : (tcond p o t e = true ∧ e.key.off - 1 = (i : Int)) ↔ e.key = bkF p o i ∧ live e t = true := by
 unfold tcond bkF
 obtain ⟨⟨a, b, c⟩, d, g, v⟩ := e
 simp only [Bool.and_eq_true, beq_iff_eq, decide_eq_true_eq, DKey.mk.injEq]
 constructor
 · rintro ⟨⟨h1, h2, h3, h4, h5⟩, h6⟩; exact ⟨⟨h1, h2, by omega⟩, h5⟩
 · rintro ⟨⟨h1, h2, h3⟩, h5⟩; exact ⟨⟨h1, h2, by omega, by omega, h5⟩, by omega⟩
theorem mapT_from (p o t : Int) {i : Nat} (hi : i < 20) : ∀ (l : List DElem) (m : List (Int × ByteArray)), mlook (l.foldl (stT p o t) m) i = lastV t (hist l (bkF p o i)) (mlook m i)
 | [], _ => rfl
 | e :: l, m => by
  rw [List.foldl_cons, mapT_from p o t hi l]
  have hh : hist (e :: l) (bkF p o i) = if e.key = bkF p o i then e :: hist l (bkF p o i) else hist l (bkF p o i) := by
   unfold hist
   rw [List.filter_cons]
   by_cases hk : e.key = bkF p o i
   · rw [if_pos (by simpa using hk), if_pos hk]
   · rw [if_neg (by simpa using hk), if_neg hk]
  rw [hh]
  have key := tcond_iff (p := p) (o := o) (t := t) (e := e) hi
  unfold stT
  by_cases hk : e.key = bkF p o i
  · rw [if_pos hk]
    show _ = lastV t (hist l (bkF p o i)) (if live e t then some e.val else mlook m i)
    by_cases hl : live e t = true
    · have := key.2 ⟨hk, hl⟩
      rw [if_pos this.1, mlook_put, if_pos this.2.symm, if_pos hl]
    · rw [if_neg hl]
      by_cases hc : tcond p o t e = true
      · rw [if_pos hc, mlook_put, if_neg (fun h => hl (key.1 ⟨hc, h.symm⟩).2)]
      · rw [if_neg hc]
  · rw [if_neg hk]
    by_cases hc : tcond p o t e = true
    · rw [if_pos hc, mlook_put, if_neg (fun h => hk (key.1 ⟨hc, h.symm⟩).1)]
    · rw [if_neg hc]
theorem mapT_get {l : List DElem} (h : Run l) (p o t : Int) {i : Nat} (hi : i < 20) : mlook (mapT l p o t) i = vAt l (bkF p o i) t := by
 unfold mapT
 rw [mapT_from p o t hi, ← lastV_vAt h.ord]; rfl
theorem vAt_size {l : List DElem} (h : Run l) (k : DKey) (t : Int) : ((vAt l k t).getD e0).size ≤ 40 := by
 cases hv : vAt l k t with
 | none => exact (by decide : (0 : Nat) ≤ 40)
 | some v =>
  obtain ⟨e, he, _, rfl⟩ := vAt_some h.ord hv
  exact (chkE_ok (h.ok e he)).2.2.2.2
theorem tstep {l : List DElem} (hr : Run l) {p o t : Int} {k : Nat} {e : DElem} (hk : l[k]? = some e) (m : List (Int × ByteArray)) :
 ((((idx l (k : Int)).bind fun e1 =>
  (
   bif (e1.key.pfs == p) then
    bif (e1.key.obj == o) then
     bif decide ((0 : Int) ≤ (IntKind.i64.wrap (e1.key.off - 1))) then
      bif decide ((IntKind.i64.wrap (e1.key.off - 1)) < 20) then
       (elem_Live e1 t).bind fun r2 =>
       some r2
      else
       some false
     else
      some false
    else
     some false
    else
     some false : Option (Bool)).bind fun z4 =>
  bif z4 then
   some (mput m (IntKind.i64.wrap (e1.key.off - 1)) e1.val)
  else
   some m : Option ((List (Int × ByteArray))))) = some (stT p o t m e)) := by
 rw [idx_nat', hk, Option.bind_some]
 have hc := (chkE_ok (hr.ok e (List.mem_of_getElem? hk))).1
 have hoff : 0 ≤ e.key.off ∧ e.key.off ≤ 1073741824 := by
  unfold chkK at hc
  split at hc
  · cases hc
  · omega
 rw [w64 (n := e.key.off - 1) (by omega) (by omega), elem_Live_eq]
 unfold stT tcond
 cases e.key.pfs == p
 · rfl
 · cases e.key.obj == o
   · rfl
   · cases decide (0 ≤ e.key.off - 1)
     · rfl
     · cases decide (e.key.off - 1 < 20)
       · rfl
       · cases live e t <;> rfl
def contentTo (l : List DElem) (p o t : Int) (n : Nat) : ByteArray := (List.range n).foldl (fun a i => a ++ (vAt l (bkF p o i) t).getD e0) e0
def content (l : List DElem) (p o t : Int) : ByteArray := contentTo l p o t 20
theorem contentTo_succ (l : List DElem) (p o t : Int) (n : Nat) : contentTo l p o t (n + 1) = contentTo l p o t n ++ (vAt l (bkF p o n) t).getD e0 := by
 unfold contentTo; rw [List.range_succ, List.foldl_append]; rfl
theorem contentTo_size {l : List DElem} (h : Run l) (p o t : Int) (n : Nat) : (contentTo l p o t n).size ≤ 40 * n := by
 induction n with
 | zero => exact (by decide : (0 : Nat) ≤ 0)
 | succ n ih =>
  rw [contentTo_succ, ByteArray.size_append]
  have := vAt_size h (bkF p o n) t
  omega
theorem scat_ok {x y : ByteArray} (h : x.size + y.size ≤ 9223372036854775807) : scat x y = some (x ++ y) := by unfold scat; rw [if_pos h]
theorem file_Get_eq (l : List DElem) (p o t : Int) : file_Get F l p o t = some (if lookF l p o = 0 then content l p o t else e0, lookF l p o) := by
 unfold file_Get
 rw [file_look_eq, Option.bind_some]
 by_cases h : lookF l p o = 0
 · obtain ⟨hr, hk⟩ := lookF_zero.1 h
   have hlen := hr.len
   rw [bne0_false h, cond_false, if_pos h]
   rw [loop_fold l (stT p o t) [] (r := mapT l p o t) (by omega) rfl (fun k e hk => ?_) (by simp [mapT]), Option.bind_some, Option.bind_some]
   · rw [loop_run (fun k => (contentTo l p o t k, (k : Int))) 20 (r := content l p o t) (show (ByteArray.mk #[], (0 : Int)) = _ from rfl) (by decide) (fun k hk => ?_) rfl, Option.bind_some, h]
     dsimp only
     rw [decide_eq_true (by omega), cond_true, mget_look, mapT_get hr p o t hk, scat_ok, Option.bind_some, w64 (by omega) (by omega), contentTo_succ]; rfl
     have h1 := contentTo_size hr p o t k
     have h2 := vAt_size hr (bkF p o k) t
     omega
   · have hkl := (List.getElem?_eq_some_iff.1 hk).1
     dsimp only
     rw [decide_eq_true (by omega), cond_true, tstep hr hk, Option.bind_some, w64 (by omega) (by omega)]
 · rw [bne0_true h, cond_true, if_neg h]; rfl
def want (s : ByteArray) (i : Nat) : Option ByteArray := if 16 * i < s.size then some (s.extract (16 * i) (min (16 * i + 16) s.size)) else none
def setC (l : List DElem) (p o : Int) (s : ByteArray) : List DChange := (List.range 20).filterMap fun i => dif (bkF p o i) (nowV l (bkF p o i)) (want s i)
theorem want_size (s : ByteArray) (i : Nat) : ((want s i).getD e0).size ≤ 16 := by
 unfold want
 split
 · rw [Option.getD_some, ByteArray.size_extract]; omega
 · exact (by decide : (0 : Nat) ≤ 16)
def optStep {α β τ ε : Type} (st : τ → β → τ ⊕ ε) (g : α → Option β) (a : τ) (x : α) : τ ⊕ ε := match g x with | none => .inl a | some y => st a y
theorem foldE_filterMap {α β τ ε : Type} (st : τ → β → τ ⊕ ε) (g : α → Option β) : ∀ (l : List α) (a : τ), foldE st a (l.filterMap g) = foldE (optStep st g) a l
 | [], _ => rfl
 | x :: l, a => by
  rw [foldE]
  unfold optStep
  cases hg : g x with
  | none => rw [List.filterMap_cons_none hg]; exact foldE_filterMap st g l a
  | some y =>
   rw [List.filterMap_cons_some hg, foldE]
   dsimp only
   cases st a y with
   | inl a' => exact foldE_filterMap st g l a'
   | inr r => rfl
theorem setC_key {l : List DElem} {p o : Int} {s : ByteArray} {c : DChange} (h : c ∈ setC l p o s) : ∃ i, i < 20 ∧ c.key = bkF p o i ∧ nowV l (bkF p o i) ≠ want s i ∧ c = chgOf (bkF p o i) (nowV l (bkF p o i)) (want s i) := by
 unfold setC at h
 rw [List.mem_filterMap] at h
 obtain ⟨i, hi, hd⟩ := h
 rw [List.mem_range] at hi
 unfold dif at hd
 split at hd
 · cases hd
 · rename_i hne
   obtain rfl := Option.some.inj hd
   exact ⟨i, hi, rfl, hne, rfl⟩
theorem setC_ord (l : List DElem) (p o : Int) (s : ByteArray) : (setC l p o s).Pairwise KeyLt := by
 unfold setC
 rw [List.pairwise_filterMap]
 refine List.pairwise_lt_range.imp fun {i j} hij x hx y hy => ?_
 unfold dif at hx hy
 split at hx
 · cases hx
 · split at hy
   · cases hy
   · obtain rfl := Option.some.inj hx
     obtain rfl := Option.some.inj hy
     exact bkF_lt hij
theorem setC_at {l : List DElem} {p o : Int} {s : ByteArray} {i : Nat} (hi : i < 20) : chAt (setC l p o s) (bkF p o i) = dif (bkF p o i) (nowV l (bkF p o i)) (want s i) := by
 cases hd : dif (bkF p o i) (nowV l (bkF p o i)) (want s i) with
 | none =>
  rw [chAt_none]
  intro c hc e
  obtain ⟨j, hj, h1, h2, _⟩ := setC_key hc
  have := bkF_inj (h1.symm.trans e)
  subst this
  unfold dif at hd
  rw [if_neg h2] at hd
  cases hd
 | some c =>
  rw [chAt_some (setC_ord l p o s)]
  refine ⟨?_, ?_⟩
  · unfold setC; rw [List.mem_filterMap]; exact ⟨i, List.mem_range.2 hi, hd⟩
  · unfold dif at hd
    split at hd
    · cases hd
    · obtain rfl := Option.some.inj hd; rfl
theorem setC_other {l : List DElem} {p o : Int} {s : ByteArray} {k : DKey} (h : ∀ i, i < 20 → k ≠ bkF p o i) : chAt (setC l p o s) k = none := by
 rw [chAt_none]
 intro c hc e
 obtain ⟨j, hj, h1, _⟩ := setC_key hc
 exact h j hj (e.symm.trans h1)
theorem setC_good {l : List DElem} (hr : Run l) {p o : Int} (hk : chkK (bkF p o 0) = 0) (s : ByteArray) : GoodC (setC l p o s) := by
 refine ⟨?_, fun c hc => ?_, fun c hc => ?_, fun c hc => ?_, fun c hc => ?_, setC_ord l p o s⟩
 · unfold setC
   have := List.length_filterMap_le (fun i => dif (bkF p o i) (nowV l (bkF p o i)) (want s i)) (List.range 20)
   rw [List.length_range] at this
   omega
 · obtain ⟨i, hi, h1, _⟩ := setC_key hc; rw [h1]; exact bkF_ok hk (by omega)
 · obtain ⟨i, hi, _, _, h1⟩ := setC_key hc
   rw [h1]
   have a1 := vAt_size hr (bkF p o i) 2147483647
   rw [nowV_at hr hr.last_le] at a1
   have a2 := want_size s i
   exact ⟨a1, by show ((want s i).getD e0).size ≤ 40; omega⟩
 · obtain ⟨i, _, _, _, h1⟩ := setC_key hc; rw [h1]; exact form_of _ _ _
 · obtain ⟨i, _, _, h2, h1⟩ := setC_key hc; rw [h1, differs_of]; simpa using h2
theorem setC_had {l : List DElem} {p o : Int} {s : ByteArray} : ∀ c ∈ setC l p o s, nowV l c.key = fr c := fun c hc => by
 obtain ⟨i, _, h0, _, h1⟩ := setC_key hc
 rw [h1, fr_of, key_of]
def setE (l : List DElem) (p o : Int) (s : ByteArray) (t : Int) : Int := if lookF l p o ≠ 0 then lookF l p o else if 320 < s.size then 2 else if t < 1 ∨ 2147483647 < t ∨ t < lastL l then 9 else 0
theorem setE_zero {l : List DElem} {p o : Int} {s : ByteArray} {t : Int} : setE l p o s t = 0 ↔ Run l ∧ chkK (bkF p o 0) = 0 ∧ s.size ≤ 320 ∧ 1 ≤ t ∧ t ≤ 2147483647 ∧ lastL l ≤ t := by
 rw [← and_assoc, ← lookF_zero]
 unfold setE
 split
 · simp_all
 · split
   · constructor
     · intro h; cases h
     · omega
   · split
     · constructor
       · intro h; cases h
       · omega
     · constructor
       · intro _; omega
       · intro _; rfl
theorem file_Set_eq (l : List DElem) (p o : Int) (s : ByteArray) (t : Int) : file_Set F l p o s t = some (if setE l p o s t ≠ 0 then ([], setE l p o s t) else match foldE (doStep t) l (setC l p o s) with | .inl m => (m, 0) | .inr r => ([], r)) := by
 unfold file_Set
 rw [file_look_eq, Option.bind_some]
 by_cases h : lookF l p o = 0
 · obtain ⟨hr, hk⟩ := lookF_zero.1 h
   have hlen := hr.len
   rw [bne0_false h, cond_false]
   by_cases hs : 320 < s.size
   · have hE : setE l p o s t = 2 := by unfold setE; rw [if_neg (by simpa using h), if_pos hs]
     rw [decide_eq_true (by omega), cond_true, hE]; rfl
   · rw [decide_eq_false (by omega), cond_false, run_Last_eq, chkR_run hr, Option.bind_some, if_pos rfl]
     by_cases ht : t < 1 ∨ 2147483647 < t ∨ t < lastL l
     · have hE : setE l p o s t = 9 := by unfold setE; rw [if_neg (by simpa using h), if_neg hs, if_pos ht]
       rw [show (decide (t < 1) || (decide ((2147483647 : Int) < t) || decide (t < lastL l))) = true by simpa using ht, cond_true, hE]; rfl
     · have hE : setE l p o s t = 0 := by unfold setE; rw [if_neg (by simpa using h), if_neg hs, if_neg ht]
       rw [show (decide (t < 1) || (decide ((2147483647 : Int) < t) || decide (t < lastL l))) = false by simpa using ht, cond_false, hE, if_neg (by simp)]
       rw [loop_fold l (stT p o 2147483647) [] (r := mapT l p o 2147483647) (by omega) rfl (fun k e hk => ?_) (by simp [mapT]), Option.bind_some, Option.bind_some]
       · rw [grow_ok (by simp; omega) (by simp; omega), Option.bind_some, List.nil_append]
         unfold setC
         rw [foldE_filterMap]
         rw [loop_foldE (List.range 20) (optStep (doStep t) fun i => dif (bkF p o i) (nowV l (bkF p o i)) (want s i)) (fun r => Sum.inr ([], r)) (fun m => Sum.inl m) l (by decide) rfl (fun k i m hi => ?_) (fun m => rfl), Option.bind_some]
         · generalize foldE (optStep (doStep t) fun i => dif (bkF p o i) (nowV l (bkF p o i)) (want s i)) l (List.range 20) = q
           cases q <;> rfl
         · have hk20 : k < 20 := by have := (List.getElem?_eq_some_iff.1 hi).1; simpa using this
           obtain rfl : k = i := by
            rw [List.getElem?_range hk20] at hi
            exact Option.some.inj hi
           have hm := mapT_get hr p o 2147483647 hk20
           rw [nowV_at hr hr.last_le] at hm
           unfold optStep
           dsimp only
           rw [decide_eq_true (by omega), cond_true, mhas_look, mget_look, hm]
           have w1 : IntKind.i64.wrap ((k : Int) * 16) = ((16 * k : Nat) : Int) := by rw [w64 (by omega) (by omega)]; omega
           have w2 : IntKind.i64.wrap (((16 * k : Nat) : Int) + 16) = ((16 * k + 16 : Nat) : Int) := by rw [w64 (by omega) (by omega)]; omega
           have w3 : IntKind.i64.wrap ((k : Int) + 1) = (k : Int) + 1 := w64 (by omega) (by omega)
           have hblk : file_block p o (k : Int) = some (bkF p o k) := by
            show some (DKey.mk p o (IntKind.i64.wrap (1 + (k : Int)))) = _
            rw [w64 (by omega) (by omega)]; rfl
           rw [w1, w2, w3, hblk]
           simp only [Option.bind_some, run_Put_eq, run_Cut_eq]
           by_cases hat : 16 * k < s.size
           · have hw : want s k = some (s.extract (16 * k) (min (16 * k + 16) s.size)) := by unfold want; rw [if_pos hat]
             have hsl : sslice s ((16 * k : Nat) : Int) (if ((16 * k + 16 : Nat) : Int) < (s.size : Int) then ((16 * k + 16 : Nat) : Int) else (s.size : Int)) = some (s.extract (16 * k) (min (16 * k + 16) s.size)) := by
              unfold sslice
              rw [if_pos ⟨by omega, by split <;> omega, by split <;> omega⟩]
              congr 2
              split <;> omega
             rw [decide_eq_true (show ((16 * k : Nat) : Int) < (s.size : Int) by omega), cond_true, hsl, Option.bind_some, hw]
             generalize s.extract (16 * k) (min (16 * k + 16) s.size) = v
             have hst : ∀ x, doStep t m (chgOf (bkF p o k) x (some v)) = if putE m (bkF p o k) v t = 0 then .inl (putR m (bkF p o k) v t) else .inr (putE m (bkF p o k) v t) := fun x => rfl
             cases hn : nowV l (bkF p o k) with
             | none =>
              have hd : dif (bkF p o k) none (some v) = some (chgOf (bkF p o k) none (some v)) := rfl
              rw [hd]
              dsimp only
              rw [hst]
              simp only [Option.isSome_none, Bool.false_and, cond_false, Option.bind_some]
              by_cases hz : putE m (bkF p o k) v t = 0
              · simp only [bne0_false hz, if_pos hz]; rfl
              · simp only [bne0_true hz, if_neg hz]; rfl
             | some u =>
              simp only [Option.isSome_some, cond_true, Option.getD_some, seq_dec]
              by_cases hu : u = v
              · have hd : dif (bkF p o k) (some u) (some v) = none := by unfold dif; rw [if_pos (by rw [hu])]
                rw [hd, decide_eq_true hu]; rfl
              · have hd : dif (bkF p o k) (some u) (some v) = some (chgOf (bkF p o k) (some u) (some v)) := by unfold dif; rw [if_neg (fun e => hu (Option.some.inj e))]
                rw [hd, decide_eq_false hu]
                dsimp only
                rw [hst, Bool.and_false, cond_false, Option.bind_some]
                by_cases hz : putE m (bkF p o k) v t = 0
                · simp only [bne0_false hz, if_pos hz]; rfl
                · simp only [bne0_true hz, if_neg hz]; rfl
           · have hw : want s k = none := by unfold want; rw [if_neg hat]
             rw [decide_eq_false (show ¬ ((16 * k : Nat) : Int) < (s.size : Int) by omega), cond_false, hw]
             cases hn : nowV l (bkF p o k) with
             | none => rfl
             | some u =>
              have hd : dif (bkF p o k) (some u) none = some (chgOf (bkF p o k) (some u) none) := rfl
              have hst : doStep t m (chgOf (bkF p o k) (some u) none) = if cutE m (bkF p o k) t = 0 then .inl (cutR m (bkF p o k) t) else .inr (cutE m (bkF p o k) t) := rfl
              rw [hd]
              dsimp only
              rw [hst]
              simp only [Option.isSome_some, cond_true, Option.bind_some]
              by_cases hz : cutE m (bkF p o k) t = 0
              · simp only [bne0_false hz, if_pos hz]; rfl
              · simp only [bne0_true hz, if_neg hz]; rfl
       · have hkl := (List.getElem?_eq_some_iff.1 hk).1
         dsimp only
         rw [decide_eq_true (by omega), cond_true, tstep hr hk, Option.bind_some, w64 (by omega) (by omega)]
 · have hE : setE l p o s t = lookF l p o := by unfold setE; rw [if_pos h]
   rw [bne0_true h, cond_true, hE, if_pos h]
theorem file_Set_cases (l : List DElem) (p o : Int) (s : ByteArray) (t : Int) :
 (setE l p o s t ≠ 0 ∧ file_Set F l p o s t = some ([], setE l p o s t)) ∨
 (setE l p o s t = 0 ∧ (file_Set F l p o s t = some ([], 8) ∨ ∃ m, DoSpec l (setC l p o s) t m ∧ file_Set F l p o s t = some (m, 0))) := by
 rw [file_Set_eq]
 by_cases h : setE l p o s t = 0
 · right
   refine ⟨h, ?_⟩
   obtain ⟨hr, hk, hs, t0, t1, tl⟩ := setE_zero.1 h
   have gc := setC_good hr hk s
   rw [if_neg (by simpa using h)]
   rcases do_fold (fun c hc => ⟨gc.key c hc, gc.val c hc, gc.form c hc, gc.dif c hc⟩) gc.ord (show DoPre l (setC l p o s) t from ⟨hr, tl, t0, t1, setC_had⟩) with h4 | ⟨m, h4, h5⟩
   · left; rw [h4]
   · right; refine ⟨m, h5, ?_⟩; rw [h4]
 · left
   refine ⟨h, ?_⟩
   rw [if_pos h]
end Go.Proofs.YtacjdfhllomccaaGreatDoor
/- Plain Lean: what a text in blocks answers. Its conditions: none. -/
namespace Go.Proofs.YtacjdfhllomccaaGreatDoor
set_option linter.unusedVariables false
set_option linter.unusedSimpArgs false
variable {F : Nat} [Big F]
section
variable {l m : List DElem} {p o : Int} {s : ByteArray} {t : Int}
theorem set_want (h : setE l p o s t = 0) (hm : DoSpec l (setC l p o s) t m) {u : Int} (hu : t ≤ u) {i : Nat} (hi : i < 20) : vAt m (bkF p o i) u = want s i := by
 obtain ⟨hr, hk, hs, t0, t1, tl⟩ := setE_zero.1 h
 rw [hm.late hr (setC_ord l p o s) tl t0 t1 hu, setC_at hi]
 unfold dif
 split
 · rename_i he
   split at he
   · assumption
   · cases he
 · rename_i c he
   split at he
   · cases he
   · obtain rfl := Option.some.inj he
     rw [to_of]
def gather (s : ByteArray) (n : Nat) : ByteArray := (List.range n).foldl (fun a i => a ++ (want s i).getD e0) e0
theorem append_e0 (s : ByteArray) : s ++ e0 = s := by
 apply ByteArray.ext; show (s ++ e0).data = _
 rw [ByteArray.data_append]; show s.data ++ #[] = _; simp
theorem gather_eq (s : ByteArray) : ∀ n, gather s n = s.extract 0 (min (16 * n) s.size)
 | 0 => by
  rw [show min (16 * 0) s.size = 0 by omega]
  show e0 = _
  apply ByteArray.ext
  rw [ByteArray.data_extract]
  simp [e0]
 | n + 1 => by
  have : gather s (n + 1) = gather s n ++ (want s n).getD e0 := by unfold gather; rw [List.range_succ, List.foldl_append]; rfl
  rw [this, gather_eq s n]
  unfold want
  split
  · rw [Option.getD_some, show min (16 * n) s.size = 16 * n by omega, ByteArray.extract_append_extract]
    congr 1 <;> omega
  · rw [Option.getD_none, append_e0, show min (16 * n) s.size = min (16 * (n + 1)) s.size by omega]
theorem extract_all (s : ByteArray) : s.extract 0 s.size = s := by
 apply ByteArray.ext
 rw [ByteArray.data_extract]
 show s.data.extract 0 s.data.size = _
 simp
theorem content_want {u : Int} (hs : s.size ≤ 320) (h : ∀ i, i < 20 → vAt m (bkF p o i) u = want s i) : content m p o u = s := by
 have h1 : content m p o u = gather s 20 := by
  unfold content contentTo gather
  have : ∀ (L : List Nat) (a : ByteArray), (∀ i ∈ L, i < 20) → L.foldl (fun a i => a ++ (vAt m (bkF p o i) u).getD e0) a = L.foldl (fun a i => a ++ (want s i).getD e0) a := by
   intro L
   induction L with
   | nil => intro a _; rfl
   | cons x L ih =>
    intro a hL
    rw [List.foldl_cons, List.foldl_cons, h x (hL x List.mem_cons_self)]
    exact ih _ fun i hi => hL i (List.mem_cons_of_mem _ hi)
  exact this _ _ fun i hi => List.mem_range.1 hi
 rw [h1, gather_eq, show min (16 * 20) s.size = s.size by omega, extract_all]
end
theorem file_Set_is {l : List DElem} {p o : Int} {s : ByteArray} {t : Int} (h : setE l p o s t = 0) {m : List DElem} (hm : foldE (doStep t) l (setC l p o s) = .inl m) : DoSpec l (setC l p o s) t m ∧ file_Set F l p o s t = some (m, 0) := by
 rw [file_Set_eq, if_neg (by simpa using h), hm]
 refine ⟨?_, rfl⟩
 obtain ⟨hr, hk, hs, t0, t1, tl⟩ := setE_zero.1 h
 have gc := setC_good hr hk s
 rcases do_fold (fun c hc => ⟨gc.key c hc, gc.val c hc, gc.form c hc, gc.dif c hc⟩) gc.ord (show DoPre l (setC l p o s) t from ⟨hr, tl, t0, t1, setC_had⟩) with h4 | ⟨m', h4, h5⟩
 · rw [hm] at h4; cases h4
 · rw [hm] at h4; cases h4; exact h5
theorem look_ok {l : List DElem} (hr : Run l) {p o : Int} (hp : 0 ≤ p) (hp' : p ≤ 3) (ho : 0 ≤ o) (ho' : o ≤ 1048576) : lookF l p o = 0 := lookF_zero.2 ⟨hr, by unfold chkK bkF; rw [if_neg]; dsimp only; omega⟩
def patched (C S : List UInt8) (a : Nat) : List UInt8 := C.take a ++ S ++ C.drop (a + S.length)
theorem content_run {l : List DElem} {p o t : Int} (h : lookF l p o = 0) : (content l p o t).size ≤ 800 := by
 have := contentTo_size (lookF_zero.1 h).1 p o t 20
 unfold content; omega
theorem file_Patch_eq (l : List DElem) (p o a : Int) (s : ByteArray) (t : Int) (hs : s.size ≤ reachBytes) : ∃ C S, content l p o 2147483647 = ofL C ∧ s = ofL S ∧
 file_Patch F l p o a s t = if lookF l p o ≠ 0 then some ([], lookF l p o) else if a < 0 ∨ (C.length : Int) < a then some ([], 1) else file_Set F l p o (ofL (patched C S a.toNat)) t := by
 obtain ⟨C, hC⟩ := exists_ofL (content l p o 2147483647)
 obtain ⟨S, rfl⟩ := exists_ofL s
 refine ⟨C, S, hC, rfl, ?_⟩
 unfold file_Patch
 rw [file_Get_eq, Option.bind_some]
 by_cases h : lookF l p o = 0
 · have hcs := content_run (t := 2147483647) h
   rw [hC, ofL_size] at hcs
   rw [ofL_size] at hs
   unfold reachBytes at hs
   rw [h, if_pos rfl, hC]
   simp only [ne_eq, not_true_eq_false, if_false]
   show (bif (decide (a < 0) || decide ((C.length : Int) < a)) then some ([], 1) else (sslice (ofL C) 0 a).bind fun s1 => (scat s1 (ofL S)).bind fun s2 => (sslice (ofL C) (if IntKind.i64.wrap (a + (S.length : Int)) < (C.length : Int) then IntKind.i64.wrap (a + (S.length : Int)) else (C.length : Int)) (C.length : Int)).bind fun s3 => (scat s2 s3).bind fun s4 => (file_Set F l p o s4 t).bind fun r2 => some (r2.1, r2.2)) = _
   by_cases ha : a < 0 ∨ (C.length : Int) < a
   · rw [if_pos ha, show (decide (a < 0) || decide ((C.length : Int) < a)) = true by simpa using ha]; rfl
   · rw [if_neg ha, show (decide (a < 0) || decide ((C.length : Int) < a)) = false by simpa using ha, cond_false]
     rw [sslice_ofL (by omega) (by omega) (by omega), Option.bind_some, scat_ofL (by simp; omega), Option.bind_some, w64 (by omega) (by omega)]
     rw [sslice_ofL (by split <;> omega) (by split <;> omega) (by omega), Option.bind_some, scat_ofL (by simp; omega), Option.bind_some]
     have : (List.drop (0 : Int).toNat (List.take a.toNat C) ++ S ++ List.drop (if a + (S.length : Int) < (C.length : Int) then a + (S.length : Int) else (C.length : Int)).toNat (List.take ((C.length : Nat) : Int).toNat C)) = patched C S a.toNat := by
      unfold patched
      rw [show (0 : Int).toNat = 0 from rfl, List.drop_zero, Int.toNat_natCast, List.take_length]
      congr 1
      split
      · congr 1; omega
      · rw [List.drop_eq_nil_of_le (by omega), List.drop_eq_nil_of_le (by omega)]
     rw [this]
     cases file_Set F l p o (ofL (patched C S a.toNat)) t <;> rfl
 · rw [bne0_true h, cond_true, if_pos h]
theorem setC_nil {l : List DElem} {p o : Int} {s : ByteArray} (h : ∀ i, i < 20 → nowV l (bkF p o i) = want s i) : setC l p o s = [] := by
 unfold setC
 rw [List.filterMap_eq_nil_iff]
 intro i hi
 unfold dif
 rw [if_pos (h i (List.mem_range.1 hi))]
end Go.Proofs.YtacjdfhllomccaaGreatDoor
/- A law over listed library variables: from its call to the row's statement. Its conditions: none. -/
namespace Go.Proofs.YtacjdfhllomccaaGreatDoor
open Go.ChangeShapes Go.WideShapes Go.ChangeAt Go.RowKit
set_option linter.unusedVariables false
theorem cell_of_var {W : World} {n : String} {g : Nat} {v : Value} (hg : Tryz.prog.globalNamed n = some g) (h : W.var? Tryz.prog n = some #[v]) : W.cell? ⟨g, 0, none⟩ = some v := by
 have h0 := World.var?_cell hg h 0
 simpa using h0
end Go.Proofs.YtacjdfhllomccaaGreatDoor
/- From 'every call returns true and changes nothing that was there' to a law's statement, where what it reads is not great. Its conditions: none. -/
namespace Go.Proofs.YtacjdfhllomccaaGreatDoor
open Go.ChangeShapes Go.WideShapes Go.ChangeAt Go.RowKit
section
variable {H : Type}
theorem bulk_one (d : DataW H) : 1 ≤ Rows.uptoBulk d := by
 cases d with
 | lit l => cases l <;> simp [Rows.uptoBulk]
 | nil => simp [Rows.uptoBulk]
 | ptr d => simp [Rows.uptoBulk]
 | slice elems spare => simp [Rows.uptoBulk]
 | agg parts => simp [Rows.uptoBulk]
 | iface t d => simp [Rows.uptoBulk]
 | map entries => simp [Rows.uptoBulk]
 | held h => simp [Rows.uptoBulk]
theorem bulk_part {d : DataW H} {l : List (DataW H)} (h : d ∈ l) : Rows.uptoBulk d ≤ Rows.uptoBulkAll l := by
 induction l with
 | nil => cases h
 | cons x r ih =>
  simp only [Rows.uptoBulkAll]
  cases List.mem_cons.1 h with
  | inl e => subst e; omega
  | inr e => have := ih e; omega
theorem bulk_length (l : List (DataW H)) : l.length ≤ Rows.uptoBulkAll l := by
 induction l with
 | nil => simp [Rows.uptoBulkAll]
 | cons x r ih => have := bulk_one x; simp only [Rows.uptoBulkAll, List.length_cons]; omega
variable {enc : TypeId × Value → H} {P : Program} {w : World} {base : Nat} {sp : Nat → Bool} {held : Bool} {fuel : Nat}
theorem bulk_slice {t e : TypeId} {cs : List Value} {x : DataW H × List MemPlace} {A : Option Addr} {n c : Nat} {ds : List (DataW H)} (ht : P.underlying t = some (.slice e)) (h : DataW.trod enc P w base sp held fuel t cs = some x) (hcs : cs = [.slice A n c])
 (hk : Rows.uptoSmall H ds = true) (hm : x.1 ∈ ds) : n ≤ 1048576 := by
 have h1 : Rows.uptoBulkAll ds ≤ 1048576 := of_decide_eq_true hk
 have h2 := bulk_part hm
 rcases DataW.trod_slice ht h with ⟨h3, _⟩ | ⟨a, len, cap, elems, rest, m, _, h3, h4, _, _, _, h5, _⟩
 · rw [hcs] at h3
   simp at h3
   omega
 · rw [hcs] at h3
   simp at h3
   obtain ⟨_, rfl, _⟩ := h3
   rw [h4] at h2
   simp only [Rows.uptoBulk] at h2
   have h6 := bulk_length (elems.map (·.1))
   rw [List.length_map] at h6
   omega
theorem bulk_strs {t e : TypeId} {cs : List Value} {x : DataW H × List MemPlace} {A : Option Addr} {c : Nat} {l : List ByteArray} {ds : List (DataW H)} (ht : P.underlying t = some (.slice e)) (hte : P.underlying e = some .string) (h1 : P.cellsOf e = 1)
 (h : DataW.trod enc P w base sp held fuel t cs = some x) (hcs : cs = [.slice A l.length c]) (hs : SlOk (vw w) eStr A c l) (hk : Rows.uptoSmall H ds = true) (hm : x.1 ∈ ds) : ∀ s ∈ l, s.size ≤ 1048576 := by
 intro s hsl
 have hb : Rows.uptoBulkAll ds ≤ 1048576 := of_decide_eq_true hk
 have hx1 := bulk_part hm
 obtain ⟨k, hk⟩ := List.mem_iff_getElem?.1 hsl
 have hkl := (List.getElem?_eq_some_iff.1 hk).1
 rcases Deep.open_slice ht h with ⟨h3, _⟩ | ⟨a, len, cap, m, n, D, Pl, h3, _, hlc, hcm, hm, hx, hi⟩
 · rw [hcs] at h3
   simp at h3
   rw [h3.2.1] at hsl; cases hsl
 · rw [hcs] at h3
   simp at h3
   obtain ⟨rfl, rfl, rfl⟩ := h3
   have hlm : l.length ≤ m := by rw [hm]; split <;> omega
   obtain ⟨cs', g1, g2⟩ := hi k (by omega)
   rw [h1] at g1
   obtain ⟨s', g3, g4, _⟩ := DataW.trod_string hte g2
   obtain ⟨_, _, hat⟩ := World.cells?_some g1
   have g5 := hat 0 (by omega)
   have g6 := hs.cell (f := 0) hk (u := .string s) (fun cs hr => by rw [show cs = [.string s] from hr]; rfl)
   rw [g3] at g5
   have g7 : some (Value.string s) = some (Value.string s') := g6.symm.trans g5
   cases g7
   have g8 : D k ∈ (List.range l.length).map D := List.mem_map.2 ⟨k, List.mem_range.2 hkl, rfl⟩
   have g9 := bulk_part g8
   rw [hx] at hx1
   simp only [Rows.uptoBulk] at hx1
   rw [show D k = .lit (.string s.data.toList) from congrArg Prod.fst g4] at g9
   simp only [Rows.uptoBulk] at g9
   have e : s.data.toList.length = s.size := by rw [Array.length_toList]; rfl
   omega
end
end Go.Proofs.YtacjdfhllomccaaGreatDoor
/- A law over listed library variables, a table that is held against a constant among them; the same where what it reads is not great. Its conditions: none. -/
namespace Go.Proofs.YtacjdfhllomccaaGreatDoor
open Go.ChangeShapes Go.WideShapes Go.ChangeAt Go.RowKit
set_option linter.unusedVariables false
def LawCallGU (P : Program) (F : FuncId) (fn : Func) : Prop :=
 ∀ (H : Type) (enc : TypeId × Value → H) (W : World) (base : Nat) (args : Array Value) (ds : List (DataW H)) (p : List MemPlace),
  (∀ (j : Nat) t v, fn.params[j]? = some t → args[j]? = some v → Value.okWide P W .any base t v) →
  DataW.TrodAll enc P W 0 (fun _ => true) true fn.params.toList args.toList ds p →
  (DataW.weightsEach P fn.params.toList ds).all (· ≤ reachBytes) = true → Rows.uptoSmall H ds = true → Glob W →
  Calls P F args W fun e W' => e = .returned (.bool true) ∧ Below W.heap.size W W'
theorem law_lifted_laidU {C : Checked} {os : Os} {F : FuncId} {fn : Func} {s : ChangeSpec} {tb : TypeId} {H : Type} {enc : TypeId × Value → H} {lst : List (String × DataW Unit)} (hcall : LawCallGU C.prog F fn)
 (hglob : ∀ W : World, W.ShapedOpen C.prog → laidMetH C.prog lst W → Glob W)
 (own : ownKnob C.prog.godebug = none) (started : os.Started) (noInit : C.prog.inits.idxOf? F = none) (hfn : C.prog.funcs[F]? = some fn)
 (witness : ∃ (w : World) (tape : Tape) (i : Input), w.os = os ∧ (w.forCall tape i).Shaped C.prog ∧ i.vars = [] ∧ Input.okWide C.prog (w.forCall tape i) .any w.heap.size F i ∧
  (Rows.OpenSpec.upto s).preRow enc C.prog fn [] false lst (w.forCall tape i).memory i.args ∧ Assume.holds {} C.prog (lone (Frame.enter C.prog F i.args .normal) [] (w.forCall tape i)))
 (hvars : s.vars = []) (hres : fn.resultTypes = #[tb]) (htb : C.prog.underlying tb = some .bool) (laid : laidOutB C.prog = true)
 (hread : ∀ t ∈ fn.params.toList, C.prog.readableRec t = true ∧ t < C.prog.types.size)
 (hspec : ∀ (ds : List (DataW H)), ds.length = fn.params.toList.length → (s.fn H ds).results = [.lit (.bool true)] ∧ (s.fn H ds).args = ds ∧ (s.fn H ds).vars = []) (Fi : Stop.Interp) :
 ReturnsInHanded {} C os F .any ((Rows.OpenSpec.upto s).preRow enc C.prog fn [] false lst) (((Rows.OpenSpec.upto s).at Fi).post enc C.prog fn false true false false) := by
 refine returnsInHanded_of_row (C := C) (s := Rows.OpenSpec.upto s) own started noInit hfn witness ?_
 intro W base args ds gs before hval hW _ hkk hw hL hsh _
 have hk : Rows.uptoSmall H (ds ++ gs) = true := hkk _ rfl
 have hW' : DataW.Whole enc C.prog fn.params.toList s.vars false W args.toList ds gs before := hW
 obtain ⟨p, q, hA, hV, rfl, hfz, hnd⟩ := hW
 have hv0 : (Rows.OpenSpec.upto s).vars = [] := hvars
 rw [hv0] at hV
 obtain ⟨rfl, rfl⟩ := trodVars_none hV
 have hvt : s.plain.varTypes C.prog = [] := by
  show DataSpec.varTypes _ _ = []
  unfold DataSpec.varTypes ChangeSpec.plain
  simp [hvars]
 have hw' : (DataW.weightsEach C.prog (fn.params.toList ++ s.plain.varTypes C.prog) (ds ++ [])).all (· ≤ reachBytes) = true := hw
 rw [hvt, List.append_nil, List.append_nil] at hw'
 rw [List.append_nil] at hk
 have hlen : ∀ (ts : List TypeId) (vs : List Value) (ds : List (DataW H)) (p : List MemPlace), DataW.TrodAll enc C.prog W 0 (fun _ => true) true ts vs ds p → ds.length = ts.length := by
  intro ts
  induction ts with
  | nil => intro vs ds p h; cases vs <;> cases ds <;> first | rfl | exact h.elim
  | cons t ts ih =>
   intro vs ds p h
   cases vs with
   | nil => exact h.elim
   | cons v vs =>
    cases ds with
    | nil => exact h.elim
    | cons d ds => obtain ⟨p1, q1, _, h2, _⟩ := h; simp [ih _ _ _ h2]
 refine (hcall H enc W base args ds p hval hA hw' hk (hglob W hsh hL)).mono fun e W' ⟨he, hb⟩ => ?_
 subst he
 obtain ⟨hs1, hs2, hs3⟩ := hspec ds (hlen _ _ _ _ hA)
 have hlt : ∀ x ∈ p, x.block < W.heap.size := fun x hx => hW'.lt x (by simpa using hx)
 have hstay : ∀ sp : Nat → Bool, (∀ x ∈ p, sp x.block = true) → DataW.TrodAll enc C.prog W' 0 sp true fn.params.toList args.toList ds p := fun sp hsp =>
  trodAll_stays laid _ _ _ _ hread hA (fun x hx => hb.same (hlt x hx)) hsp
 have post : s.post enc C.prog fn false true false false W args (.bool true) W' := by
  refine ⟨ds, [], p ++ [], [], p, [], hW', ?_, ?_, ?_, World.keptBut_mono (fun x hx => ⟨by simpa using hx, .inr (.inl (by simpa using hx))⟩) (hb.frame (· ∈ p)), fun h => by cases h⟩
  · rw [List.append_nil, hs1, hres]
    exact trodAll_mk1 (shut_bool htb true)
  · rw [List.append_nil, hs2]
    exact hstay _ fun x hx => by simpa using hlt x hx
  · rw [List.append_nil, hs3, hvars]
    rfl
 exact ⟨_, rfl, post⟩
theorem card_globD {W : World} (hsh : W.ShapedOpen Tryz.prog) (h : laidMetH Tryz.prog Rows.fsBoundsUptoRow.laid W) : Glob W := by
 rw [MakeChecks.laidMetH_plain _ _ _ (by kernel_rfl)] at h
 have h3 := h.tail.tail
 have h4 := h3.tail.tail
 have h5 := h4.tail
 have hrow : ∀ u, Tryz.prog.typeName? 3 u = some ("*" ++ "errors.errorString") → u = 223 := fun u hu => typeName_ptr_named (nm := "errors.errorString") (by kernel_rfl) (by kernel_rfl) (by decide) u hu
 obtain ⟨a, s, hv, -, -, -⟩ := laid_sentinel h4 (g := 3) (by kernel_rfl) (ti := 156) (by kernel_rfl) Tryz.underlying156 (tp := 223) (fun u hu => hrow u (hu.trans (congrArg some (by decide)))) Tryz.underlying223 Tryz.underlying225 rfl rfl Tryz.underlying9 (by kernel_rfl) (by kernel_rfl)
 obtain ⟨a', s', hv', -, -, -⟩ := laid_sentinel h5 (g := 2) (by kernel_rfl) (ti := 156) (by kernel_rfl) Tryz.underlying156 (tp := 223) (fun u hu => hrow u (hu.trans (congrArg some (by decide)))) Tryz.underlying223 Tryz.underlying225 rfl rfl Tryz.underlying9 (by kernel_rfl) (by kernel_rfl)
 refine ⟨?_, cell_of_shapedOpen_int (zero := #[.int .i64 0]) (t := 3) hsh (of_decide_eq_true (by kernel_rfl)) (by kernel_rfl) rfl (by kernel_rfl) (by kernel_rfl) Tryz.underlying3, ⟨223, _, cell_of_var (by kernel_rfl) hv'⟩, ⟨223, _, cell_of_var (by kernel_rfl) hv⟩⟩
 have ed : (Rows.laid_internal_strconv_uint64pow10 : DataW Unit) = Lib.tabData .u64 Lib.pow10Tab := by kernel_rfl
 exact Lib.tabIs_of_head (g := 1) (t := 212) (e := 93) (n := 20) (by kernel_rfl) (by kernel_rfl) Tryz.underlying212 Tryz.underlying93 (by kernel_rfl) (by kernel_rfl) (rest := (Rows.fsBoundsUptoRow.laid.drop 3)) (by rw [← ed]; exact h3)
end Go.Proofs.YtacjdfhllomccaaGreatDoor
