/- Pure functions, written by walkgen.py out of the Go functions of group Ref. Their conditions: none. -/
import Derived.Test.YtacjdfhllomccaaGreatDoorKeyFJ
import Derived.Test.YtacjdfhllomccaaGreatDoorMapJ
import Derived.Test.YtacjdfhllomccaaGreatDoorSh2J
import Derived.Test.YtacjdfhllomccaaGreatDoorKeyLJ
import Derived.Test.YtacjdfhllomccaaGreatDoorEqLJ
import Derived.Test.YtacjdfhllomccaaGreatDoorFrFJ
import Derived.Test.YtacjdfhllomccaaGreatDoorFrLJ
namespace Go.Proofs.YtacjdfhllomccaaGreatDoor
set_option linter.unusedVariables false
def annalref_Dec_0 (p0 : Int) : Option (ByteArray) := none
def annalref_Dec_1 (p0 : Int) : Option (ByteArray) :=
 bif decide (p0 < 10) then
  (sslice (ByteArray.mk #[48, 49, 50, 51, 52, 53, 54, 55, 56, 57]) (if (0 : Int) < p0 then p0 else 0) (IntKind.i64.wrap ((if (0 : Int) < p0 then p0 else 0) + 1))).bind fun s1 =>
  some s1
 else
  (annalref_Dec_0 (IntKind.i64.wrap ((p0 : Int).tdiv 10))).bind fun r1 =>
  (annalref_Dec_0 ((p0 : Int).tmod 10)).bind fun r2 =>
  (scat r1 r2).bind fun s2 =>
  some s2
def annalref_Dec (p0 : Int) : Option (ByteArray) :=
 bif decide (p0 < 10) then
  (sslice (ByteArray.mk #[48, 49, 50, 51, 52, 53, 54, 55, 56, 57]) (if (0 : Int) < p0 then p0 else 0) (IntKind.i64.wrap ((if (0 : Int) < p0 then p0 else 0) + 1))).bind fun s1 =>
  some s1
 else
  (annalref_Dec_1 (IntKind.i64.wrap ((p0 : Int).tdiv 10))).bind fun r1 =>
  (annalref_Dec_1 ((p0 : Int).tmod 10)).bind fun r2 =>
  (scat r1 r2).bind fun s2 =>
  some s2
end Go.Proofs.YtacjdfhllomccaaGreatDoor
/- The Go functions of group Ref compute the pure functions of that group: written by walkgen.py. Condition of each: the pure function yields a result. -/
namespace Go.Proofs.YtacjdfhllomccaaGreatDoor
set_option linter.unusedVariables false
set_option maxRecDepth 100000 in
set_option maxHeartbeats 4000000 in
theorem annalref_Dec_0_l (p0 : Int) (r : ByteArray) (hF : annalref_Dec_0 p0 = some r) (w : World)  :
 Calls Tryz.prog 71 #[.int .i64 p0] w (Post (vSc eStr) r w) := by
 cases hF
set_option maxRecDepth 100000 in
set_option maxHeartbeats 4000000 in
theorem annalref_Dec_1_l (p0 : Int) (r : ByteArray) (hF : annalref_Dec_1 p0 = some r) (w : World)  :
 Calls Tryz.prog 71 #[.int .i64 p0] w (Post (vSc eStr) r w) := by
 unfold annalref_Dec_1 at hF
 refine T.start (l := [vi p0]) Tryz.func71 rfl rfl rfl ?_
 refine T.seq (T.region (T.pk (.string (ByteArray.mk #[])) (fun _ => by kernel_rfl) (T.nil (T.seq (T.seq (T.region (T.p2 (vi p0) (.bool (decide (p0 < 10))) (fun _ => by kernel_rfl) (T.nil ?_))))))))
 refine T.cond (decide (p0 < 10)) (by kernel_rfl) (by kernel_rfl) (fun hc1 => ?_) (fun hc1 => ?_)
 ·
  rw [hc1, cond_true] at hF
  refine T.seq (T.region (T.p5 (vi p0) (vi (if (0 : Int) < p0 then p0 else 0)) (vi p0) (vi (if (0 : Int) < p0 then p0 else 0)) (vi (IntKind.i64.wrap ((if (0 : Int) < p0 then p0 else 0) + 1))) (fun _ => by kernel_rfl) ?_))
  obtain ⟨s1, hb1, hF⟩ := ob hF
  refine T.look (.string s1) (by kernel_rfl) (fun w' hh => exec_slice_str rfl rfl rfl rfl (by kernel_rfl) hb1) ?_
  refine T.pk (.string s1) (fun _ => by kernel_rfl) (T.nil ?_)
  cases hF
  refine T.ret rfl ?_
  exact T.ret1 rfl (ResIs.tmp rfl) fun w' hh => ⟨_, rfl, hh.below, (show _ from rfl)⟩
 rw [hc1, cond_false] at hF
 refine T.skip_code ?_
 refine T.seq (T.region (T.p2 (vi p0) (vi (IntKind.i64.wrap ((p0 : Int).tdiv 10))) (fun _ => by kernel_rfl) ?_))
 obtain ⟨r1, hb2, hF⟩ := ob hF
 refine T.step (W1.call (vSc eStr) r1 71 #[vi (IntKind.i64.wrap ((p0 : Int).tdiv 10))] (by kernel_rfl) (fun _ => by kernel_rfl) (fun w' hh => annalref_Dec_0_l (IntKind.i64.wrap ((p0 : Int).tdiv 10)) r1 hb2 w' ) ?_)
 intro u V1 hV1 hu
 obtain rfl := sureStr _ _ _ hu
 refine T.p2 (vi p0) (vi ((p0 : Int).tmod 10)) (fun _ => by kernel_rfl) ?_
 obtain ⟨r2, hb3, hF⟩ := ob hF
 refine T.step (W1.call (vSc eStr) r2 71 #[vi ((p0 : Int).tmod 10)] (by kernel_rfl) (fun _ => by kernel_rfl) (fun w' hh => annalref_Dec_0_l ((p0 : Int).tmod 10) r2 hb3 w' ) ?_)
 intro u V2 hV2 hu
 obtain rfl := sureStr _ _ _ hu
 obtain ⟨s2, hb4, hF⟩ := ob hF
 refine T.look (.string s2) (by kernel_rfl) (fun w' hh => exec_scat rfl rfl rfl hb4) ?_
 refine T.pk (.string s2) (fun _ => by kernel_rfl) (T.nil ?_)
 cases hF
 refine T.ret rfl ?_
 exact T.ret1 rfl (ResIs.tmp rfl) fun w' hh => ⟨_, rfl, hh.below, (show _ from rfl)⟩
set_option maxRecDepth 100000 in
set_option maxHeartbeats 4000000 in
theorem annalref_Dec_l (p0 : Int) (r : ByteArray) (hF : annalref_Dec p0 = some r) (w : World)  :
 Calls Tryz.prog 71 #[.int .i64 p0] w (Post (vSc eStr) r w) := by
 unfold annalref_Dec at hF
 refine T.start (l := [vi p0]) Tryz.func71 rfl rfl rfl ?_
 refine T.seq (T.region (T.pk (.string (ByteArray.mk #[])) (fun _ => by kernel_rfl) (T.nil (T.seq (T.seq (T.region (T.p2 (vi p0) (.bool (decide (p0 < 10))) (fun _ => by kernel_rfl) (T.nil ?_))))))))
 refine T.cond (decide (p0 < 10)) (by kernel_rfl) (by kernel_rfl) (fun hc1 => ?_) (fun hc1 => ?_)
 ·
  rw [hc1, cond_true] at hF
  refine T.seq (T.region (T.p5 (vi p0) (vi (if (0 : Int) < p0 then p0 else 0)) (vi p0) (vi (if (0 : Int) < p0 then p0 else 0)) (vi (IntKind.i64.wrap ((if (0 : Int) < p0 then p0 else 0) + 1))) (fun _ => by kernel_rfl) ?_))
  obtain ⟨s1, hb1, hF⟩ := ob hF
  refine T.look (.string s1) (by kernel_rfl) (fun w' hh => exec_slice_str rfl rfl rfl rfl (by kernel_rfl) hb1) ?_
  refine T.pk (.string s1) (fun _ => by kernel_rfl) (T.nil ?_)
  cases hF
  refine T.ret rfl ?_
  exact T.ret1 rfl (ResIs.tmp rfl) fun w' hh => ⟨_, rfl, hh.below, (show _ from rfl)⟩
 rw [hc1, cond_false] at hF
 refine T.skip_code ?_
 refine T.seq (T.region (T.p2 (vi p0) (vi (IntKind.i64.wrap ((p0 : Int).tdiv 10))) (fun _ => by kernel_rfl) ?_))
 obtain ⟨r1, hb2, hF⟩ := ob hF
 refine T.step (W1.call (vSc eStr) r1 71 #[vi (IntKind.i64.wrap ((p0 : Int).tdiv 10))] (by kernel_rfl) (fun _ => by kernel_rfl) (fun w' hh => annalref_Dec_1_l (IntKind.i64.wrap ((p0 : Int).tdiv 10)) r1 hb2 w' ) ?_)
 intro u V1 hV1 hu
 obtain rfl := sureStr _ _ _ hu
 refine T.p2 (vi p0) (vi ((p0 : Int).tmod 10)) (fun _ => by kernel_rfl) ?_
 obtain ⟨r2, hb3, hF⟩ := ob hF
 refine T.step (W1.call (vSc eStr) r2 71 #[vi ((p0 : Int).tmod 10)] (by kernel_rfl) (fun _ => by kernel_rfl) (fun w' hh => annalref_Dec_1_l ((p0 : Int).tmod 10) r2 hb3 w' ) ?_)
 intro u V2 hV2 hu
 obtain rfl := sureStr _ _ _ hu
 obtain ⟨s2, hb4, hF⟩ := ob hF
 refine T.look (.string s2) (by kernel_rfl) (fun w' hh => exec_scat rfl rfl rfl hb4) ?_
 refine T.pk (.string s2) (fun _ => by kernel_rfl) (T.nil ?_)
 cases hF
 refine T.ret rfl ?_
 exact T.ret1 rfl (ResIs.tmp rfl) fun w' hh => ⟨_, rfl, hh.below, (show _ from rfl)⟩
end Go.Proofs.YtacjdfhllomccaaGreatDoor
/- Pure functions, written by walkgen.py out of the Go functions of group Strs. Their conditions: none. -/
namespace Go.Proofs.YtacjdfhllomccaaGreatDoor
set_option linter.unusedVariables false
def slices_Equal_string (F : Nat) (p0 : (List ByteArray)) (p1 : (List ByteArray)) : Option (Bool) :=
 bif ((p0.length : Int) != (p1.length : Int)) then
  some false
 else
  (iter (σ := Int) (ρ := (Unit) ⊕ Bool) (fun x1 =>
   bif decide (x1 < (p0.length : Int)) then
    (idx p0 x1).bind fun e1 =>
    (idx p1 x1).bind fun e2 =>
    bif (!(seq e1 e2)) then
     some (.inr (.inr false))
    else
     some (.inl (IntKind.i64.wrap (x1 + 1)))
    else
     some (.inr (.inl ()))) F 0).bind fun z => match z with
   | .inl _ =>
    some true
   | .inr q => some q
end Go.Proofs.YtacjdfhllomccaaGreatDoor
/- The Go functions of group Strs compute the pure functions of that group: written by walkgen.py. Condition of each: the pure function yields a result. -/
namespace Go.Proofs.YtacjdfhllomccaaGreatDoor
set_option linter.unusedVariables false
set_option maxRecDepth 100000 in
set_option maxHeartbeats 4000000 in
theorem slices_Equal_string_l (F : Nat) (p0 : (List ByteArray)) (p1 : (List ByteArray)) (r : Bool) (hF : slices_Equal_string F p0 p1 = some r) (w : World) (A1 : Option Addr) (c1 : Nat) (hs1 : SlOk (vw w) eStr A1 c1 p0) (A2 : Option Addr) (c2 : Nat) (hs2 : SlOk (vw w) eStr A2 c2 p1) :
 Calls Tryz.prog 37 #[.slice A1 p0.length c1, .slice A2 p1.length c2] w (Post (vSc eBool) r w) := by
 unfold slices_Equal_string at hF
 refine T.start (l := [.slice A1 p0.length c1, .slice A2 p1.length c2]) Tryz.func37 rfl rfl rfl ?_
 refine T.seq (T.region (T.pk (.bool false) (fun _ => by kernel_rfl) (T.nil (T.seq (T.seq (T.region (T.p5 (.slice A1 p0.length c1) (vi (p0.length : Int)) (.slice A2 p1.length c2) (vi (p1.length : Int)) (.bool ((p0.length : Int) != (p1.length : Int))) (fun _ => by kernel_rfl) (T.nil ?_))))))))
 refine T.cond ((p0.length : Int) != (p1.length : Int)) (by kernel_rfl) (by kernel_rfl) (fun hc1 => ?_) (fun hc1 => ?_)
 ·
  rw [hc1, cond_true] at hF
  refine T.seq (T.region (T.pk (.bool false) (fun _ => by kernel_rfl) (T.nil ?_)))
  cases hF
  refine T.ret rfl ?_
  exact T.ret1 rfl (ResIs.tmp rfl) fun w' hh => ⟨_, rfl, hh.below, (show _ from rfl)⟩
 rw [hc1, cond_false] at hF
 refine T.skip_code ?_
 refine T.seq (T.seq (T.region (T.p3 (.slice A1 p0.length c1) (vi (p0.length : Int)) (vi 0) (fun _ => by kernel_rfl) (T.nil ?_))))
 obtain ⟨q1, hz1, hF⟩ := ob hF
 refine T.mid (fun a w' => q1 = Sum.inl () ∧ Fr 26 [] a ∧ Hp w (vw w) [] w') ?_ ?_
 ·
  refine T.block ?_
  refine T.iter (fun x1 a w' => Fr 26 [(0, .slice A1 p0.length c1), (1, .slice A2 p1.length c2), (12, vi (p0.length : Int)), (13, vi x1)] a ∧ Hp w (vw w) [] w') hz1 ?_ ?_
  ·
   exact fun a w' hf hh => ⟨(Fr.sel hf rfl), (hh.sub List.Sublist.slnil)⟩
  rintro x1 y1 hY1 hr1 a w' ⟨hf, hh⟩
  refine (?_ : T 26 w (vw w) [] [(0, .slice A1 p0.length c1), (1, .slice A2 p1.length c2), (12, vi (p0.length : Int)), (13, vi x1)] _) a w' hf hh
  clear hf hh
  try dsimp only at hY1
  refine T.seq (T.region (T.pk (.bool (decide (x1 < (p0.length : Int)))) (fun _ => by kernel_rfl) (T.nil (T.seq ?_))))
  refine T.cond (decide (x1 < (p0.length : Int))) (by kernel_rfl) (by kernel_rfl) (fun hc2 => ?_) (fun hc2 => ?_)
  ·
   rw [hc2, cond_true] at hY1
   refine T.skip_code ?_
   refine T.seq (T.block (T.seq (T.region (T.p2 (vi x1) (vi x1) (fun _ => by kernel_rfl) (T.nil (T.seq ?_))))))
   refine T.quiet (by kernel_rfl) (by kernel_rfl) ?_
   refine TQ.pure (.slice A1 p0.length c1) (by kernel_rfl) (fun _ => by kernel_rfl) ?_
   refine TQ.pure (vi x1) (by kernel_rfl) (fun _ => by kernel_rfl) ?_
   obtain ⟨e1, hb1, hY1⟩ := ob hY1
   obtain ⟨hi1, hi2, hi3⟩ := idx_some hb1
   refine TQ.look (.pointer (some ((sadr A1).add (x1.toNat * 1)))) (by kernel_rfl) (fun w' hh => exec_indexAddr (e := 9) (s := 1) rfl rfl rfl (by kernel_rfl) (by kernel_rfl) hi1 hi2 (hs1.some_ hi3 (by decide))) ?_
   refine TQ.look (.string e1) (by kernel_rfl) (fun w' hh => exec_load1 rfl rfl (by kernel_rfl) (hh.cell_view (SlOk.cellF0 (E := eStr) hs1 hi3 (fun _ _ _ h => h) rfl))) ?_
   refine TQ.pure (.slice A2 p1.length c2) (by kernel_rfl) (fun _ => by kernel_rfl) ?_
   refine TQ.pure (vi x1) (by kernel_rfl) (fun _ => by kernel_rfl) ?_
   obtain ⟨e2, hb2, hY1⟩ := ob hY1
   obtain ⟨hi4, hi5, hi6⟩ := idx_some hb2
   refine TQ.look (.pointer (some ((sadr A2).add (x1.toNat * 1)))) (by kernel_rfl) (fun w' hh => exec_indexAddr (e := 9) (s := 1) rfl rfl rfl (by kernel_rfl) (by kernel_rfl) hi4 hi5 (hs2.some_ hi6 (by decide))) ?_
   refine TQ.look (.string e2) (by kernel_rfl) (fun w' hh => exec_load1 rfl rfl (by kernel_rfl) (hh.cell_view (SlOk.cellF0 (E := eStr) hs2 hi6 (fun _ _ _ h => h) rfl))) ?_
   refine TQ.pure (.bool (!(seq e1 e2))) (by kernel_rfl) (fun _ => by kernel_rfl) ?_
   refine TQ.nil ?_
   refine T.cond (!(seq e1 e2)) (by kernel_rfl) (by kernel_rfl) (fun hc3 => ?_) (fun hc3 => ?_)
   ·
    rw [hc3, cond_true] at hY1
    refine T.seq (T.region (T.pk (.bool false) (fun _ => by kernel_rfl) (T.nil ?_)))
    cases hY1
    cases (hr1 _ rfl)
    try dsimp only at hF
    cases hF
    refine T.ret rfl ?_
    exact T.ret1 rfl (ResIs.tmp rfl) fun w' hh => ⟨_, rfl, hh.below, (show _ from rfl)⟩
   rw [hc3, cond_false] at hY1
   refine T.skip_code ?_
   refine T.region (T.p2 (vi (IntKind.i64.wrap (x1 + 1))) (vi (IntKind.i64.wrap (x1 + 1))) (fun _ => by kernel_rfl) (T.nil ?_))
   cases hY1
   exact fun a w' hf hh => ⟨(IntKind.i64.wrap (x1 + 1)), rfl, (Fr.sel hf rfl), (hh.sub List.Sublist.slnil)⟩
  rw [hc2, cond_false] at hY1
  refine T.exit ?_
  cases hY1
  cases (hr1 _ rfl)
  exact fun a w' hf hh => ⟨rfl, (Fr.nil hf), (hh.sub List.Sublist.slnil)⟩
 rintro a w' ⟨rfl, hf, hh⟩
 try dsimp only at hF
 refine (?_ : T 26 w (vw w) [] [] _) a w' hf hh
 clear hf hh
 refine T.seq (T.region (T.pk (.bool true) (fun _ => by kernel_rfl) (T.nil ?_)))
 cases hF
 refine T.ret rfl ?_
 exact T.ret1 rfl (ResIs.tmp rfl) fun w' hh => ⟨_, rfl, hh.below, (show _ from rfl)⟩
end Go.Proofs.YtacjdfhllomccaaGreatDoor
/- Pure functions, written by walkgen.py out of the Go functions of group WFsPast. Their conditions: none. -/
namespace Go.Proofs.YtacjdfhllomccaaGreatDoor
set_option linter.unusedVariables false
def annalkeep_FsPast (F : Nat) (p0 : (List (List Int))) (p1 : (List ByteArray)) (p2 : (List ByteArray)) : Option (Bool) :=
 (
  (fs_FS_Mkdir_fr F [(DElem.mk (DKey.mk 0 1 0) 1 0 (ByteArray.mk #[100]))] 1 2 (ByteArray.mk #[47, 97])).bind fun r2 =>
   bif (r2.2.2.2 != 0) then
    some (r2.1, r2.2.1, r2.2.2.1, true)
   else
    some (r2.1, r2.2.1, r2.2.2.1, (r2.2.1 != 2)) : Option ((List DElem) × Int × Int × Bool)).bind fun z => match z with
  | (z1, z2, z3, z4) =>
   bif z4 then
    some false
   else
    (lslice p1 0 (if (8 : Int) < (p1.length : Int) then 8 else (p1.length : Int))).bind fun s1 =>
    (grow 16 [(ByteArray.mk #[47]), (ByteArray.mk #[47, 97])] s1).bind fun _ =>
    (
     (iter (σ := (List ByteArray) × Int) (ρ := (List ByteArray)) (fun x => match x with
      | (x1, x2) =>
       bif decide (x2 < (([(ByteArray.mk #[47]), (ByteArray.mk #[47, 97])] ++ s1).length : Int)) then
        (idx ([(ByteArray.mk #[47]), (ByteArray.mk #[47, 97])] ++ s1) x2).bind fun e1 =>
        (fs_FS_Kind_fr F z1 z2 z3 e1 0).bind fun r5 =>
        (fs_FS_Read_fr F z1 z2 z3 e1 0).bind fun r6 =>
        (fs_FS_List_fr F z1 z2 z3 e1 0).bind fun r7 =>
        (annalref_Dec r5.2).bind fun r8 =>
        (annalref_Dec r6.2).bind fun r9 =>
        (annalref_Dec r7.2).bind fun r10 =>
        (grow 16 x1 [r5.1, r6.1, r8, r9, r10]).bind fun _ =>
        (grow 16 (x1 ++ [r5.1, r6.1, r8, r9, r10]) r7.1).bind fun _ =>
        some (.inl (((x1 ++ [r5.1, r6.1, r8, r9, r10]) ++ r7.1), IntKind.i64.wrap (x2 + 1)))
        else
         some (.inr x1)) F ([], 0)).bind fun z6 =>
      some z6 : Option ((List ByteArray))).bind fun z5 =>
    (
     (iter (σ := (List ByteArray) × Int) (ρ := (List ByteArray)) (fun x => match x with
      | (x3, x4) =>
       bif decide (x4 < (([(ByteArray.mk #[47]), (ByteArray.mk #[47, 97])] ++ s1).length : Int)) then
        (idx ([(ByteArray.mk #[47]), (ByteArray.mk #[47, 97])] ++ s1) x4).bind fun e2 =>
        (fs_FS_Kind_fr F z1 z2 z3 e2 1).bind fun r12 =>
        (fs_FS_Read_fr F z1 z2 z3 e2 1).bind fun r13 =>
        (fs_FS_List_fr F z1 z2 z3 e2 1).bind fun r14 =>
        (annalref_Dec r12.2).bind fun r15 =>
        (annalref_Dec r13.2).bind fun r16 =>
        (annalref_Dec r14.2).bind fun r17 =>
        (grow 16 x3 [r12.1, r13.1, r15, r16, r17]).bind fun _ =>
        (grow 16 (x3 ++ [r12.1, r13.1, r15, r16, r17]) r14.1).bind fun _ =>
        some (.inl (((x3 ++ [r12.1, r13.1, r15, r16, r17]) ++ r14.1), IntKind.i64.wrap (x4 + 1)))
        else
         some (.inr x3)) F ([], 0)).bind fun z8 =>
      some z8 : Option ((List ByteArray))).bind fun z7 =>
    (
     (iter (σ := (List ByteArray) × Int) (ρ := (List ByteArray)) (fun x => match x with
      | (x5, x6) =>
       bif decide (x6 < (([(ByteArray.mk #[47]), (ByteArray.mk #[47, 97])] ++ s1).length : Int)) then
        (idx ([(ByteArray.mk #[47]), (ByteArray.mk #[47, 97])] ++ s1) x6).bind fun e3 =>
        (fs_FS_Kind_fr F z1 z2 z3 e3 2).bind fun r19 =>
        (fs_FS_Read_fr F z1 z2 z3 e3 2).bind fun r20 =>
        (fs_FS_List_fr F z1 z2 z3 e3 2).bind fun r21 =>
        (annalref_Dec r19.2).bind fun r22 =>
        (annalref_Dec r20.2).bind fun r23 =>
        (annalref_Dec r21.2).bind fun r24 =>
        (grow 16 x5 [r19.1, r20.1, r22, r23, r24]).bind fun _ =>
        (grow 16 (x5 ++ [r19.1, r20.1, r22, r23, r24]) r21.1).bind fun _ =>
        some (.inl (((x5 ++ [r19.1, r20.1, r22, r23, r24]) ++ r21.1), IntKind.i64.wrap (x6 + 1)))
        else
         some (.inr x5)) F ([], 0)).bind fun z10 =>
      some z10 : Option ((List ByteArray))).bind fun z9 =>
    (lslice p0 0 (if (20 : Int) < (p0.length : Int) then 20 else (p0.length : Int))).bind fun s5 =>
    (iter (σ := (List (List ByteArray)) × (List DElem) × Int × Int × Int) (ρ := (Unit) ⊕ Bool) (fun x => match x with
     | (x7, x8, x9, x10, x11) =>
      bif decide (x11 < (s5.length : Int)) then
       (idx s5 x11).bind fun e4 =>
       (annalkeep_act_fr1 F x8 x9 x10 e4 ([(ByteArray.mk #[47]), (ByteArray.mk #[47, 97])] ++ s1) p2).bind fun r26 =>
       bif ((!((r26.2.2.2 == 0) == (r26.2.1 == (x7.length : Int)))) || (decide ((x7.length : Int) < r26.2.1))) then
        some (.inr (.inr false))
       else
        (
         bif (r26.2.2.2 == 0) then
          (
           (iter (σ := (List ByteArray) × Int) (ρ := (List ByteArray)) (fun x => match x with
            | (x12, x13) =>
             bif decide (x13 < (([(ByteArray.mk #[47]), (ByteArray.mk #[47, 97])] ++ s1).length : Int)) then
              (idx ([(ByteArray.mk #[47]), (ByteArray.mk #[47, 97])] ++ s1) x13).bind fun e5 =>
              (fs_FS_Kind_fr F r26.1 r26.2.1 r26.2.2.1 e5 r26.2.1).bind fun r28 =>
              (fs_FS_Read_fr F r26.1 r26.2.1 r26.2.2.1 e5 r26.2.1).bind fun r29 =>
              (fs_FS_List_fr F r26.1 r26.2.1 r26.2.2.1 e5 r26.2.1).bind fun r30 =>
              (annalref_Dec r28.2).bind fun r31 =>
              (annalref_Dec r29.2).bind fun r32 =>
              (annalref_Dec r30.2).bind fun r33 =>
              (grow 16 x12 [r28.1, r29.1, r31, r32, r33]).bind fun _ =>
              (grow 16 (x12 ++ [r28.1, r29.1, r31, r32, r33]) r30.1).bind fun _ =>
              some (.inl (((x12 ++ [r28.1, r29.1, r31, r32, r33]) ++ r30.1), IntKind.i64.wrap (x13 + 1)))
              else
               some (.inr x12)) F ([], 0)).bind fun z13 =>
            some z13 : Option ((List ByteArray))).bind fun z12 =>
          (grow 24 x7 [z12]).bind fun _ =>
          some (x7 ++ [z12])
          else
           some x7 : Option ((List (List ByteArray)))).bind fun z11 =>
        (iter (σ := Int) (ρ := (Unit) ⊕ (((List (List ByteArray)) × (List DElem) × Int × Int × Int) ⊕ ((Unit) ⊕ Bool))) (fun x14 =>
         bif decide (x14 < (z11.length : Int)) then
          (
           (iter (σ := (List ByteArray) × Int) (ρ := (List ByteArray)) (fun x => match x with
            | (x15, x16) =>
             bif decide (x16 < (([(ByteArray.mk #[47]), (ByteArray.mk #[47, 97])] ++ s1).length : Int)) then
              (idx ([(ByteArray.mk #[47]), (ByteArray.mk #[47, 97])] ++ s1) x16).bind fun e6 =>
              (fs_FS_Kind_fr F r26.1 r26.2.1 r26.2.2.1 e6 x14).bind fun r35 =>
              (fs_FS_Read_fr F r26.1 r26.2.1 r26.2.2.1 e6 x14).bind fun r36 =>
              (fs_FS_List_fr F r26.1 r26.2.1 r26.2.2.1 e6 x14).bind fun r37 =>
              (annalref_Dec r35.2).bind fun r38 =>
              (annalref_Dec r36.2).bind fun r39 =>
              (annalref_Dec r37.2).bind fun r40 =>
              (grow 16 x15 [r35.1, r36.1, r38, r39, r40]).bind fun _ =>
              (grow 16 (x15 ++ [r35.1, r36.1, r38, r39, r40]) r37.1).bind fun _ =>
              some (.inl (((x15 ++ [r35.1, r36.1, r38, r39, r40]) ++ r37.1), IntKind.i64.wrap (x16 + 1)))
              else
               some (.inr x15)) F ([], 0)).bind fun z15 =>
            some z15 : Option ((List ByteArray))).bind fun z14 =>
          (idx z11 x14).bind fun e7 =>
          (slices_Equal_string F z14 e7).bind fun r41 =>
          bif (!r41) then
           some (.inr (.inr (.inr (.inr false))))
          else
           some (.inl (IntKind.i64.wrap (x14 + 1)))
          else
           some (.inr (.inl ()))) F 0).bind fun z => match z with
         | .inl _ =>
          some (.inl (z11, r26.1, r26.2.1, r26.2.2.1, IntKind.i64.wrap (x11 + 1)))
         | .inr q => some q
       else
        some (.inr (.inl ()))) F ([z5, z7, z9], z1, z2, z3, 0)).bind fun z => match z with
     | .inl _ =>
      some true
     | .inr q => some q
end Go.Proofs.YtacjdfhllomccaaGreatDoor
/- The Go functions of group WFsPast compute the pure functions of that group: written by walkgen.py. Condition of each: the pure function yields a result. -/
namespace Go.Proofs.YtacjdfhllomccaaGreatDoor
set_option linter.unusedVariables false
set_option maxRecDepth 100000 in
set_option maxHeartbeats 4000000 in
theorem annalkeep_FsPast_l (F : Nat) (p0 : (List (List Int))) (p1 : (List ByteArray)) (p2 : (List ByteArray)) (r : Bool) (hF : annalkeep_FsPast F p0 p1 p2 = some r) (w : World) (hGl : Glob w) (A1 : Option Addr) (c1 : Nat) (hs1 : SlOk (vw w) (eList eInt) A1 c1 p0) (A2 : Option Addr) (c2 : Nat) (hs2 : SlOk (vw w) eStr A2 c2 p1) (A3 : Option Addr) (c3 : Nat) (hs3 : SlOk (vw w) eStr A3 c3 p2) :
 Calls Tryz.prog 8 #[.slice A1 p0.length c1, .slice A2 p1.length c2, .slice A3 p2.length c3] w (Post (vSc eBool) r w) := by
 unfold annalkeep_FsPast at hF
 refine T.start (l := [.slice A1 p0.length c1, .slice A2 p1.length c2, .slice A3 p2.length c3]) Tryz.func8 rfl rfl rfl ?_
 refine T.seq (T.region (T.pk (.bool false) (fun _ => by kernel_rfl) (T.nil (T.seq (T.region ?_)))))
 let v43_ : List Value := [vi 0, vi 1, vi 0, vi 1, vi 0, .string (ByteArray.mk #[100])]
 refine T.step (W1.within 15 [] (fun v w' => ∃ (b3 : Nat) (b2 : Nat), v = pB b3 0 ∧ Hp w (vw w) ((box b3 78 [.slice (some ⟨b2, 0, none⟩) 1 1, vi 1, vi 2]) :: (box b2 44 v43_) :: []) w') Tryz.func15 rfl rfl (by kernel_rfl) (fun _ => by kernel_rfl) rfl ?_ ?_)
 ·
  refine T.seq (T.region (T.pk (.pointer none) (fun _ => by kernel_rfl) (T.nil (T.seq (T.region (T.step (W1.within 50 [vi 1] (fun v w' => v = .agg #[vi 0, vi 1, vi 0] ∧ Hp w (vw w) [] w') Tryz.func50 rfl rfl (by kernel_rfl) (fun _ => by kernel_rfl) rfl ?_ ?_)))))))
  ·
   refine T.seq (T.region (T.step (W1.np 42 [vi 0, vi 0, vi 0] (fun _ => by kernel_rfl) (fun b1 => ?_))))
   refine T.nil (T.seq (T.region (T.p2 (vi 1) (.agg #[vi 0, vi 1, vi 0]) (fun _ => by kernel_rfl) ?_)))
   let v44_ : List Value := [vi 0, vi 1, vi 0]
   refine T.step (W1.st 0 v44_ ((box b1 42 v44_) :: []) v44_ (by rfl) rfl rfl rfl rfl rfl rfl (fun _ => by kernel_rfl) ?_)
   refine T.nil ?_
   refine T.ret rfl ?_
   exact T.ret1 rfl (ResIs.cellN 0 rfl (by rfl) (fun _ => by kernel_rfl) (fun _ => by kernel_rfl)) fun w' hh => ⟨_, rfl, ⟨rfl, (hh.sub (dr1 kp0))⟩⟩
  rintro v w' ⟨rfl, hh⟩
  refine ⟨(vw w), [], hh, ?_⟩
  clear hh
  refine T.pk (.agg #[vi 0, vi 1, vi 0, vi 1, vi 0, .string (ByteArray.mk #[100])]) (fun _ => by kernel_rfl) (T.step (W1.ns 44 v43_ (fun _ => by kernel_rfl) (fun b2 => ?_)))
  refine T.pk (.agg #[.slice (some ⟨b2, 0, none⟩) 1 1, vi 1, vi 2]) (fun _ => by kernel_rfl) (T.step (W1.np 78 [.slice (some ⟨b2, 0, none⟩) 1 1, vi 1, vi 2] (fun _ => by kernel_rfl) (fun b3 => ?_)))
  refine T.pk (pB b3 0) (fun _ => by kernel_rfl) (T.nil ?_)
  refine T.ret rfl ?_
  exact T.ret1 rfl (ResIs.tmp rfl) fun w' hh => ⟨_, rfl, ⟨b3, b2, rfl, (hh.sub (kp1 (kp1 kp0)))⟩⟩
 rintro v w' ⟨b3, b2, rfl, hh⟩
 let i1_ : HObj := box b3 78 [.slice (some ⟨b2, 0, none⟩) 1 1, vi 1, vi 2]
 refine ⟨(vw w), (i1_ :: (box b2 44 v43_) :: []), hh, ?_⟩
 clear hh
 refine T.pk (pB b3 0) (fun _ => by kernel_rfl) (T.nil (T.seq ?_))
 obtain ⟨q1, hX1, hF⟩ := ob hF
 refine T.cut (fun a w' => ∃ (z1 : List DElem) (z2 : Int) (z3 : Int) (z4 : Bool), q1 = (z1, z2, z3, z4) ∧ ∃ (A4 : Option Addr) (c4 : Nat) (V1 : View), View.le (vw w) V1 ∧ SlOk V1 eElem A4 c4 z1 ∧ Fr 100 [(0, .slice A1 p0.length c1), (1, .slice A2 p1.length c2), (2, .slice A3 p2.length c3), (7, pB b3 0), (25, .bool z4)] a ∧ Hp w V1 ((box b3 78 [.slice A4 z1.length c4, vi z2, vi z3]) :: []) w') ?_ ?_
 ·
  refine T.region (T.p4 (pB b3 0) (.bool false) (.bool false) (pB b3 0) (fun _ => by kernel_rfl) ?_)
  refine T.litrow (E := eElem) (f := DElem.cells) (l := [(DElem.mk (DKey.mk 0 1 0) 1 0 (ByteArray.mk #[100]))]) 1 _ (by rfl) (fun _ _ => rfl) (Nat.succ_pos _) (Nat.le_of_ble_eq_true (by rfl)) rfl ?_
  refine T.reH (H' := (i1_ :: (row 44 eElem (some ⟨b2, 0, none⟩) ([(DElem.mk (DKey.mk 0 1 0) 1 0 (ByteArray.mk #[100]))].length) [(DElem.mk (DKey.mk 0 1 0) 1 0 (ByteArray.mk #[100]))]) :: [])) (by rfl) ?_
  refine T.freezeF (E := eElem) (H' := ((box b3 78 [.slice (some ⟨b2, 0, none⟩) ([(DElem.mk (DKey.mk 0 1 0) 1 0 (ByteArray.mk #[100]))].length) ([(DElem.mk (DKey.mk 0 1 0) 1 0 (ByteArray.mk #[100]))].length), vi 1, vi 2]) :: [])) 1 (by rfl) rfl (fun _ _ _ _ h => h) (fun V2 hV2 hs5 => ?_)
  obtain ⟨r2, hb1, hX1⟩ := ob hX1
  refine T.step (W1.callI 16 [pB b3 0, .string (ByteArray.mk #[47, 97])] (fun v w' => ∃ (A5 : Option Addr) (c5 : Nat) (V3 : View), View.le V2 V3 ∧ SlOk V3 eElem A5 c5 r2.1 ∧ v = vi r2.2.2.2 ∧ Hp w V3 ((box b3 78 [.slice A5 r2.1.length c5, vi r2.2.1, vi r2.2.2.1]) :: []) w') (by kernel_rfl) (fun _ => by kernel_rfl) (fun w' hh => fs_FS_Mkdir_fr_l F [(DElem.mk (DKey.mk 0 1 0) 1 0 (ByteArray.mk #[100]))] 1 2 (ByteArray.mk #[47, 97]) r2 hb1 w hGl b3 (some ⟨b2, 0, none⟩) ([(DElem.mk (DKey.mk 0 1 0) 1 0 (ByteArray.mk #[100]))].length) V2 [] w' (SlOk.mono hs5 (vt (made_le _ _) vr)) (hh.sub (kp1 kp0))) ?_)
  rintro v w' ⟨A5, c5, V3, hV3, hs6, rfl, hh⟩
  refine ⟨_, _, hh, ?_⟩
  clear hh
  refine T.p3 (.bool (r2.2.2.2 != 0)) (.bool (r2.2.2.2 != 0)) (.bool (r2.2.2.2 != 0)) (fun _ => by kernel_rfl) ?_
  cases hg1 : (r2.2.2.2 != 0)
  ·
   skip
   rw [hg1, cond_false] at hX1
   refine T.pk (pB b3 0) (fun _ => by kernel_rfl) ?_
   let i2_ : HObj := box b3 78 [.slice A5 r2.1.length c5, vi r2.2.1, vi r2.2.2.1]
   refine T.step (W1.within 21 [pB b3 0] (fun v w' => v = vi r2.2.1 ∧ Hp w V3 (i2_ :: []) w') Tryz.func21 rfl rfl (by kernel_rfl) (fun _ => by kernel_rfl) rfl ?_ ?_)
   ·
    refine T.seq (T.region (T.pk (vi 0) (fun _ => by kernel_rfl) (T.nil (T.seq (T.region (T.p3 (pB b3 0) (pB b3 0) (pB b3 1) (fun _ => by kernel_rfl) (T.look (vi r2.2.1) (by kernel_rfl) (ld1 0 rfl rfl (fun _ => by kernel_rfl) (by rfl) rfl) ?_)))))))
    refine T.pk (vi r2.2.1) (fun _ => by kernel_rfl) (T.nil ?_)
    refine T.ret rfl ?_
    exact T.ret1 rfl (ResIs.tmp rfl) fun w' hh => ⟨_, rfl, ⟨rfl, (hh.sub (kp1 kp0))⟩⟩
   rintro v w' ⟨rfl, hh⟩
   refine ⟨V3, (i2_ :: []), hh, ?_⟩
   clear hh
   refine T.p2 (.bool (r2.2.1 != 2)) (.bool (r2.2.1 != 2)) (fun _ => by kernel_rfl) (T.nil ?_)
   cases hX1
   exact fun a w' hf hh => ⟨r2.1, r2.2.1, r2.2.2.1, (r2.2.1 != 2), rfl, A5, c5, V3, (vt hV2 hV3), hs6, (Fr.sel hf rfl), (hh.sub (kp1 kp0))⟩
  skip
  rw [hg1, cond_true] at hX1
  refine T.pass (by kernel_rfl) (by kernel_rfl) (T.pass (by kernel_rfl) (by kernel_rfl) (T.pass (by kernel_rfl) (by kernel_rfl) (T.pk (.bool true) (fun _ => by kernel_rfl) (T.nil ?_))))
  cases hX1
  exact fun a w' hf hh => ⟨r2.1, r2.2.1, r2.2.2.1, true, rfl, A5, c5, V3, (vt hV2 hV3), hs6, (Fr.sel hf rfl), (hh.sub (kp1 kp0))⟩
 rintro a w' ⟨z1, z2, z3, z4, rfl, A4, c4, V1, hV1, hs4, hf, hh⟩
 try dsimp only at hF
 let i3_ : HObj := box b3 78 [.slice A4 z1.length c4, vi z2, vi z3]
 refine (?_ : T 100 w V1 (i3_ :: []) [(0, .slice A1 p0.length c1), (1, .slice A2 p1.length c2), (2, .slice A3 p2.length c3), (7, pB b3 0), (25, .bool z4)] _) a w' hf hh
 clear hf hh
 refine T.cond z4 (by kernel_rfl) (by kernel_rfl) (fun hc1 => ?_) (fun hc1 => ?_)
 ·
  rw [hc1, cond_true] at hF
  refine T.seq (T.region (T.pk (.bool false) (fun _ => by kernel_rfl) (T.nil ?_)))
  cases hF
  refine T.ret rfl ?_
  exact T.ret1 rfl (ResIs.tmp rfl) fun w' hh => ⟨_, rfl, hh.below, (show _ from rfl)⟩
 rw [hc1, cond_false] at hF
 refine T.skip_code ?_
 refine T.seq (T.region (T.step (W1.new 9 [.string (ByteArray.mk #[47]), .string (ByteArray.mk #[47, 97])] (fun b => .slice (some ⟨b, 0, none⟩) 2 2) (by kernel_rfl) (fun _ => by kernel_rfl) (fun b4 => ?_))))
 refine T.p4 (.slice A2 p1.length c2) (.slice A2 p1.length c2) (vi (p1.length : Int)) (vi (if (8 : Int) < (p1.length : Int) then 8 else (p1.length : Int))) (fun _ => by kernel_rfl) ?_
 obtain ⟨s1, hb2, hF⟩ := ob hF
 refine T.look (.slice A2 s1.length c2) (by kernel_rfl) (fun w' hh => exec_slice_list0 (e := 9) (s := 1) (lx := none) (hx := (some _)) (k := .i64) (k' := .i64) rfl rfl (by kernel_rfl) (by kernel_rfl) ((SlOk.mono hs2 hV1)).1 rfl rfl hb2) ?_
 refine T.litrow (E := eStr) (f := (fun x => [.string x])) (l := [(ByteArray.mk #[47]), (ByteArray.mk #[47, 97])]) 0 _ (by rfl) (fun _ _ => rfl) (Nat.succ_pos _) (Nat.le_of_ble_eq_true (by rfl)) rfl ?_
 refine T.reH (H' := ((row 9 eStr (some ⟨b4, 0, none⟩) ([(ByteArray.mk #[47]), (ByteArray.mk #[47, 97])].length) [(ByteArray.mk #[47]), (ByteArray.mk #[47, 97])]) :: i3_ :: [])) (by rfl) ?_
 obtain ⟨y1, hb3, hF⟩ := ob hF
 obtain ⟨hb3_r, hb3_m, rfl⟩ := grow_some hb3
 obtain ⟨ti, hti, hz1, hz2, hz3⟩ := info_parts (P := Tryz.prog) (e := 9) (z := .string (ByteArray.mk #[])) (size := 1) (bytes := 16) (by kernel_rfl)
 refine T.step (W1.append (E := eStr) (l := [(ByteArray.mk #[47]), (ByteArray.mk #[47, 97])]) (m := s1) 0 _ _ 16 ti _ (by rfl) (by kernel_rfl) rfl (by kernel_rfl) hti hz1 hz2 hz3 rfl (by decide) rfl rfl (fun w' hh => (SlOk.srcF (SlOk.cut0 (SlOk.mono (SlOk.mono hs2 hV1) hh.view) hb2) (fun _ _ _ _ h => h))) hb3_r hb3_m (fun A6 c6 => ?_))
 refine T.pk (.slice A6 (([(ByteArray.mk #[47]), (ByteArray.mk #[47, 97])] ++ s1).length) c6) (fun _ => by kernel_rfl) (T.nil (T.seq (T.region (T.p2 (pB b3 0) (.slice A6 (([(ByteArray.mk #[47]), (ByteArray.mk #[47, 97])] ++ s1).length) c6) (fun _ => by kernel_rfl) ?_))))
 obtain ⟨z5, hX2, hF⟩ := ob hF
 let i4_ : HObj := row 9 eStr A6 c6 ([(ByteArray.mk #[47]), (ByteArray.mk #[47, 97])] ++ s1)
 let t5_ : List HObj := i4_ :: i3_ :: []
 refine T.step (W1.within 35 [pB b3 0, .slice A6 (([(ByteArray.mk #[47]), (ByteArray.mk #[47, 97])] ++ s1).length) c6, vi 0] (fun v w' => ∃ (A7 : Option Addr) (c7 : Nat) (V4 : View), View.le V1 V4 ∧ v = .slice A7 z5.length c7 ∧ Hp w V4 ((row 9 eStr A7 c7 z5) :: t5_) w') Tryz.func35 rfl rfl (by kernel_rfl) (fun _ => by kernel_rfl) rfl ?_ ?_)
 ·
  refine T.seq (T.region (T.pk sN (fun _ => by kernel_rfl) (T.nil (T.seq (T.region (T.pk sN (fun _ => by kernel_rfl) (T.nil (T.seq (T.seq (T.region (T.p3 (.slice A6 (([(ByteArray.mk #[47]), (ByteArray.mk #[47, 97])] ++ s1).length) c6) (vi (([(ByteArray.mk #[47]), (ByteArray.mk #[47, 97])] ++ s1).length : Int)) (vi 0) (fun _ => by kernel_rfl) (T.nil ?_))))))))))))
  refine T.rownil 9 eStr ?_
  obtain ⟨z6, hz1, hX2⟩ := ob hX2
  refine T.mid (fun a w' => ∃ (A9 : Option Addr) (c9 : Nat) (V6 : View), View.le V1 V6 ∧ Fr 59 [(7, .slice A9 z6.length c9)] a ∧ Hp w V6 ((row 9 eStr A9 c9 z6) :: t5_) w') ?_ ?_
  ·
   refine T.block ?_
   refine T.iter (fun s2 a w' => ∃ (x1 : List ByteArray) (x2 : Int), s2 = (x1, x2) ∧ ∃ (A8 : Option Addr) (c8 : Nat) (V5 : View), View.le V1 V5 ∧ Fr 59 [(0, pB b3 0), (2, vi 0), (7, .slice A8 x1.length c8), (16, .slice A6 (([(ByteArray.mk #[47]), (ByteArray.mk #[47, 97])] ++ s1).length) c6), (17, vi (([(ByteArray.mk #[47]), (ByteArray.mk #[47, 97])] ++ s1).length : Int)), (18, vi x2)] a ∧ Hp w V5 ((row 9 eStr A8 c8 x1) :: t5_) w') hz1 ?_ ?_
   ·
    exact fun a w' hf hh => ⟨[], 0, rfl, none, 0, V1, vr, (Fr.sel hf rfl), (hh.sub (kp2 (kp1 kp0)))⟩
   rintro s2 y2 hY1 hr1 a w' ⟨x1, x2, rfl, A8, c8, V5, hV5, hf, hh⟩
   let t6_ : List HObj := (row 9 eStr A8 c8 x1) :: t5_
   refine (?_ : T 59 w V5 t6_ [(0, pB b3 0), (2, vi 0), (7, .slice A8 x1.length c8), (16, .slice A6 (([(ByteArray.mk #[47]), (ByteArray.mk #[47, 97])] ++ s1).length) c6), (17, vi (([(ByteArray.mk #[47]), (ByteArray.mk #[47, 97])] ++ s1).length : Int)), (18, vi x2)] _) a w' hf hh
   clear hf hh
   try dsimp only at hY1
   refine T.seq (T.region (T.pk (.bool (decide (x2 < (([(ByteArray.mk #[47]), (ByteArray.mk #[47, 97])] ++ s1).length : Int)))) (fun _ => by kernel_rfl) (T.nil (T.seq ?_))))
   refine T.cond (decide (x2 < (([(ByteArray.mk #[47]), (ByteArray.mk #[47, 97])] ++ s1).length : Int))) (by kernel_rfl) (by kernel_rfl) (fun hc2 => ?_) (fun hc2 => ?_)
   ·
    rw [hc2, cond_true] at hY1
    refine T.skip_code ?_
    refine T.seq (T.block (T.seq (T.region ?_)))
    obtain ⟨e1, hb4, hY1⟩ := ob hY1
    obtain ⟨hi1, hi2, hi3⟩ := idx_some hb4
    refine T.look (.pointer (some ((sadr A6).add (x2.toNat * 1)))) (by kernel_rfl) (ixR 1 (e := 9) (s := 1) rfl rfl rfl (fun _ => by kernel_rfl) hi1 hi2 (by rfl) hi3 (by decide)) ?_
    refine T.look (.string e1) (by kernel_rfl) (fun w' hh => exec_load1 rfl rfl (by kernel_rfl) (SlOk.wcellF0 (E := eStr) (hh.row_slOk (i := 1) (by rfl)) hi3 (fun _ _ _ h => h) rfl)) ?_
    refine T.pk (.string e1) (fun _ => by kernel_rfl) (T.nil (T.seq (T.region (T.p3 (pB b3 0) (.string e1) (vi 0) (fun _ => by kernel_rfl) ?_))))
    obtain ⟨r5, hb5, hY1⟩ := ob hY1
    let t7_ : List HObj := (row 9 eStr A8 c8 x1) :: i4_ :: []
    let t8_ : List HObj := i3_ :: t7_
    let v45_ : List Value := [pB b3 0, .string e1, vi 0]
    refine T.step (W1.callI 20 v45_ (fun v w' => ∃ (V7 : View), View.le V5 V7 ∧ v = .tuple #[.string r5.1, vi r5.2] ∧ Hp w V7 t8_ w') (by kernel_rfl) (fun _ => by kernel_rfl) (fun w' hh => fs_FS_Kind_fr_l F z1 z2 z3 e1 0 r5 hb5 w hGl b3 A4 c4 V5 t7_ w' (SlOk.mono hs4 hV5) (hh.ix 3 [2, 0, 1])) ?_)
    rintro v w' ⟨V7, hV7, rfl, hh⟩
    refine ⟨V7, t6_, hh.ix 3 [1, 2, 0], ?_⟩
    clear hh
    refine T.p5 (.tuple #[.string r5.1, vi r5.2]) (.string r5.1) (vi r5.2) (.string r5.1) (vi r5.2) (fun _ => by kernel_rfl) (T.nil (T.seq (T.region (T.p3 (pB b3 0) (.string e1) (vi 0) (fun _ => by kernel_rfl) ?_))))
    obtain ⟨r6, hb6, hY1⟩ := ob hY1
    refine T.step (W1.callI 25 v45_ (fun v w' => ∃ (V8 : View), View.le V7 V8 ∧ v = .tuple #[.string r6.1, vi r6.2] ∧ Hp w V8 t8_ w') (by kernel_rfl) (fun _ => by kernel_rfl) (fun w' hh => fs_FS_Read_fr_l F z1 z2 z3 e1 0 r6 hb6 w hGl b3 A4 c4 V7 t7_ w' (SlOk.mono hs4 (vt hV5 hV7)) (hh.ix 3 [2, 0, 1])) ?_)
    rintro v w' ⟨V8, hV8, rfl, hh⟩
    refine ⟨V8, t6_, hh.ix 3 [1, 2, 0], ?_⟩
    clear hh
    refine T.p5 (.tuple #[.string r6.1, vi r6.2]) (.string r6.1) (vi r6.2) (.string r6.1) (vi r6.2) (fun _ => by kernel_rfl) (T.nil (T.seq (T.region (T.p3 (pB b3 0) (.string e1) (vi 0) (fun _ => by kernel_rfl) ?_))))
    obtain ⟨r7, hb7, hY1⟩ := ob hY1
    refine T.step (W1.callI 34 v45_ (fun v w' => ∃ (A10 : Option Addr) (c10 : Nat) (V9 : View), View.le V8 V9 ∧ SlOk (made w V9) eStr A10 c10 r7.1 ∧ v = .tuple #[.slice A10 r7.1.length c10, vi r7.2] ∧ Hp w V9 t8_ w') (by kernel_rfl) (fun _ => by kernel_rfl) (fun w' hh => fs_FS_List_fr_l F z1 z2 z3 e1 0 r7 hb7 w hGl b3 A4 c4 V8 t7_ w' (SlOk.mono hs4 (vt (vt hV5 hV7) hV8)) (hh.ix 3 [2, 0, 1])) ?_)
    rintro v w' ⟨A10, c10, V9, hV9, hs7, rfl, hh⟩
    refine ⟨V9, t6_, hh.ix 3 [1, 2, 0], ?_⟩
    clear hh
    refine T.p5 (.tuple #[.slice A10 r7.1.length c10, vi r7.2]) (.slice A10 r7.1.length c10) (vi r7.2) (.slice A10 r7.1.length c10) (vi r7.2) (fun _ => by kernel_rfl) (T.nil (T.seq (T.region (T.p4 (.slice A8 x1.length c8) (.string r5.1) (.string r6.1) (vi r5.2) (fun _ => by kernel_rfl) ?_))))
    obtain ⟨r8, hb8, hY1⟩ := ob hY1
    refine T.step (W1.call (vSc eStr) r8 71 #[vi r5.2] (by kernel_rfl) (fun _ => by kernel_rfl) (fun w' hh => annalref_Dec_l r5.2 r8 hb8 w' ) ?_)
    intro u V10 hV10 hu
    obtain rfl := sureStr _ _ _ hu
    refine T.pk (vi r6.2) (fun _ => by kernel_rfl) ?_
    obtain ⟨r9, hb9, hY1⟩ := ob hY1
    refine T.step (W1.call (vSc eStr) r9 71 #[vi r6.2] (by kernel_rfl) (fun _ => by kernel_rfl) (fun w' hh => annalref_Dec_l r6.2 r9 hb9 w' ) ?_)
    intro u V11 hV11 hu
    obtain rfl := sureStr _ _ _ hu
    refine T.pk (vi r7.2) (fun _ => by kernel_rfl) ?_
    obtain ⟨r10, hb10, hY1⟩ := ob hY1
    refine T.step (W1.call (vSc eStr) r10 71 #[vi r7.2] (by kernel_rfl) (fun _ => by kernel_rfl) (fun w' hh => annalref_Dec_l r7.2 r10 hb10 w' ) ?_)
    intro u V12 hV12 hu
    obtain rfl := sureStr _ _ _ hu
    refine T.step (W1.new 9 [.string r5.1, .string r6.1, .string r8, .string r9, .string r10] (fun b => .slice (some ⟨b, 0, none⟩) 5 5) (by kernel_rfl) (fun _ => by kernel_rfl) (fun b5 => ?_))
    obtain ⟨y3, hb11, hY1⟩ := ob hY1
    obtain ⟨hb11_r, hb11_m, rfl⟩ := grow_some hb11
    obtain ⟨ti, hti, hz1, hz2, hz3⟩ := info_parts (P := Tryz.prog) (e := 9) (z := .string (ByteArray.mk #[])) (size := 1) (bytes := 16) (by kernel_rfl)
    refine T.step (W1.append (E := eStr) (l := x1) (m := [r5.1, r6.1, r8, r9, r10]) 1 _ _ 16 ti _ (by rfl) (by kernel_rfl) rfl (by kernel_rfl) hti hz1 hz2 hz3 rfl (by decide) rfl rfl (fun w' hh => (SlOk.srcF (slok_lit (E := eStr) (f := (fun x => [.string x])) [r5.1, r6.1, r8, r9, r10] (fun _ _ => rfl) (Nat.le_of_ble_eq_true (by rfl)) (fun j => hh.cellBox (i := 0) (by rfl) j)) (fun _ _ _ _ h => h))) hb11_r hb11_m (fun A11 c11 => ?_))
    refine T.pk (.slice A11 ((x1 ++ [r5.1, r6.1, r8, r9, r10]).length) c11) (fun _ => by kernel_rfl) (T.nil (T.region (T.p2 (.slice A11 ((x1 ++ [r5.1, r6.1, r8, r9, r10]).length) c11) (.slice A10 r7.1.length c10) (fun _ => by kernel_rfl) ?_)))
    obtain ⟨y4, hb12, hY1⟩ := ob hY1
    obtain ⟨hb12_r, hb12_m, rfl⟩ := grow_some hb12
    obtain ⟨ti, hti, hz1, hz2, hz3⟩ := info_parts (P := Tryz.prog) (e := 9) (z := .string (ByteArray.mk #[])) (size := 1) (bytes := 16) (by kernel_rfl)
    refine T.step (W1.append (E := eStr) (l := (x1 ++ [r5.1, r6.1, r8, r9, r10])) (m := r7.1) 1 _ _ 16 ti _ (by rfl) (by kernel_rfl) rfl (by kernel_rfl) hti hz1 hz2 hz3 rfl (by decide) rfl rfl (fun w' hh => (SlOk.srcF (SlOk.mono (SlOk.mono hs7 (vt (made_le _ _) (vt (vt hV10 hV11) hV12))) hh.view) (fun _ _ _ _ h => h))) hb12_r hb12_m (fun A12 c12 => ?_))
    refine T.pk (.slice A12 (((x1 ++ [r5.1, r6.1, r8, r9, r10]) ++ r7.1).length) c12) (fun _ => by kernel_rfl) (T.nil (T.region (T.p2 (vi (IntKind.i64.wrap (x2 + 1))) (vi (IntKind.i64.wrap (x2 + 1))) (fun _ => by kernel_rfl) (T.nil ?_))))
    cases hY1
    exact fun a w' hf hh => ⟨(((x1 ++ [r5.1, r6.1, r8, r9, r10]) ++ r7.1), IntKind.i64.wrap (x2 + 1)), rfl, ((x1 ++ [r5.1, r6.1, r8, r9, r10]) ++ r7.1), (IntKind.i64.wrap (x2 + 1)), rfl, A12, c12, V12, (vt (vt (vt (vt (vt (vt hV5 hV7) hV8) hV9) hV10) hV11) hV12), (Fr.sel hf rfl), (hh.sub (dr1 (kp2 (kp1 kp0))))⟩
   rw [hc2, cond_false] at hY1
   refine T.exit ?_
   cases hY1
   cases (hr1 _ rfl)
   exact fun a w' hf hh => ⟨A8, c8, V5, hV5, (Fr.sel hf rfl), (hh.sub (kp2 (kp1 kp0)))⟩
  rintro a w' ⟨A9, c9, V6, hV6, hf, hh⟩
  refine (?_ : T 59 w V6 ((row 9 eStr A9 c9 z6) :: t5_) [(7, .slice A9 z6.length c9)] _) a w' hf hh
  clear hf hh
  refine T.seq (T.region (T.p2 (.slice A9 z6.length c9) (.slice A9 z6.length c9) (fun _ => by kernel_rfl) (T.nil ?_)))
  cases hX2
  refine T.ret rfl ?_
  exact T.ret1 rfl (ResIs.tmp rfl) fun w' hh => ⟨_, rfl, ⟨A9, c9, V6, hV6, rfl, (hh.sub (kp2 (kp1 kp0)))⟩⟩
 rintro v w' ⟨A7, c7, V4, hV4, rfl, hh⟩
 let t9_ : List HObj := (row 9 eStr A7 c7 z5) :: t5_
 refine ⟨V4, t9_, hh, ?_⟩
 clear hh
 refine T.p2 (pB b3 0) (.slice A6 (([(ByteArray.mk #[47]), (ByteArray.mk #[47, 97])] ++ s1).length) c6) (fun _ => by kernel_rfl) ?_
 obtain ⟨z7, hX3, hF⟩ := ob hF
 refine T.step (W1.within 35 [pB b3 0, .slice A6 (([(ByteArray.mk #[47]), (ByteArray.mk #[47, 97])] ++ s1).length) c6, vi 1] (fun v w' => ∃ (A13 : Option Addr) (c13 : Nat) (V13 : View), View.le V4 V13 ∧ v = .slice A13 z7.length c13 ∧ Hp w V13 ((row 9 eStr A13 c13 z7) :: t9_) w') Tryz.func35 rfl rfl (by kernel_rfl) (fun _ => by kernel_rfl) rfl ?_ ?_)
 ·
  refine T.seq (T.region (T.pk sN (fun _ => by kernel_rfl) (T.nil (T.seq (T.region (T.pk sN (fun _ => by kernel_rfl) (T.nil (T.seq (T.seq (T.region (T.p3 (.slice A6 (([(ByteArray.mk #[47]), (ByteArray.mk #[47, 97])] ++ s1).length) c6) (vi (([(ByteArray.mk #[47]), (ByteArray.mk #[47, 97])] ++ s1).length : Int)) (vi 0) (fun _ => by kernel_rfl) (T.nil ?_))))))))))))
  refine T.rownil 9 eStr ?_
  obtain ⟨z8, hz2, hX3⟩ := ob hX3
  refine T.mid (fun a w' => ∃ (A15 : Option Addr) (c15 : Nat) (V15 : View), View.le V4 V15 ∧ Fr 59 [(7, .slice A15 z8.length c15)] a ∧ Hp w V15 ((row 9 eStr A15 c15 z8) :: t9_) w') ?_ ?_
  ·
   refine T.block ?_
   refine T.iter (fun s3 a w' => ∃ (x3 : List ByteArray) (x4 : Int), s3 = (x3, x4) ∧ ∃ (A14 : Option Addr) (c14 : Nat) (V14 : View), View.le V4 V14 ∧ Fr 59 [(0, pB b3 0), (2, vi 1), (7, .slice A14 x3.length c14), (16, .slice A6 (([(ByteArray.mk #[47]), (ByteArray.mk #[47, 97])] ++ s1).length) c6), (17, vi (([(ByteArray.mk #[47]), (ByteArray.mk #[47, 97])] ++ s1).length : Int)), (18, vi x4)] a ∧ Hp w V14 ((row 9 eStr A14 c14 x3) :: t9_) w') hz2 ?_ ?_
   ·
    exact fun a w' hf hh => ⟨[], 0, rfl, none, 0, V4, vr, (Fr.sel hf rfl), (hh.sub (kp3 (kp1 kp0)))⟩
   rintro s3 y5 hY2 hr2 a w' ⟨x3, x4, rfl, A14, c14, V14, hV14, hf, hh⟩
   let t10_ : List HObj := (row 9 eStr A14 c14 x3) :: t9_
   refine (?_ : T 59 w V14 t10_ [(0, pB b3 0), (2, vi 1), (7, .slice A14 x3.length c14), (16, .slice A6 (([(ByteArray.mk #[47]), (ByteArray.mk #[47, 97])] ++ s1).length) c6), (17, vi (([(ByteArray.mk #[47]), (ByteArray.mk #[47, 97])] ++ s1).length : Int)), (18, vi x4)] _) a w' hf hh
   clear hf hh
   try dsimp only at hY2
   refine T.seq (T.region (T.pk (.bool (decide (x4 < (([(ByteArray.mk #[47]), (ByteArray.mk #[47, 97])] ++ s1).length : Int)))) (fun _ => by kernel_rfl) (T.nil (T.seq ?_))))
   refine T.cond (decide (x4 < (([(ByteArray.mk #[47]), (ByteArray.mk #[47, 97])] ++ s1).length : Int))) (by kernel_rfl) (by kernel_rfl) (fun hc3 => ?_) (fun hc3 => ?_)
   ·
    rw [hc3, cond_true] at hY2
    refine T.skip_code ?_
    refine T.seq (T.block (T.seq (T.region ?_)))
    obtain ⟨e2, hb13, hY2⟩ := ob hY2
    obtain ⟨hi4, hi5, hi6⟩ := idx_some hb13
    refine T.look (.pointer (some ((sadr A6).add (x4.toNat * 1)))) (by kernel_rfl) (ixR 2 (e := 9) (s := 1) rfl rfl rfl (fun _ => by kernel_rfl) hi4 hi5 (by rfl) hi6 (by decide)) ?_
    refine T.look (.string e2) (by kernel_rfl) (fun w' hh => exec_load1 rfl rfl (by kernel_rfl) (SlOk.wcellF0 (E := eStr) (hh.row_slOk (i := 2) (by rfl)) hi6 (fun _ _ _ h => h) rfl)) ?_
    refine T.pk (.string e2) (fun _ => by kernel_rfl) (T.nil (T.seq (T.region (T.p3 (pB b3 0) (.string e2) (vi 1) (fun _ => by kernel_rfl) ?_))))
    obtain ⟨r12, hb14, hY2⟩ := ob hY2
    let t11_ : List HObj := (row 9 eStr A7 c7 z5) :: i4_ :: []
    let t12_ : List HObj := (row 9 eStr A14 c14 x3) :: t11_
    let t13_ : List HObj := i3_ :: t12_
    let v46_ : List Value := [pB b3 0, .string e2, vi 1]
    refine T.step (W1.callI 20 v46_ (fun v w' => ∃ (V16 : View), View.le V14 V16 ∧ v = .tuple #[.string r12.1, vi r12.2] ∧ Hp w V16 t13_ w') (by kernel_rfl) (fun _ => by kernel_rfl) (fun w' hh => fs_FS_Kind_fr_l F z1 z2 z3 e2 1 r12 hb14 w hGl b3 A4 c4 V14 t12_ w' (SlOk.mono hs4 (vt hV4 hV14)) (hh.ix 4 [3, 0, 1, 2])) ?_)
    rintro v w' ⟨V16, hV16, rfl, hh⟩
    refine ⟨V16, t10_, hh.ix 4 [1, 2, 3, 0], ?_⟩
    clear hh
    refine T.p5 (.tuple #[.string r12.1, vi r12.2]) (.string r12.1) (vi r12.2) (.string r12.1) (vi r12.2) (fun _ => by kernel_rfl) (T.nil (T.seq (T.region (T.p3 (pB b3 0) (.string e2) (vi 1) (fun _ => by kernel_rfl) ?_))))
    obtain ⟨r13, hb15, hY2⟩ := ob hY2
    refine T.step (W1.callI 25 v46_ (fun v w' => ∃ (V17 : View), View.le V16 V17 ∧ v = .tuple #[.string r13.1, vi r13.2] ∧ Hp w V17 t13_ w') (by kernel_rfl) (fun _ => by kernel_rfl) (fun w' hh => fs_FS_Read_fr_l F z1 z2 z3 e2 1 r13 hb15 w hGl b3 A4 c4 V16 t12_ w' (SlOk.mono hs4 (vt (vt hV4 hV14) hV16)) (hh.ix 4 [3, 0, 1, 2])) ?_)
    rintro v w' ⟨V17, hV17, rfl, hh⟩
    refine ⟨V17, t10_, hh.ix 4 [1, 2, 3, 0], ?_⟩
    clear hh
    refine T.p5 (.tuple #[.string r13.1, vi r13.2]) (.string r13.1) (vi r13.2) (.string r13.1) (vi r13.2) (fun _ => by kernel_rfl) (T.nil (T.seq (T.region (T.p3 (pB b3 0) (.string e2) (vi 1) (fun _ => by kernel_rfl) ?_))))
    obtain ⟨r14, hb16, hY2⟩ := ob hY2
    refine T.step (W1.callI 34 v46_ (fun v w' => ∃ (A16 : Option Addr) (c16 : Nat) (V18 : View), View.le V17 V18 ∧ SlOk (made w V18) eStr A16 c16 r14.1 ∧ v = .tuple #[.slice A16 r14.1.length c16, vi r14.2] ∧ Hp w V18 t13_ w') (by kernel_rfl) (fun _ => by kernel_rfl) (fun w' hh => fs_FS_List_fr_l F z1 z2 z3 e2 1 r14 hb16 w hGl b3 A4 c4 V17 t12_ w' (SlOk.mono hs4 (vt (vt (vt hV4 hV14) hV16) hV17)) (hh.ix 4 [3, 0, 1, 2])) ?_)
    rintro v w' ⟨A16, c16, V18, hV18, hs8, rfl, hh⟩
    refine ⟨V18, t10_, hh.ix 4 [1, 2, 3, 0], ?_⟩
    clear hh
    refine T.p5 (.tuple #[.slice A16 r14.1.length c16, vi r14.2]) (.slice A16 r14.1.length c16) (vi r14.2) (.slice A16 r14.1.length c16) (vi r14.2) (fun _ => by kernel_rfl) (T.nil (T.seq (T.region (T.p4 (.slice A14 x3.length c14) (.string r12.1) (.string r13.1) (vi r12.2) (fun _ => by kernel_rfl) ?_))))
    obtain ⟨r15, hb17, hY2⟩ := ob hY2
    refine T.step (W1.call (vSc eStr) r15 71 #[vi r12.2] (by kernel_rfl) (fun _ => by kernel_rfl) (fun w' hh => annalref_Dec_l r12.2 r15 hb17 w' ) ?_)
    intro u V19 hV19 hu
    obtain rfl := sureStr _ _ _ hu
    refine T.pk (vi r13.2) (fun _ => by kernel_rfl) ?_
    obtain ⟨r16, hb18, hY2⟩ := ob hY2
    refine T.step (W1.call (vSc eStr) r16 71 #[vi r13.2] (by kernel_rfl) (fun _ => by kernel_rfl) (fun w' hh => annalref_Dec_l r13.2 r16 hb18 w' ) ?_)
    intro u V20 hV20 hu
    obtain rfl := sureStr _ _ _ hu
    refine T.pk (vi r14.2) (fun _ => by kernel_rfl) ?_
    obtain ⟨r17, hb19, hY2⟩ := ob hY2
    refine T.step (W1.call (vSc eStr) r17 71 #[vi r14.2] (by kernel_rfl) (fun _ => by kernel_rfl) (fun w' hh => annalref_Dec_l r14.2 r17 hb19 w' ) ?_)
    intro u V21 hV21 hu
    obtain rfl := sureStr _ _ _ hu
    refine T.step (W1.new 9 [.string r12.1, .string r13.1, .string r15, .string r16, .string r17] (fun b => .slice (some ⟨b, 0, none⟩) 5 5) (by kernel_rfl) (fun _ => by kernel_rfl) (fun b6 => ?_))
    obtain ⟨y6, hb20, hY2⟩ := ob hY2
    obtain ⟨hb20_r, hb20_m, rfl⟩ := grow_some hb20
    obtain ⟨ti, hti, hz1, hz2, hz3⟩ := info_parts (P := Tryz.prog) (e := 9) (z := .string (ByteArray.mk #[])) (size := 1) (bytes := 16) (by kernel_rfl)
    refine T.step (W1.append (E := eStr) (l := x3) (m := [r12.1, r13.1, r15, r16, r17]) 1 _ _ 16 ti _ (by rfl) (by kernel_rfl) rfl (by kernel_rfl) hti hz1 hz2 hz3 rfl (by decide) rfl rfl (fun w' hh => (SlOk.srcF (slok_lit (E := eStr) (f := (fun x => [.string x])) [r12.1, r13.1, r15, r16, r17] (fun _ _ => rfl) (Nat.le_of_ble_eq_true (by rfl)) (fun j => hh.cellBox (i := 0) (by rfl) j)) (fun _ _ _ _ h => h))) hb20_r hb20_m (fun A17 c17 => ?_))
    refine T.pk (.slice A17 ((x3 ++ [r12.1, r13.1, r15, r16, r17]).length) c17) (fun _ => by kernel_rfl) (T.nil (T.region (T.p2 (.slice A17 ((x3 ++ [r12.1, r13.1, r15, r16, r17]).length) c17) (.slice A16 r14.1.length c16) (fun _ => by kernel_rfl) ?_)))
    obtain ⟨y7, hb21, hY2⟩ := ob hY2
    obtain ⟨hb21_r, hb21_m, rfl⟩ := grow_some hb21
    obtain ⟨ti, hti, hz1, hz2, hz3⟩ := info_parts (P := Tryz.prog) (e := 9) (z := .string (ByteArray.mk #[])) (size := 1) (bytes := 16) (by kernel_rfl)
    refine T.step (W1.append (E := eStr) (l := (x3 ++ [r12.1, r13.1, r15, r16, r17])) (m := r14.1) 1 _ _ 16 ti _ (by rfl) (by kernel_rfl) rfl (by kernel_rfl) hti hz1 hz2 hz3 rfl (by decide) rfl rfl (fun w' hh => (SlOk.srcF (SlOk.mono (SlOk.mono hs8 (vt (made_le _ _) (vt (vt hV19 hV20) hV21))) hh.view) (fun _ _ _ _ h => h))) hb21_r hb21_m (fun A18 c18 => ?_))
    refine T.pk (.slice A18 (((x3 ++ [r12.1, r13.1, r15, r16, r17]) ++ r14.1).length) c18) (fun _ => by kernel_rfl) (T.nil (T.region (T.p2 (vi (IntKind.i64.wrap (x4 + 1))) (vi (IntKind.i64.wrap (x4 + 1))) (fun _ => by kernel_rfl) (T.nil ?_))))
    cases hY2
    exact fun a w' hf hh => ⟨(((x3 ++ [r12.1, r13.1, r15, r16, r17]) ++ r14.1), IntKind.i64.wrap (x4 + 1)), rfl, ((x3 ++ [r12.1, r13.1, r15, r16, r17]) ++ r14.1), (IntKind.i64.wrap (x4 + 1)), rfl, A18, c18, V21, (vt (vt (vt (vt (vt (vt hV14 hV16) hV17) hV18) hV19) hV20) hV21), (Fr.sel hf rfl), (hh.sub (dr1 (kp3 (kp1 kp0))))⟩
   rw [hc3, cond_false] at hY2
   refine T.exit ?_
   cases hY2
   cases (hr2 _ rfl)
   exact fun a w' hf hh => ⟨A14, c14, V14, hV14, (Fr.sel hf rfl), (hh.sub (kp3 (kp1 kp0)))⟩
  rintro a w' ⟨A15, c15, V15, hV15, hf, hh⟩
  refine (?_ : T 59 w V15 ((row 9 eStr A15 c15 z8) :: t9_) [(7, .slice A15 z8.length c15)] _) a w' hf hh
  clear hf hh
  refine T.seq (T.region (T.p2 (.slice A15 z8.length c15) (.slice A15 z8.length c15) (fun _ => by kernel_rfl) (T.nil ?_)))
  cases hX3
  refine T.ret rfl ?_
  exact T.ret1 rfl (ResIs.tmp rfl) fun w' hh => ⟨_, rfl, ⟨A15, c15, V15, hV15, rfl, (hh.sub (kp3 (kp1 kp0)))⟩⟩
 rintro v w' ⟨A13, c13, V13, hV13, rfl, hh⟩
 let t14_ : List HObj := (row 9 eStr A13 c13 z7) :: t9_
 refine ⟨V13, t14_, hh, ?_⟩
 clear hh
 refine T.p2 (pB b3 0) (.slice A6 (([(ByteArray.mk #[47]), (ByteArray.mk #[47, 97])] ++ s1).length) c6) (fun _ => by kernel_rfl) ?_
 obtain ⟨z9, hX4, hF⟩ := ob hF
 refine T.step (W1.within 35 [pB b3 0, .slice A6 (([(ByteArray.mk #[47]), (ByteArray.mk #[47, 97])] ++ s1).length) c6, vi 2] (fun v w' => ∃ (A19 : Option Addr) (c19 : Nat) (V22 : View), View.le V13 V22 ∧ v = .slice A19 z9.length c19 ∧ Hp w V22 ((row 9 eStr A19 c19 z9) :: t14_) w') Tryz.func35 rfl rfl (by kernel_rfl) (fun _ => by kernel_rfl) rfl ?_ ?_)
 ·
  refine T.seq (T.region (T.pk sN (fun _ => by kernel_rfl) (T.nil (T.seq (T.region (T.pk sN (fun _ => by kernel_rfl) (T.nil (T.seq (T.seq (T.region (T.p3 (.slice A6 (([(ByteArray.mk #[47]), (ByteArray.mk #[47, 97])] ++ s1).length) c6) (vi (([(ByteArray.mk #[47]), (ByteArray.mk #[47, 97])] ++ s1).length : Int)) (vi 0) (fun _ => by kernel_rfl) (T.nil ?_))))))))))))
  refine T.rownil 9 eStr ?_
  obtain ⟨z10, hz3, hX4⟩ := ob hX4
  refine T.mid (fun a w' => ∃ (A21 : Option Addr) (c21 : Nat) (V24 : View), View.le V13 V24 ∧ Fr 59 [(7, .slice A21 z10.length c21)] a ∧ Hp w V24 ((row 9 eStr A21 c21 z10) :: t14_) w') ?_ ?_
  ·
   refine T.block ?_
   refine T.iter (fun s4 a w' => ∃ (x5 : List ByteArray) (x6 : Int), s4 = (x5, x6) ∧ ∃ (A20 : Option Addr) (c20 : Nat) (V23 : View), View.le V13 V23 ∧ Fr 59 [(0, pB b3 0), (2, vi 2), (7, .slice A20 x5.length c20), (16, .slice A6 (([(ByteArray.mk #[47]), (ByteArray.mk #[47, 97])] ++ s1).length) c6), (17, vi (([(ByteArray.mk #[47]), (ByteArray.mk #[47, 97])] ++ s1).length : Int)), (18, vi x6)] a ∧ Hp w V23 ((row 9 eStr A20 c20 x5) :: t14_) w') hz3 ?_ ?_
   ·
    exact fun a w' hf hh => ⟨[], 0, rfl, none, 0, V13, vr, (Fr.sel hf rfl), (hh.sub (kp4 (kp1 kp0)))⟩
   rintro s4 y8 hY3 hr3 a w' ⟨x5, x6, rfl, A20, c20, V23, hV23, hf, hh⟩
   let t15_ : List HObj := (row 9 eStr A20 c20 x5) :: t14_
   refine (?_ : T 59 w V23 t15_ [(0, pB b3 0), (2, vi 2), (7, .slice A20 x5.length c20), (16, .slice A6 (([(ByteArray.mk #[47]), (ByteArray.mk #[47, 97])] ++ s1).length) c6), (17, vi (([(ByteArray.mk #[47]), (ByteArray.mk #[47, 97])] ++ s1).length : Int)), (18, vi x6)] _) a w' hf hh
   clear hf hh
   try dsimp only at hY3
   refine T.seq (T.region (T.pk (.bool (decide (x6 < (([(ByteArray.mk #[47]), (ByteArray.mk #[47, 97])] ++ s1).length : Int)))) (fun _ => by kernel_rfl) (T.nil (T.seq ?_))))
   refine T.cond (decide (x6 < (([(ByteArray.mk #[47]), (ByteArray.mk #[47, 97])] ++ s1).length : Int))) (by kernel_rfl) (by kernel_rfl) (fun hc4 => ?_) (fun hc4 => ?_)
   ·
    rw [hc4, cond_true] at hY3
    refine T.skip_code ?_
    refine T.seq (T.block (T.seq (T.region ?_)))
    obtain ⟨e3, hb22, hY3⟩ := ob hY3
    obtain ⟨hi7, hi8, hi9⟩ := idx_some hb22
    refine T.look (.pointer (some ((sadr A6).add (x6.toNat * 1)))) (by kernel_rfl) (ixR 3 (e := 9) (s := 1) rfl rfl rfl (fun _ => by kernel_rfl) hi7 hi8 (by rfl) hi9 (by decide)) ?_
    refine T.look (.string e3) (by kernel_rfl) (fun w' hh => exec_load1 rfl rfl (by kernel_rfl) (SlOk.wcellF0 (E := eStr) (hh.row_slOk (i := 3) (by rfl)) hi9 (fun _ _ _ h => h) rfl)) ?_
    refine T.pk (.string e3) (fun _ => by kernel_rfl) (T.nil (T.seq (T.region (T.p3 (pB b3 0) (.string e3) (vi 2) (fun _ => by kernel_rfl) ?_))))
    obtain ⟨r19, hb23, hY3⟩ := ob hY3
    let t16_ : List HObj := (row 9 eStr A7 c7 z5) :: i4_ :: []
    let t17_ : List HObj := (row 9 eStr A13 c13 z7) :: t16_
    let t18_ : List HObj := (row 9 eStr A20 c20 x5) :: t17_
    let t19_ : List HObj := i3_ :: t18_
    let v47_ : List Value := [pB b3 0, .string e3, vi 2]
    refine T.step (W1.callI 20 v47_ (fun v w' => ∃ (V25 : View), View.le V23 V25 ∧ v = .tuple #[.string r19.1, vi r19.2] ∧ Hp w V25 t19_ w') (by kernel_rfl) (fun _ => by kernel_rfl) (fun w' hh => fs_FS_Kind_fr_l F z1 z2 z3 e3 2 r19 hb23 w hGl b3 A4 c4 V23 t18_ w' (SlOk.mono hs4 (vt (vt hV4 hV13) hV23)) (hh.ix 5 [4, 0, 1, 2, 3])) ?_)
    rintro v w' ⟨V25, hV25, rfl, hh⟩
    refine ⟨V25, t15_, hh.ix 5 [1, 2, 3, 4, 0], ?_⟩
    clear hh
    refine T.p5 (.tuple #[.string r19.1, vi r19.2]) (.string r19.1) (vi r19.2) (.string r19.1) (vi r19.2) (fun _ => by kernel_rfl) (T.nil (T.seq (T.region (T.p3 (pB b3 0) (.string e3) (vi 2) (fun _ => by kernel_rfl) ?_))))
    obtain ⟨r20, hb24, hY3⟩ := ob hY3
    refine T.step (W1.callI 25 v47_ (fun v w' => ∃ (V26 : View), View.le V25 V26 ∧ v = .tuple #[.string r20.1, vi r20.2] ∧ Hp w V26 t19_ w') (by kernel_rfl) (fun _ => by kernel_rfl) (fun w' hh => fs_FS_Read_fr_l F z1 z2 z3 e3 2 r20 hb24 w hGl b3 A4 c4 V25 t18_ w' (SlOk.mono hs4 (vt (vt (vt hV4 hV13) hV23) hV25)) (hh.ix 5 [4, 0, 1, 2, 3])) ?_)
    rintro v w' ⟨V26, hV26, rfl, hh⟩
    refine ⟨V26, t15_, hh.ix 5 [1, 2, 3, 4, 0], ?_⟩
    clear hh
    refine T.p5 (.tuple #[.string r20.1, vi r20.2]) (.string r20.1) (vi r20.2) (.string r20.1) (vi r20.2) (fun _ => by kernel_rfl) (T.nil (T.seq (T.region (T.p3 (pB b3 0) (.string e3) (vi 2) (fun _ => by kernel_rfl) ?_))))
    obtain ⟨r21, hb25, hY3⟩ := ob hY3
    refine T.step (W1.callI 34 v47_ (fun v w' => ∃ (A22 : Option Addr) (c22 : Nat) (V27 : View), View.le V26 V27 ∧ SlOk (made w V27) eStr A22 c22 r21.1 ∧ v = .tuple #[.slice A22 r21.1.length c22, vi r21.2] ∧ Hp w V27 t19_ w') (by kernel_rfl) (fun _ => by kernel_rfl) (fun w' hh => fs_FS_List_fr_l F z1 z2 z3 e3 2 r21 hb25 w hGl b3 A4 c4 V26 t18_ w' (SlOk.mono hs4 (vt (vt (vt (vt hV4 hV13) hV23) hV25) hV26)) (hh.ix 5 [4, 0, 1, 2, 3])) ?_)
    rintro v w' ⟨A22, c22, V27, hV27, hs9, rfl, hh⟩
    refine ⟨V27, t15_, hh.ix 5 [1, 2, 3, 4, 0], ?_⟩
    clear hh
    refine T.p5 (.tuple #[.slice A22 r21.1.length c22, vi r21.2]) (.slice A22 r21.1.length c22) (vi r21.2) (.slice A22 r21.1.length c22) (vi r21.2) (fun _ => by kernel_rfl) (T.nil (T.seq (T.region (T.p4 (.slice A20 x5.length c20) (.string r19.1) (.string r20.1) (vi r19.2) (fun _ => by kernel_rfl) ?_))))
    obtain ⟨r22, hb26, hY3⟩ := ob hY3
    refine T.step (W1.call (vSc eStr) r22 71 #[vi r19.2] (by kernel_rfl) (fun _ => by kernel_rfl) (fun w' hh => annalref_Dec_l r19.2 r22 hb26 w' ) ?_)
    intro u V28 hV28 hu
    obtain rfl := sureStr _ _ _ hu
    refine T.pk (vi r20.2) (fun _ => by kernel_rfl) ?_
    obtain ⟨r23, hb27, hY3⟩ := ob hY3
    refine T.step (W1.call (vSc eStr) r23 71 #[vi r20.2] (by kernel_rfl) (fun _ => by kernel_rfl) (fun w' hh => annalref_Dec_l r20.2 r23 hb27 w' ) ?_)
    intro u V29 hV29 hu
    obtain rfl := sureStr _ _ _ hu
    refine T.pk (vi r21.2) (fun _ => by kernel_rfl) ?_
    obtain ⟨r24, hb28, hY3⟩ := ob hY3
    refine T.step (W1.call (vSc eStr) r24 71 #[vi r21.2] (by kernel_rfl) (fun _ => by kernel_rfl) (fun w' hh => annalref_Dec_l r21.2 r24 hb28 w' ) ?_)
    intro u V30 hV30 hu
    obtain rfl := sureStr _ _ _ hu
    refine T.step (W1.new 9 [.string r19.1, .string r20.1, .string r22, .string r23, .string r24] (fun b => .slice (some ⟨b, 0, none⟩) 5 5) (by kernel_rfl) (fun _ => by kernel_rfl) (fun b7 => ?_))
    obtain ⟨y9, hb29, hY3⟩ := ob hY3
    obtain ⟨hb29_r, hb29_m, rfl⟩ := grow_some hb29
    obtain ⟨ti, hti, hz1, hz2, hz3⟩ := info_parts (P := Tryz.prog) (e := 9) (z := .string (ByteArray.mk #[])) (size := 1) (bytes := 16) (by kernel_rfl)
    refine T.step (W1.append (E := eStr) (l := x5) (m := [r19.1, r20.1, r22, r23, r24]) 1 _ _ 16 ti _ (by rfl) (by kernel_rfl) rfl (by kernel_rfl) hti hz1 hz2 hz3 rfl (by decide) rfl rfl (fun w' hh => (SlOk.srcF (slok_lit (E := eStr) (f := (fun x => [.string x])) [r19.1, r20.1, r22, r23, r24] (fun _ _ => rfl) (Nat.le_of_ble_eq_true (by rfl)) (fun j => hh.cellBox (i := 0) (by rfl) j)) (fun _ _ _ _ h => h))) hb29_r hb29_m (fun A23 c23 => ?_))
    refine T.pk (.slice A23 ((x5 ++ [r19.1, r20.1, r22, r23, r24]).length) c23) (fun _ => by kernel_rfl) (T.nil (T.region (T.p2 (.slice A23 ((x5 ++ [r19.1, r20.1, r22, r23, r24]).length) c23) (.slice A22 r21.1.length c22) (fun _ => by kernel_rfl) ?_)))
    obtain ⟨y10, hb30, hY3⟩ := ob hY3
    obtain ⟨hb30_r, hb30_m, rfl⟩ := grow_some hb30
    obtain ⟨ti, hti, hz1, hz2, hz3⟩ := info_parts (P := Tryz.prog) (e := 9) (z := .string (ByteArray.mk #[])) (size := 1) (bytes := 16) (by kernel_rfl)
    refine T.step (W1.append (E := eStr) (l := (x5 ++ [r19.1, r20.1, r22, r23, r24])) (m := r21.1) 1 _ _ 16 ti _ (by rfl) (by kernel_rfl) rfl (by kernel_rfl) hti hz1 hz2 hz3 rfl (by decide) rfl rfl (fun w' hh => (SlOk.srcF (SlOk.mono (SlOk.mono hs9 (vt (made_le _ _) (vt (vt hV28 hV29) hV30))) hh.view) (fun _ _ _ _ h => h))) hb30_r hb30_m (fun A24 c24 => ?_))
    refine T.pk (.slice A24 (((x5 ++ [r19.1, r20.1, r22, r23, r24]) ++ r21.1).length) c24) (fun _ => by kernel_rfl) (T.nil (T.region (T.p2 (vi (IntKind.i64.wrap (x6 + 1))) (vi (IntKind.i64.wrap (x6 + 1))) (fun _ => by kernel_rfl) (T.nil ?_))))
    cases hY3
    exact fun a w' hf hh => ⟨(((x5 ++ [r19.1, r20.1, r22, r23, r24]) ++ r21.1), IntKind.i64.wrap (x6 + 1)), rfl, ((x5 ++ [r19.1, r20.1, r22, r23, r24]) ++ r21.1), (IntKind.i64.wrap (x6 + 1)), rfl, A24, c24, V30, (vt (vt (vt (vt (vt (vt hV23 hV25) hV26) hV27) hV28) hV29) hV30), (Fr.sel hf rfl), (hh.sub (dr1 (kp4 (kp1 kp0))))⟩
   rw [hc4, cond_false] at hY3
   refine T.exit ?_
   cases hY3
   cases (hr3 _ rfl)
   exact fun a w' hf hh => ⟨A20, c20, V23, hV23, (Fr.sel hf rfl), (hh.sub (kp4 (kp1 kp0)))⟩
  rintro a w' ⟨A21, c21, V24, hV24, hf, hh⟩
  refine (?_ : T 59 w V24 ((row 9 eStr A21 c21 z10) :: t14_) [(7, .slice A21 z10.length c21)] _) a w' hf hh
  clear hf hh
  refine T.seq (T.region (T.p2 (.slice A21 z10.length c21) (.slice A21 z10.length c21) (fun _ => by kernel_rfl) (T.nil ?_)))
  cases hX4
  refine T.ret rfl ?_
  exact T.ret1 rfl (ResIs.tmp rfl) fun w' hh => ⟨_, rfl, ⟨A21, c21, V24, hV24, rfl, (hh.sub (kp4 (kp1 kp0)))⟩⟩
 rintro v w' ⟨A19, c19, V22, hV22, rfl, hh⟩
 refine ⟨V22, ((row 9 eStr A19 c19 z9) :: t14_), hh, ?_⟩
 clear hh
 let v48_ : List Value := [.slice A7 z5.length c7, .slice A13 z7.length c13, .slice A19 z9.length c19]
 refine T.step (W1.new 23 v48_ (fun b => .slice (some ⟨b, 0, none⟩) 3 3) (by kernel_rfl) (fun _ => by kernel_rfl) (fun b8 => ?_))
 refine T.pk (.slice (some ⟨b8, 0, none⟩) 3 3) (fun _ => by kernel_rfl) (T.nil (T.seq (T.seq (T.region (T.p4 (.slice A1 p0.length c1) (.slice A1 p0.length c1) (vi (p0.length : Int)) (vi (if (20 : Int) < (p0.length : Int) then 20 else (p0.length : Int))) (fun _ => by kernel_rfl) ?_)))))
 obtain ⟨s5, hb31, hF⟩ := ob hF
 refine T.look (.slice A1 s5.length c1) (by kernel_rfl) (fun w' hh => exec_slice_list0 (e := 55) (s := 1) (lx := none) (hx := (some _)) (k := .i64) (k' := .i64) rfl rfl (by kernel_rfl) (by kernel_rfl) ((SlOk.mono hs1 (vt (vt (vt hV1 hV4) hV13) hV22))).1 rfl rfl hb31) ?_
 refine T.p2 (vi (s5.length : Int)) (vi 0) (fun _ => by kernel_rfl) (T.nil ?_)
 let i20_ : HObj := box b8 23 v48_
 refine T.freezeF (E := eStr) (H' := (i20_ :: (row 9 eStr A19 c19 z9) :: (row 9 eStr A13 c13 z7) :: t5_)) 3 (by rfl) rfl (fun _ _ _ _ h => h) (fun V31 hV31 hs10 => ?_)
 refine T.freezeF (E := eStr) (H' := (i20_ :: (row 9 eStr A19 c19 z9) :: t5_)) 2 (by rfl) rfl (fun _ _ _ _ h => h) (fun V32 hV32 hs11 => ?_)
 refine T.freezeF (E := eStr) (H' := (i20_ :: t5_)) 1 (by rfl) rfl (fun _ _ _ _ h => h) (fun V33 hV33 hs12 => ?_)
 refine T.litrowM (E := (eAt w (eList eStr))) (l := [z5, z7, z9]) 0 _ (by rfl) (((rowrep_lit1 (E := (eAt w (eList eStr))) (x := z5) ⟨A7, c7, rfl, (SlOk.mono hs10 (made_mono (vt hV32 hV33)))⟩).append (rowrep_lit1 (E := (eAt w (eList eStr))) (x := z7) ⟨A13, c13, rfl, (SlOk.mono hs11 (made_mono hV33))⟩)).append (rowrep_lit1 (E := (eAt w (eList eStr))) (x := z9) ⟨A19, c19, rfl, (SlOk.mono hs12 (made_mono vr))⟩)) (Nat.succ_pos _) (Nat.le_of_ble_eq_true (by rfl)) rfl ?_
 refine T.reH (H' := ((row 23 (eAt w (eList eStr)) (some ⟨b8, 0, none⟩) ([z5, z7, z9].length) [z5, z7, z9]) :: t5_)) (by rfl) ?_
 obtain ⟨q2, hz4, hF⟩ := ob hF
 refine T.mid (fun a w' => q2 = Sum.inl () ∧ ∃ (V35 : View), View.le V33 V35 ∧ Fr 100 [] a ∧ Hp w V35 [] w') ?_ ?_
 ·
  refine T.block ?_
  refine T.iter (fun s6 a w' => ∃ (x7 : List (List ByteArray)) (x8 : List DElem) (x9 : Int) (x10 : Int) (x11 : Int), s6 = (x7, x8, x9, x10, x11) ∧ ∃ (A25 : Option Addr) (c25 : Nat) (A26 : Option Addr) (c26 : Nat) (A27 : Option Addr) (c27 : Nat) (V34 : View), View.le V33 V34 ∧ SlOk V34 eElem A26 c26 x8 ∧ SlOk V34 (eList eInt) A27 c27 s5 ∧ Fr 100 [(1, .slice A6 (([(ByteArray.mk #[47]), (ByteArray.mk #[47, 97])] ++ s1).length) c6), (2, .slice A3 p2.length c3), (7, pB b3 0), (8, .slice A25 x7.length c25), (47, .slice A27 s5.length c27), (48, vi (s5.length : Int)), (49, vi x11)] a ∧ Hp w V34 ((row 23 (eAt w (eList eStr)) A25 c25 x7) :: i4_ :: (box b3 78 [.slice A26 x8.length c26, vi x9, vi x10]) :: []) w') hz4 ?_ ?_
  ·
   exact fun a w' hf hh => ⟨[z5, z7, z9], z1, z2, z3, 0, rfl, (some ⟨b8, 0, none⟩), ([z5, z7, z9].length), A4, c4, A1, c1, V33, vr, (SlOk.mono hs4 (vt (vt (vt (vt (vt hV4 hV13) hV22) hV31) hV32) hV33)), (SlOk.cut0 (SlOk.mono hs1 (vt (vt (vt (vt (vt (vt hV1 hV4) hV13) hV22) hV31) hV32) hV33)) hb31), (Fr.sel hf rfl), (hh.sub (kp2 (kp1 kp0)))⟩
  rintro s6 y11 hY4 hr4 a w' ⟨x7, x8, x9, x10, x11, rfl, A25, c25, A26, c26, A27, c27, V34, hV34, hs13, hs14, hf, hh⟩
  let i21_ : HObj := row 23 (eAt w (eList eStr)) A25 c25 x7
  refine (?_ : T 100 w V34 (i21_ :: i4_ :: (box b3 78 [.slice A26 x8.length c26, vi x9, vi x10]) :: []) [(1, .slice A6 (([(ByteArray.mk #[47]), (ByteArray.mk #[47, 97])] ++ s1).length) c6), (2, .slice A3 p2.length c3), (7, pB b3 0), (8, .slice A25 x7.length c25), (47, .slice A27 s5.length c27), (48, vi (s5.length : Int)), (49, vi x11)] _) a w' hf hh
  clear hf hh
  try dsimp only at hY4
  refine T.seq (T.region (T.pk (.bool (decide (x11 < (s5.length : Int)))) (fun _ => by kernel_rfl) (T.nil (T.seq ?_))))
  refine T.cond (decide (x11 < (s5.length : Int))) (by kernel_rfl) (by kernel_rfl) (fun hc5 => ?_) (fun hc5 => ?_)
  ·
   rw [hc5, cond_true] at hY4
   refine T.skip_code ?_
   refine T.seq (T.block (T.seq (T.region ?_)))
   obtain ⟨e4, hb32, hY4⟩ := ob hY4
   obtain ⟨hi10, hi11, hi12⟩ := idx_some hb32
   obtain ⟨cs1, hr5, hc6⟩ := SlOk.elem hs14 hi12
   obtain ⟨A28, c28, rfl, hs15⟩ := hr5
   refine T.look (.pointer (some ((sadr A27).add (x11.toNat * 1)))) (by kernel_rfl) (fun w' hh => exec_indexAddr (e := 55) (s := 1) rfl rfl rfl (by kernel_rfl) (by kernel_rfl) hi10 hi11 (hs14.some_ hi12 (by decide))) ?_
   refine T.look (.slice A28 e4.length c28) (by kernel_rfl) (fun w' hh => exec_load1 rfl rfl (by kernel_rfl) (hh.cell_view (View.cell_mono vr (hc6 0 _ rfl).2))) ?_
   refine T.pk (.slice A28 e4.length c28) (fun _ => by kernel_rfl) (T.nil (T.seq (T.region (T.p4 (pB b3 0) (.slice A28 e4.length c28) (.slice A6 (([(ByteArray.mk #[47]), (ByteArray.mk #[47, 97])] ++ s1).length) c6) (.slice A3 p2.length c3) (fun _ => by kernel_rfl) ?_))))
   obtain ⟨r26, hb33, hY4⟩ := ob hY4
   refine T.step (W1.callI 36 [pB b3 0, .slice A28 e4.length c28, .slice A6 (([(ByteArray.mk #[47]), (ByteArray.mk #[47, 97])] ++ s1).length) c6, .slice A3 p2.length c3] (fun v w' => ∃ (A29 : Option Addr) (c29 : Nat) (V36 : View), View.le V34 V36 ∧ SlOk V36 eElem A29 c29 r26.1 ∧ v = vi r26.2.2.2 ∧ Hp w V36 ((box b3 78 [.slice A29 r26.1.length c29, vi r26.2.1, vi r26.2.2.1]) :: i4_ :: i21_ :: []) w') (by kernel_rfl) (fun _ => by kernel_rfl) (fun w' hh => annalkeep_act_fr1_l F x8 x9 x10 e4 ([(ByteArray.mk #[47]), (ByteArray.mk #[47, 97])] ++ s1) p2 r26 hb33 w hGl b3 A26 c26 A28 c28 A6 c6 A3 c3 V34 (i21_ :: []) w' hs13 hs15 (SlOk.mono hs3 (vt (vt (vt (vt (vt (vt (vt hV1 hV4) hV13) hV22) hV31) hV32) hV33) hV34)) (hh.ix 3 [2, 1, 0])) ?_)
   rintro v w' ⟨A29, c29, V36, hV36, hs16, rfl, hh⟩
   let i22_ : HObj := box b3 78 [.slice A29 r26.1.length c29, vi r26.2.1, vi r26.2.2.1]
   let t23_ : List HObj := i4_ :: i22_ :: []
   let t24_ : List HObj := i21_ :: t23_
   refine ⟨V36, t24_, hh.ix 3 [2, 1, 0], ?_⟩
   clear hh
   refine T.pk (vi r26.2.2.2) (fun _ => by kernel_rfl) (T.nil (T.seq ?_))
   refine T.cut (fun a w' => Fr 100 [(1, .slice A6 (([(ByteArray.mk #[47]), (ByteArray.mk #[47, 97])] ++ s1).length) c6), (2, .slice A3 p2.length c3), (7, pB b3 0), (8, .slice A25 x7.length c25), (11, vi r26.2.2.2), (47, .slice A27 s5.length c27), (48, vi (s5.length : Int)), (49, vi x11), (72, .bool ((!((r26.2.2.2 == 0) == (r26.2.1 == (x7.length : Int)))) || (decide ((x7.length : Int) < r26.2.1))))] a ∧ Hp w V36 t24_ w') ?_ ?_
   ·
    refine T.region (T.p3 (vi r26.2.2.2) (.bool (r26.2.2.2 == 0)) (pB b3 0) (fun _ => by kernel_rfl) (T.step (W1.within 21 [pB b3 0] (fun v w' => v = vi r26.2.1 ∧ Hp w V36 t24_ w') Tryz.func21 rfl rfl (by kernel_rfl) (fun _ => by kernel_rfl) rfl ?_ ?_)))
    ·
     refine T.seq (T.region (T.pk (vi 0) (fun _ => by kernel_rfl) (T.nil (T.seq (T.region (T.p3 (pB b3 0) (pB b3 0) (pB b3 1) (fun _ => by kernel_rfl) (T.look (vi r26.2.1) (by kernel_rfl) (ld1 2 rfl rfl (fun _ => by kernel_rfl) (by rfl) rfl) ?_)))))))
     refine T.pk (vi r26.2.1) (fun _ => by kernel_rfl) (T.nil ?_)
     refine T.ret rfl ?_
     exact T.ret1 rfl (ResIs.tmp rfl) fun w' hh => ⟨_, rfl, ⟨rfl, (hh.sub (kp2 (kp1 kp0)))⟩⟩
    rintro v w' ⟨rfl, hh⟩
    refine ⟨V36, t24_, hh, ?_⟩
    clear hh
    refine T.p5 (.slice A25 x7.length c25) (vi (x7.length : Int)) (.bool (r26.2.1 == (x7.length : Int))) (.bool (!((r26.2.2.2 == 0) == (r26.2.1 == (x7.length : Int))))) (.bool (!((r26.2.2.2 == 0) == (r26.2.1 == (x7.length : Int))))) (fun _ => by kernel_rfl) ?_
    cases hg2 : (!((r26.2.2.2 == 0) == (r26.2.1 == (x7.length : Int))))
    ·
     skip
     refine T.pk (pB b3 0) (fun _ => by kernel_rfl) (T.step (W1.within 21 [pB b3 0] (fun v w' => v = vi r26.2.1 ∧ Hp w V36 t24_ w') Tryz.func21 rfl rfl (by kernel_rfl) (fun _ => by kernel_rfl) rfl ?_ ?_))
     ·
      refine T.seq (T.region (T.pk (vi 0) (fun _ => by kernel_rfl) (T.nil (T.seq (T.region (T.p3 (pB b3 0) (pB b3 0) (pB b3 1) (fun _ => by kernel_rfl) (T.look (vi r26.2.1) (by kernel_rfl) (ld1 2 rfl rfl (fun _ => by kernel_rfl) (by rfl) rfl) ?_)))))))
      refine T.pk (vi r26.2.1) (fun _ => by kernel_rfl) (T.nil ?_)
      refine T.ret rfl ?_
      exact T.ret1 rfl (ResIs.tmp rfl) fun w' hh => ⟨_, rfl, ⟨rfl, (hh.sub (kp2 (kp1 kp0)))⟩⟩
     rintro v w' ⟨rfl, hh⟩
     refine ⟨V36, t24_, hh, ?_⟩
     clear hh
     refine T.p4 (.slice A25 x7.length c25) (vi (x7.length : Int)) (.bool (decide ((x7.length : Int) < r26.2.1))) (.bool (decide ((x7.length : Int) < r26.2.1))) (fun _ => by kernel_rfl) (T.nil ?_)
     exact fun a w' hf hh => ⟨(Fr.sel hf rfl), (hh.sub (kp2 (kp1 kp0)))⟩
    skip
    refine T.pass (by kernel_rfl) (by kernel_rfl) (T.pass (by kernel_rfl) (by kernel_rfl) (T.pass (by kernel_rfl) (by kernel_rfl) (T.pass (by kernel_rfl) (by kernel_rfl) (T.pass (by kernel_rfl) (by kernel_rfl) (T.pk (.bool true) (fun _ => by kernel_rfl) (T.nil ?_))))))
    exact fun a w' hf hh => ⟨(Fr.sel hf rfl), (hh.sub (kp2 (kp1 kp0)))⟩
   rintro a w' ⟨hf, hh⟩
   refine (?_ : T 100 w V36 t24_ [(1, .slice A6 (([(ByteArray.mk #[47]), (ByteArray.mk #[47, 97])] ++ s1).length) c6), (2, .slice A3 p2.length c3), (7, pB b3 0), (8, .slice A25 x7.length c25), (11, vi r26.2.2.2), (47, .slice A27 s5.length c27), (48, vi (s5.length : Int)), (49, vi x11), (72, .bool ((!((r26.2.2.2 == 0) == (r26.2.1 == (x7.length : Int)))) || (decide ((x7.length : Int) < r26.2.1))))] _) a w' hf hh
   clear hf hh
   refine T.cond ((!((r26.2.2.2 == 0) == (r26.2.1 == (x7.length : Int)))) || (decide ((x7.length : Int) < r26.2.1))) (by kernel_rfl) (by kernel_rfl) (fun hc7 => ?_) (fun hc7 => ?_)
   ·
    rw [hc7, cond_true] at hY4
    refine T.seq (T.region (T.pk (.bool false) (fun _ => by kernel_rfl) (T.nil ?_)))
    cases hY4
    cases (hr4 _ rfl)
    try dsimp only at hF
    cases hF
    refine T.ret rfl ?_
    exact T.ret1 rfl (ResIs.tmp rfl) fun w' hh => ⟨_, rfl, hh.below, (show _ from rfl)⟩
   rw [hc7, cond_false] at hY4
   refine T.skip_code ?_
   obtain ⟨z11, hX5, hY4⟩ := ob hY4
   refine T.cut (fun a w' => ∃ (A30 : Option Addr) (c30 : Nat) (V37 : View), View.le V36 V37 ∧ Fr 100 [(1, .slice A6 (([(ByteArray.mk #[47]), (ByteArray.mk #[47, 97])] ++ s1).length) c6), (2, .slice A3 p2.length c3), (7, pB b3 0), (8, .slice A30 z11.length c30), (47, .slice A27 s5.length c27), (48, vi (s5.length : Int)), (49, vi x11)] a ∧ Hp w V37 ((row 23 (eAt w (eList eStr)) A30 c30 z11) :: t23_) w') ?_ ?_
   ·
    refine T.seq (T.region (T.p2 (vi r26.2.2.2) (.bool (r26.2.2.2 == 0)) (fun _ => by kernel_rfl) (T.nil ?_)))
    refine T.cond (r26.2.2.2 == 0) (by kernel_rfl) (by kernel_rfl) (fun hc8 => ?_) (fun hc8 => ?_)
    ·
     rw [hc8, cond_true] at hX5
     refine T.region (T.p4 (.slice A25 x7.length c25) (pB b3 0) (.slice A6 (([(ByteArray.mk #[47]), (ByteArray.mk #[47, 97])] ++ s1).length) c6) (pB b3 0) (fun _ => by kernel_rfl) (T.step (W1.within 21 [pB b3 0] (fun v w' => v = vi r26.2.1 ∧ Hp w V36 t24_ w') Tryz.func21 rfl rfl (by kernel_rfl) (fun _ => by kernel_rfl) rfl ?_ ?_)))
     ·
      refine T.seq (T.region (T.pk (vi 0) (fun _ => by kernel_rfl) (T.nil (T.seq (T.region (T.p3 (pB b3 0) (pB b3 0) (pB b3 1) (fun _ => by kernel_rfl) (T.look (vi r26.2.1) (by kernel_rfl) (ld1 2 rfl rfl (fun _ => by kernel_rfl) (by rfl) rfl) ?_)))))))
      refine T.pk (vi r26.2.1) (fun _ => by kernel_rfl) (T.nil ?_)
      refine T.ret rfl ?_
      exact T.ret1 rfl (ResIs.tmp rfl) fun w' hh => ⟨_, rfl, ⟨rfl, (hh.sub (kp2 (kp1 kp0)))⟩⟩
     rintro v w' ⟨rfl, hh⟩
     refine ⟨V36, t24_, hh, ?_⟩
     clear hh
     obtain ⟨z12, hX6, hX5⟩ := ob hX5
     refine T.step (W1.within 35 [pB b3 0, .slice A6 (([(ByteArray.mk #[47]), (ByteArray.mk #[47, 97])] ++ s1).length) c6, vi r26.2.1] (fun v w' => ∃ (A31 : Option Addr) (c31 : Nat) (V38 : View), View.le V36 V38 ∧ v = .slice A31 z12.length c31 ∧ Hp w V38 ((row 9 eStr A31 c31 z12) :: t24_) w') Tryz.func35 rfl rfl (by kernel_rfl) (fun _ => by kernel_rfl) rfl ?_ ?_)
     ·
      refine T.seq (T.region (T.pk sN (fun _ => by kernel_rfl) (T.nil (T.seq (T.region (T.pk sN (fun _ => by kernel_rfl) (T.nil (T.seq (T.seq (T.region (T.p3 (.slice A6 (([(ByteArray.mk #[47]), (ByteArray.mk #[47, 97])] ++ s1).length) c6) (vi (([(ByteArray.mk #[47]), (ByteArray.mk #[47, 97])] ++ s1).length : Int)) (vi 0) (fun _ => by kernel_rfl) (T.nil ?_))))))))))))
      refine T.rownil 9 eStr ?_
      obtain ⟨z13, hz5, hX6⟩ := ob hX6
      refine T.mid (fun a w' => ∃ (A33 : Option Addr) (c33 : Nat) (V40 : View), View.le V36 V40 ∧ Fr 59 [(7, .slice A33 z13.length c33)] a ∧ Hp w V40 ((row 9 eStr A33 c33 z13) :: t24_) w') ?_ ?_
      ·
       refine T.block ?_
       refine T.iter (fun s7 a w' => ∃ (x12 : List ByteArray) (x13 : Int), s7 = (x12, x13) ∧ ∃ (A32 : Option Addr) (c32 : Nat) (V39 : View), View.le V36 V39 ∧ Fr 59 [(0, pB b3 0), (2, vi r26.2.1), (7, .slice A32 x12.length c32), (16, .slice A6 (([(ByteArray.mk #[47]), (ByteArray.mk #[47, 97])] ++ s1).length) c6), (17, vi (([(ByteArray.mk #[47]), (ByteArray.mk #[47, 97])] ++ s1).length : Int)), (18, vi x13)] a ∧ Hp w V39 ((row 9 eStr A32 c32 x12) :: t24_) w') hz5 ?_ ?_
       ·
        exact fun a w' hf hh => ⟨[], 0, rfl, none, 0, V36, vr, (Fr.sel hf rfl), (hh.sub (kp3 (kp1 kp0)))⟩
       rintro s7 y12 hY5 hr6 a w' ⟨x12, x13, rfl, A32, c32, V39, hV39, hf, hh⟩
       let t25_ : List HObj := (row 9 eStr A32 c32 x12) :: t24_
       refine (?_ : T 59 w V39 t25_ [(0, pB b3 0), (2, vi r26.2.1), (7, .slice A32 x12.length c32), (16, .slice A6 (([(ByteArray.mk #[47]), (ByteArray.mk #[47, 97])] ++ s1).length) c6), (17, vi (([(ByteArray.mk #[47]), (ByteArray.mk #[47, 97])] ++ s1).length : Int)), (18, vi x13)] _) a w' hf hh
       clear hf hh
       try dsimp only at hY5
       refine T.seq (T.region (T.pk (.bool (decide (x13 < (([(ByteArray.mk #[47]), (ByteArray.mk #[47, 97])] ++ s1).length : Int)))) (fun _ => by kernel_rfl) (T.nil (T.seq ?_))))
       refine T.cond (decide (x13 < (([(ByteArray.mk #[47]), (ByteArray.mk #[47, 97])] ++ s1).length : Int))) (by kernel_rfl) (by kernel_rfl) (fun hc9 => ?_) (fun hc9 => ?_)
       ·
        rw [hc9, cond_true] at hY5
        refine T.skip_code ?_
        refine T.seq (T.block (T.seq (T.region ?_)))
        obtain ⟨e5, hb34, hY5⟩ := ob hY5
        obtain ⟨hi13, hi14, hi15⟩ := idx_some hb34
        refine T.look (.pointer (some ((sadr A6).add (x13.toNat * 1)))) (by kernel_rfl) (ixR 2 (e := 9) (s := 1) rfl rfl rfl (fun _ => by kernel_rfl) hi13 hi14 (by rfl) hi15 (by decide)) ?_
        refine T.look (.string e5) (by kernel_rfl) (fun w' hh => exec_load1 rfl rfl (by kernel_rfl) (SlOk.wcellF0 (E := eStr) (hh.row_slOk (i := 2) (by rfl)) hi15 (fun _ _ _ h => h) rfl)) ?_
        refine T.pk (.string e5) (fun _ => by kernel_rfl) (T.nil (T.seq (T.region (T.p3 (pB b3 0) (.string e5) (vi r26.2.1) (fun _ => by kernel_rfl) ?_))))
        obtain ⟨r28, hb35, hY5⟩ := ob hY5
        let t26_ : List HObj := i21_ :: i4_ :: []
        let t27_ : List HObj := (row 9 eStr A32 c32 x12) :: t26_
        let t28_ : List HObj := i22_ :: t27_
        let v49_ : List Value := [pB b3 0, .string e5, vi r26.2.1]
        refine T.step (W1.callI 20 v49_ (fun v w' => ∃ (V41 : View), View.le V39 V41 ∧ v = .tuple #[.string r28.1, vi r28.2] ∧ Hp w V41 t28_ w') (by kernel_rfl) (fun _ => by kernel_rfl) (fun w' hh => fs_FS_Kind_fr_l F r26.1 r26.2.1 r26.2.2.1 e5 r26.2.1 r28 hb35 w hGl b3 A29 c29 V39 t27_ w' (SlOk.mono hs16 hV39) (hh.ix 4 [3, 0, 1, 2])) ?_)
        rintro v w' ⟨V41, hV41, rfl, hh⟩
        refine ⟨V41, t25_, hh.ix 4 [1, 2, 3, 0], ?_⟩
        clear hh
        refine T.p5 (.tuple #[.string r28.1, vi r28.2]) (.string r28.1) (vi r28.2) (.string r28.1) (vi r28.2) (fun _ => by kernel_rfl) (T.nil (T.seq (T.region (T.p3 (pB b3 0) (.string e5) (vi r26.2.1) (fun _ => by kernel_rfl) ?_))))
        obtain ⟨r29, hb36, hY5⟩ := ob hY5
        refine T.step (W1.callI 25 v49_ (fun v w' => ∃ (V42 : View), View.le V41 V42 ∧ v = .tuple #[.string r29.1, vi r29.2] ∧ Hp w V42 t28_ w') (by kernel_rfl) (fun _ => by kernel_rfl) (fun w' hh => fs_FS_Read_fr_l F r26.1 r26.2.1 r26.2.2.1 e5 r26.2.1 r29 hb36 w hGl b3 A29 c29 V41 t27_ w' (SlOk.mono hs16 (vt hV39 hV41)) (hh.ix 4 [3, 0, 1, 2])) ?_)
        rintro v w' ⟨V42, hV42, rfl, hh⟩
        refine ⟨V42, t25_, hh.ix 4 [1, 2, 3, 0], ?_⟩
        clear hh
        refine T.p5 (.tuple #[.string r29.1, vi r29.2]) (.string r29.1) (vi r29.2) (.string r29.1) (vi r29.2) (fun _ => by kernel_rfl) (T.nil (T.seq (T.region (T.p3 (pB b3 0) (.string e5) (vi r26.2.1) (fun _ => by kernel_rfl) ?_))))
        obtain ⟨r30, hb37, hY5⟩ := ob hY5
        refine T.step (W1.callI 34 v49_ (fun v w' => ∃ (A34 : Option Addr) (c34 : Nat) (V43 : View), View.le V42 V43 ∧ SlOk (made w V43) eStr A34 c34 r30.1 ∧ v = .tuple #[.slice A34 r30.1.length c34, vi r30.2] ∧ Hp w V43 t28_ w') (by kernel_rfl) (fun _ => by kernel_rfl) (fun w' hh => fs_FS_List_fr_l F r26.1 r26.2.1 r26.2.2.1 e5 r26.2.1 r30 hb37 w hGl b3 A29 c29 V42 t27_ w' (SlOk.mono hs16 (vt (vt hV39 hV41) hV42)) (hh.ix 4 [3, 0, 1, 2])) ?_)
        rintro v w' ⟨A34, c34, V43, hV43, hs17, rfl, hh⟩
        refine ⟨V43, t25_, hh.ix 4 [1, 2, 3, 0], ?_⟩
        clear hh
        refine T.p5 (.tuple #[.slice A34 r30.1.length c34, vi r30.2]) (.slice A34 r30.1.length c34) (vi r30.2) (.slice A34 r30.1.length c34) (vi r30.2) (fun _ => by kernel_rfl) (T.nil (T.seq (T.region (T.p4 (.slice A32 x12.length c32) (.string r28.1) (.string r29.1) (vi r28.2) (fun _ => by kernel_rfl) ?_))))
        obtain ⟨r31, hb38, hY5⟩ := ob hY5
        refine T.step (W1.call (vSc eStr) r31 71 #[vi r28.2] (by kernel_rfl) (fun _ => by kernel_rfl) (fun w' hh => annalref_Dec_l r28.2 r31 hb38 w' ) ?_)
        intro u V44 hV44 hu
        obtain rfl := sureStr _ _ _ hu
        refine T.pk (vi r29.2) (fun _ => by kernel_rfl) ?_
        obtain ⟨r32, hb39, hY5⟩ := ob hY5
        refine T.step (W1.call (vSc eStr) r32 71 #[vi r29.2] (by kernel_rfl) (fun _ => by kernel_rfl) (fun w' hh => annalref_Dec_l r29.2 r32 hb39 w' ) ?_)
        intro u V45 hV45 hu
        obtain rfl := sureStr _ _ _ hu
        refine T.pk (vi r30.2) (fun _ => by kernel_rfl) ?_
        obtain ⟨r33, hb40, hY5⟩ := ob hY5
        refine T.step (W1.call (vSc eStr) r33 71 #[vi r30.2] (by kernel_rfl) (fun _ => by kernel_rfl) (fun w' hh => annalref_Dec_l r30.2 r33 hb40 w' ) ?_)
        intro u V46 hV46 hu
        obtain rfl := sureStr _ _ _ hu
        refine T.step (W1.new 9 [.string r28.1, .string r29.1, .string r31, .string r32, .string r33] (fun b => .slice (some ⟨b, 0, none⟩) 5 5) (by kernel_rfl) (fun _ => by kernel_rfl) (fun b9 => ?_))
        obtain ⟨y13, hb41, hY5⟩ := ob hY5
        obtain ⟨hb41_r, hb41_m, rfl⟩ := grow_some hb41
        obtain ⟨ti, hti, hz1, hz2, hz3⟩ := info_parts (P := Tryz.prog) (e := 9) (z := .string (ByteArray.mk #[])) (size := 1) (bytes := 16) (by kernel_rfl)
        refine T.step (W1.append (E := eStr) (l := x12) (m := [r28.1, r29.1, r31, r32, r33]) 1 _ _ 16 ti _ (by rfl) (by kernel_rfl) rfl (by kernel_rfl) hti hz1 hz2 hz3 rfl (by decide) rfl rfl (fun w' hh => (SlOk.srcF (slok_lit (E := eStr) (f := (fun x => [.string x])) [r28.1, r29.1, r31, r32, r33] (fun _ _ => rfl) (Nat.le_of_ble_eq_true (by rfl)) (fun j => hh.cellBox (i := 0) (by rfl) j)) (fun _ _ _ _ h => h))) hb41_r hb41_m (fun A35 c35 => ?_))
        refine T.pk (.slice A35 ((x12 ++ [r28.1, r29.1, r31, r32, r33]).length) c35) (fun _ => by kernel_rfl) (T.nil (T.region (T.p2 (.slice A35 ((x12 ++ [r28.1, r29.1, r31, r32, r33]).length) c35) (.slice A34 r30.1.length c34) (fun _ => by kernel_rfl) ?_)))
        obtain ⟨y14, hb42, hY5⟩ := ob hY5
        obtain ⟨hb42_r, hb42_m, rfl⟩ := grow_some hb42
        obtain ⟨ti, hti, hz1, hz2, hz3⟩ := info_parts (P := Tryz.prog) (e := 9) (z := .string (ByteArray.mk #[])) (size := 1) (bytes := 16) (by kernel_rfl)
        refine T.step (W1.append (E := eStr) (l := (x12 ++ [r28.1, r29.1, r31, r32, r33])) (m := r30.1) 1 _ _ 16 ti _ (by rfl) (by kernel_rfl) rfl (by kernel_rfl) hti hz1 hz2 hz3 rfl (by decide) rfl rfl (fun w' hh => (SlOk.srcF (SlOk.mono (SlOk.mono hs17 (vt (made_le _ _) (vt (vt hV44 hV45) hV46))) hh.view) (fun _ _ _ _ h => h))) hb42_r hb42_m (fun A36 c36 => ?_))
        refine T.pk (.slice A36 (((x12 ++ [r28.1, r29.1, r31, r32, r33]) ++ r30.1).length) c36) (fun _ => by kernel_rfl) (T.nil (T.region (T.p2 (vi (IntKind.i64.wrap (x13 + 1))) (vi (IntKind.i64.wrap (x13 + 1))) (fun _ => by kernel_rfl) (T.nil ?_))))
        cases hY5
        exact fun a w' hf hh => ⟨(((x12 ++ [r28.1, r29.1, r31, r32, r33]) ++ r30.1), IntKind.i64.wrap (x13 + 1)), rfl, ((x12 ++ [r28.1, r29.1, r31, r32, r33]) ++ r30.1), (IntKind.i64.wrap (x13 + 1)), rfl, A36, c36, V46, (vt (vt (vt (vt (vt (vt hV39 hV41) hV42) hV43) hV44) hV45) hV46), (Fr.sel hf rfl), (hh.sub (dr1 (kp3 (kp1 kp0))))⟩
       rw [hc9, cond_false] at hY5
       refine T.exit ?_
       cases hY5
       cases (hr6 _ rfl)
       exact fun a w' hf hh => ⟨A32, c32, V39, hV39, (Fr.sel hf rfl), (hh.sub (kp3 (kp1 kp0)))⟩
      rintro a w' ⟨A33, c33, V40, hV40, hf, hh⟩
      refine (?_ : T 59 w V40 ((row 9 eStr A33 c33 z13) :: t24_) [(7, .slice A33 z13.length c33)] _) a w' hf hh
      clear hf hh
      refine T.seq (T.region (T.p2 (.slice A33 z13.length c33) (.slice A33 z13.length c33) (fun _ => by kernel_rfl) (T.nil ?_)))
      cases hX6
      refine T.ret rfl ?_
      exact T.ret1 rfl (ResIs.tmp rfl) fun w' hh => ⟨_, rfl, ⟨A33, c33, V40, hV40, rfl, (hh.sub (kp3 (kp1 kp0)))⟩⟩
     rintro v w' ⟨A31, c31, V38, hV38, rfl, hh⟩
     refine ⟨V38, ((row 9 eStr A31 c31 z12) :: t24_), hh, ?_⟩
     clear hh
     refine T.step (W1.ns 23 [.slice A31 z12.length c31] (fun _ => by kernel_rfl) (fun b10 => ?_))
     refine T.freezeF (E := eStr) (H' := ((box b10 23 [.slice A31 z12.length c31]) :: t24_)) 1 (by rfl) rfl (fun _ _ _ _ h => h) (fun V47 hV47 hs18 => ?_)
     obtain ⟨y15, hb43, hX5⟩ := ob hX5
     obtain ⟨hb43_r, hb43_m, rfl⟩ := grow_some hb43
     obtain ⟨ti, hti, hz1, hz2, hz3⟩ := info_parts (P := Tryz.prog) (e := 23) (z := sN) (size := 1) (bytes := 24) (by kernel_rfl)
     refine T.step (W1.append (E := (eAt w (eList eStr))) (l := x7) (m := [z12]) 1 _ _ 24 ti _ (by rfl) (by kernel_rfl) rfl (by kernel_rfl) hti hz1 hz2 hz3 rfl (Nat.le_of_ble_eq_true rfl) rfl rfl (fun w' hh => (src_one (E := (eAt w (eList eStr))) hh (i := 0) (by rfl) ⟨A31, c31, rfl, (SlOk.mono hs18 (made_mono vr))⟩)) hb43_r hb43_m (fun A37 c37 => ?_))
     refine T.pk (.slice A37 ((x7 ++ [z12]).length) c37) (fun _ => by kernel_rfl) (T.nil ?_)
     cases hX5
     exact fun a w' hf hh => ⟨A37, c37, V47, (vt hV38 hV47), (Fr.sel hf rfl), (hh.sub (dr1 (kp2 (kp1 kp0))))⟩
    rw [hc8, cond_false] at hX5
    refine T.skip_code ?_
    cases hX5
    exact fun a w' hf hh => ⟨A25, c25, V36, vr, (Fr.sel hf rfl), (hh.sub (kp2 (kp1 kp0)))⟩
   rintro a w' ⟨A30, c30, V37, hV37, hf, hh⟩
   let i29_ : HObj := row 23 (eAt w (eList eStr)) A30 c30 z11
   let t30_ : List HObj := i29_ :: t23_
   refine (?_ : T 100 w V37 t30_ [(1, .slice A6 (([(ByteArray.mk #[47]), (ByteArray.mk #[47, 97])] ++ s1).length) c6), (2, .slice A3 p2.length c3), (7, pB b3 0), (8, .slice A30 z11.length c30), (47, .slice A27 s5.length c27), (48, vi (s5.length : Int)), (49, vi x11)] _) a w' hf hh
   clear hf hh
   refine T.seq (T.region (T.p3 (.slice A30 z11.length c30) (vi (z11.length : Int)) (vi 0) (fun _ => by kernel_rfl) (T.nil ?_)))
   obtain ⟨q3, hz6, hY4⟩ := ob hY4
   refine T.mid (fun a w' => q3 = Sum.inl () ∧ ∃ (V49 : View), View.le V37 V49 ∧ Fr 100 [(1, .slice A6 (([(ByteArray.mk #[47]), (ByteArray.mk #[47, 97])] ++ s1).length) c6), (2, .slice A3 p2.length c3), (7, pB b3 0), (8, .slice A30 z11.length c30), (47, .slice A27 s5.length c27), (48, vi (s5.length : Int)), (49, vi x11)] a ∧ Hp w V49 t30_ w') ?_ ?_
   ·
    refine T.block ?_
    refine T.iter (fun x14 a w' => ∃ (V48 : View), View.le V37 V48 ∧ Fr 100 [(1, .slice A6 (([(ByteArray.mk #[47]), (ByteArray.mk #[47, 97])] ++ s1).length) c6), (2, .slice A3 p2.length c3), (7, pB b3 0), (8, .slice A30 z11.length c30), (47, .slice A27 s5.length c27), (48, vi (s5.length : Int)), (49, vi x11), (84, vi (z11.length : Int)), (85, vi x14)] a ∧ Hp w V48 t30_ w') hz6 ?_ ?_
    ·
     exact fun a w' hf hh => ⟨V37, vr, (Fr.sel hf rfl), (hh.sub (kp2 (kp1 kp0)))⟩
    rintro x14 y16 hY6 hr7 a w' ⟨V48, hV48, hf, hh⟩
    refine (?_ : T 100 w V48 t30_ [(1, .slice A6 (([(ByteArray.mk #[47]), (ByteArray.mk #[47, 97])] ++ s1).length) c6), (2, .slice A3 p2.length c3), (7, pB b3 0), (8, .slice A30 z11.length c30), (47, .slice A27 s5.length c27), (48, vi (s5.length : Int)), (49, vi x11), (84, vi (z11.length : Int)), (85, vi x14)] _) a w' hf hh
    clear hf hh
    try dsimp only at hY6
    refine T.seq (T.region (T.pk (.bool (decide (x14 < (z11.length : Int)))) (fun _ => by kernel_rfl) (T.nil (T.seq ?_))))
    refine T.cond (decide (x14 < (z11.length : Int))) (by kernel_rfl) (by kernel_rfl) (fun hc10 => ?_) (fun hc10 => ?_)
    ·
     rw [hc10, cond_true] at hY6
     refine T.skip_code ?_
     refine T.seq (T.block (T.seq (T.region (T.p2 (vi x14) (vi x14) (fun _ => by kernel_rfl) (T.nil (T.seq ?_))))))
     obtain ⟨z14, hX7, hY6⟩ := ob hY6
     obtain ⟨e7, hb53, hY6⟩ := ob hY6
     obtain ⟨r41, hb54, hY6⟩ := ob hY6
     refine T.mid (fun a w' => ∃ (V60 : View), View.le V48 V60 ∧ Fr 100 [(1, .slice A6 (([(ByteArray.mk #[47]), (ByteArray.mk #[47, 97])] ++ s1).length) c6), (2, .slice A3 p2.length c3), (7, pB b3 0), (8, .slice A30 z11.length c30), (47, .slice A27 s5.length c27), (48, vi (s5.length : Int)), (49, vi x11), (84, vi (z11.length : Int)), (85, vi x14), (97, .bool (!r41))] a ∧ Hp w V60 t30_ w') ?_ ?_
     ·
      refine T.held (i4_ :: []) (by kernel_rfl) ?_
      have w53_ := vt (vt (vt (vt (vt (vt (vt (vt (vt (vt hV1 hV4) hV13) hV22) hV31) hV32) hV33) hV34) hV36) hV37) hV48
      refine TA.keep (Hp.old vr w53_ (dr1 (kp1 (dr1 kp0))) (oR1 ol0)) fun o54_ => ?_
      refine TA.tp 0 (pB b3 0) rfl (fun _ => by kernel_rfl) (fun _ _ _ h => h) o54_ ?_
      refine TA.tp 1 (.slice A6 (([(ByteArray.mk #[47]), (ByteArray.mk #[47, 97])] ++ s1).length) c6) rfl (fun _ => by kernel_rfl) (fun _ _ _ h => h) o54_ ?_
      refine TA.tp 2 (vi x14) rfl (fun _ => by kernel_rfl) (fun _ _ _ h => h) o54_ ?_
      refine TA.tp 4 (.slice A30 z11.length c30) rfl (fun _ => by kernel_rfl) (fun _ _ _ h => h) o54_ ?_
      refine TA.tp 5 (vi x14) rfl (fun _ => by kernel_rfl) (fun _ _ _ h => h) o54_ ?_
      refine TA.all [3, 6] (by kernel_rfl) rfl ⟨?_, ?_, trivial⟩
      ·
       refine TA.br rfl (W1.within 35 [pB b3 0, .slice A6 (([(ByteArray.mk #[47]), (ByteArray.mk #[47, 97])] ++ s1).length) c6, vi x14] (fun v w' => ∃ (A38 : Option Addr) (c38 : Nat) (V50 : View), View.le V48 V50 ∧ v = .slice A38 z14.length c38 ∧ Hp w V50 ((row 9 eStr A38 c38 z14) :: t30_) w') Tryz.func35 rfl rfl (by kernel_rfl) (fun _ => by kernel_rfl) rfl ?_ ?_)
       ·
        refine T.seq (T.region (T.pk sN (fun _ => by kernel_rfl) (T.nil (T.seq (T.region (T.pk sN (fun _ => by kernel_rfl) (T.nil (T.seq (T.seq (T.region (T.p3 (.slice A6 (([(ByteArray.mk #[47]), (ByteArray.mk #[47, 97])] ++ s1).length) c6) (vi (([(ByteArray.mk #[47]), (ByteArray.mk #[47, 97])] ++ s1).length : Int)) (vi 0) (fun _ => by kernel_rfl) (T.nil ?_))))))))))))
        refine T.rownil 9 eStr ?_
        obtain ⟨z15, hz7, hX7⟩ := ob hX7
        refine T.mid (fun a w' => ∃ (A40 : Option Addr) (c40 : Nat) (V52 : View), View.le V48 V52 ∧ Fr 59 [(7, .slice A40 z15.length c40)] a ∧ Hp w V52 ((row 9 eStr A40 c40 z15) :: t30_) w') ?_ ?_
        ·
         refine T.block ?_
         refine T.iter (fun s8 a w' => ∃ (x15 : List ByteArray) (x16 : Int), s8 = (x15, x16) ∧ ∃ (A39 : Option Addr) (c39 : Nat) (V51 : View), View.le V48 V51 ∧ Fr 59 [(0, pB b3 0), (2, vi x14), (7, .slice A39 x15.length c39), (16, .slice A6 (([(ByteArray.mk #[47]), (ByteArray.mk #[47, 97])] ++ s1).length) c6), (17, vi (([(ByteArray.mk #[47]), (ByteArray.mk #[47, 97])] ++ s1).length : Int)), (18, vi x16)] a ∧ Hp w V51 ((row 9 eStr A39 c39 x15) :: t30_) w') hz7 ?_ ?_
         ·
          exact fun a w' hf hh => ⟨[], 0, rfl, none, 0, V48, vr, (Fr.sel hf rfl), (hh.sub (kp3 (kp1 kp0)))⟩
         rintro s8 y17 hY7 hr8 a w' ⟨x15, x16, rfl, A39, c39, V51, hV51, hf, hh⟩
         let t31_ : List HObj := (row 9 eStr A39 c39 x15) :: t30_
         refine (?_ : T 59 w V51 t31_ [(0, pB b3 0), (2, vi x14), (7, .slice A39 x15.length c39), (16, .slice A6 (([(ByteArray.mk #[47]), (ByteArray.mk #[47, 97])] ++ s1).length) c6), (17, vi (([(ByteArray.mk #[47]), (ByteArray.mk #[47, 97])] ++ s1).length : Int)), (18, vi x16)] _) a w' hf hh
         clear hf hh
         try dsimp only at hY7
         refine T.seq (T.region (T.pk (.bool (decide (x16 < (([(ByteArray.mk #[47]), (ByteArray.mk #[47, 97])] ++ s1).length : Int)))) (fun _ => by kernel_rfl) (T.nil (T.seq ?_))))
         refine T.cond (decide (x16 < (([(ByteArray.mk #[47]), (ByteArray.mk #[47, 97])] ++ s1).length : Int))) (by kernel_rfl) (by kernel_rfl) (fun hc11 => ?_) (fun hc11 => ?_)
         ·
          rw [hc11, cond_true] at hY7
          refine T.skip_code ?_
          refine T.seq (T.block (T.seq (T.region ?_)))
          obtain ⟨e6, hb44, hY7⟩ := ob hY7
          obtain ⟨hi16, hi17, hi18⟩ := idx_some hb44
          refine T.look (.pointer (some ((sadr A6).add (x16.toNat * 1)))) (by kernel_rfl) (ixR 2 (e := 9) (s := 1) rfl rfl rfl (fun _ => by kernel_rfl) hi16 hi17 (by rfl) hi18 (by decide)) ?_
          refine T.look (.string e6) (by kernel_rfl) (fun w' hh => exec_load1 rfl rfl (by kernel_rfl) (SlOk.wcellF0 (E := eStr) (hh.row_slOk (i := 2) (by rfl)) hi18 (fun _ _ _ h => h) rfl)) ?_
          refine T.pk (.string e6) (fun _ => by kernel_rfl) (T.nil (T.seq (T.region (T.p3 (pB b3 0) (.string e6) (vi x14) (fun _ => by kernel_rfl) ?_))))
          obtain ⟨r35, hb45, hY7⟩ := ob hY7
          let t32_ : List HObj := i29_ :: i4_ :: []
          let t33_ : List HObj := (row 9 eStr A39 c39 x15) :: t32_
          let t34_ : List HObj := i22_ :: t33_
          let v50_ : List Value := [pB b3 0, .string e6, vi x14]
          refine T.step (W1.callI 20 v50_ (fun v w' => ∃ (V53 : View), View.le V51 V53 ∧ v = .tuple #[.string r35.1, vi r35.2] ∧ Hp w V53 t34_ w') (by kernel_rfl) (fun _ => by kernel_rfl) (fun w' hh => fs_FS_Kind_fr_l F r26.1 r26.2.1 r26.2.2.1 e6 x14 r35 hb45 w hGl b3 A29 c29 V51 t33_ w' (SlOk.mono hs16 (vt (vt hV37 hV48) hV51)) (hh.ix 4 [3, 0, 1, 2])) ?_)
          rintro v w' ⟨V53, hV53, rfl, hh⟩
          refine ⟨V53, t31_, hh.ix 4 [1, 2, 3, 0], ?_⟩
          clear hh
          refine T.p5 (.tuple #[.string r35.1, vi r35.2]) (.string r35.1) (vi r35.2) (.string r35.1) (vi r35.2) (fun _ => by kernel_rfl) (T.nil (T.seq (T.region (T.p3 (pB b3 0) (.string e6) (vi x14) (fun _ => by kernel_rfl) ?_))))
          obtain ⟨r36, hb46, hY7⟩ := ob hY7
          refine T.step (W1.callI 25 v50_ (fun v w' => ∃ (V54 : View), View.le V53 V54 ∧ v = .tuple #[.string r36.1, vi r36.2] ∧ Hp w V54 t34_ w') (by kernel_rfl) (fun _ => by kernel_rfl) (fun w' hh => fs_FS_Read_fr_l F r26.1 r26.2.1 r26.2.2.1 e6 x14 r36 hb46 w hGl b3 A29 c29 V53 t33_ w' (SlOk.mono hs16 (vt (vt (vt hV37 hV48) hV51) hV53)) (hh.ix 4 [3, 0, 1, 2])) ?_)
          rintro v w' ⟨V54, hV54, rfl, hh⟩
          refine ⟨V54, t31_, hh.ix 4 [1, 2, 3, 0], ?_⟩
          clear hh
          refine T.p5 (.tuple #[.string r36.1, vi r36.2]) (.string r36.1) (vi r36.2) (.string r36.1) (vi r36.2) (fun _ => by kernel_rfl) (T.nil (T.seq (T.region (T.p3 (pB b3 0) (.string e6) (vi x14) (fun _ => by kernel_rfl) ?_))))
          obtain ⟨r37, hb47, hY7⟩ := ob hY7
          refine T.step (W1.callI 34 v50_ (fun v w' => ∃ (A41 : Option Addr) (c41 : Nat) (V55 : View), View.le V54 V55 ∧ SlOk (made w V55) eStr A41 c41 r37.1 ∧ v = .tuple #[.slice A41 r37.1.length c41, vi r37.2] ∧ Hp w V55 t34_ w') (by kernel_rfl) (fun _ => by kernel_rfl) (fun w' hh => fs_FS_List_fr_l F r26.1 r26.2.1 r26.2.2.1 e6 x14 r37 hb47 w hGl b3 A29 c29 V54 t33_ w' (SlOk.mono hs16 (vt (vt (vt (vt hV37 hV48) hV51) hV53) hV54)) (hh.ix 4 [3, 0, 1, 2])) ?_)
          rintro v w' ⟨A41, c41, V55, hV55, hs19, rfl, hh⟩
          refine ⟨V55, t31_, hh.ix 4 [1, 2, 3, 0], ?_⟩
          clear hh
          refine T.p5 (.tuple #[.slice A41 r37.1.length c41, vi r37.2]) (.slice A41 r37.1.length c41) (vi r37.2) (.slice A41 r37.1.length c41) (vi r37.2) (fun _ => by kernel_rfl) (T.nil (T.seq (T.region (T.p4 (.slice A39 x15.length c39) (.string r35.1) (.string r36.1) (vi r35.2) (fun _ => by kernel_rfl) ?_))))
          obtain ⟨r38, hb48, hY7⟩ := ob hY7
          refine T.step (W1.call (vSc eStr) r38 71 #[vi r35.2] (by kernel_rfl) (fun _ => by kernel_rfl) (fun w' hh => annalref_Dec_l r35.2 r38 hb48 w' ) ?_)
          intro u V56 hV56 hu
          obtain rfl := sureStr _ _ _ hu
          refine T.pk (vi r36.2) (fun _ => by kernel_rfl) ?_
          obtain ⟨r39, hb49, hY7⟩ := ob hY7
          refine T.step (W1.call (vSc eStr) r39 71 #[vi r36.2] (by kernel_rfl) (fun _ => by kernel_rfl) (fun w' hh => annalref_Dec_l r36.2 r39 hb49 w' ) ?_)
          intro u V57 hV57 hu
          obtain rfl := sureStr _ _ _ hu
          refine T.pk (vi r37.2) (fun _ => by kernel_rfl) ?_
          obtain ⟨r40, hb50, hY7⟩ := ob hY7
          refine T.step (W1.call (vSc eStr) r40 71 #[vi r37.2] (by kernel_rfl) (fun _ => by kernel_rfl) (fun w' hh => annalref_Dec_l r37.2 r40 hb50 w' ) ?_)
          intro u V58 hV58 hu
          obtain rfl := sureStr _ _ _ hu
          refine T.step (W1.new 9 [.string r35.1, .string r36.1, .string r38, .string r39, .string r40] (fun b => .slice (some ⟨b, 0, none⟩) 5 5) (by kernel_rfl) (fun _ => by kernel_rfl) (fun b11 => ?_))
          obtain ⟨y18, hb51, hY7⟩ := ob hY7
          obtain ⟨hb51_r, hb51_m, rfl⟩ := grow_some hb51
          obtain ⟨ti, hti, hz1, hz2, hz3⟩ := info_parts (P := Tryz.prog) (e := 9) (z := .string (ByteArray.mk #[])) (size := 1) (bytes := 16) (by kernel_rfl)
          refine T.step (W1.append (E := eStr) (l := x15) (m := [r35.1, r36.1, r38, r39, r40]) 1 _ _ 16 ti _ (by rfl) (by kernel_rfl) rfl (by kernel_rfl) hti hz1 hz2 hz3 rfl (by decide) rfl rfl (fun w' hh => (SlOk.srcF (slok_lit (E := eStr) (f := (fun x => [.string x])) [r35.1, r36.1, r38, r39, r40] (fun _ _ => rfl) (Nat.le_of_ble_eq_true (by rfl)) (fun j => hh.cellBox (i := 0) (by rfl) j)) (fun _ _ _ _ h => h))) hb51_r hb51_m (fun A42 c42 => ?_))
          refine T.pk (.slice A42 ((x15 ++ [r35.1, r36.1, r38, r39, r40]).length) c42) (fun _ => by kernel_rfl) (T.nil (T.region (T.p2 (.slice A42 ((x15 ++ [r35.1, r36.1, r38, r39, r40]).length) c42) (.slice A41 r37.1.length c41) (fun _ => by kernel_rfl) ?_)))
          obtain ⟨y19, hb52, hY7⟩ := ob hY7
          obtain ⟨hb52_r, hb52_m, rfl⟩ := grow_some hb52
          obtain ⟨ti, hti, hz1, hz2, hz3⟩ := info_parts (P := Tryz.prog) (e := 9) (z := .string (ByteArray.mk #[])) (size := 1) (bytes := 16) (by kernel_rfl)
          refine T.step (W1.append (E := eStr) (l := (x15 ++ [r35.1, r36.1, r38, r39, r40])) (m := r37.1) 1 _ _ 16 ti _ (by rfl) (by kernel_rfl) rfl (by kernel_rfl) hti hz1 hz2 hz3 rfl (by decide) rfl rfl (fun w' hh => (SlOk.srcF (SlOk.mono (SlOk.mono hs19 (vt (made_le _ _) (vt (vt hV56 hV57) hV58))) hh.view) (fun _ _ _ _ h => h))) hb52_r hb52_m (fun A43 c43 => ?_))
          refine T.pk (.slice A43 (((x15 ++ [r35.1, r36.1, r38, r39, r40]) ++ r37.1).length) c43) (fun _ => by kernel_rfl) (T.nil (T.region (T.p2 (vi (IntKind.i64.wrap (x16 + 1))) (vi (IntKind.i64.wrap (x16 + 1))) (fun _ => by kernel_rfl) (T.nil ?_))))
          cases hY7
          exact fun a w' hf hh => ⟨(((x15 ++ [r35.1, r36.1, r38, r39, r40]) ++ r37.1), IntKind.i64.wrap (x16 + 1)), rfl, ((x15 ++ [r35.1, r36.1, r38, r39, r40]) ++ r37.1), (IntKind.i64.wrap (x16 + 1)), rfl, A43, c43, V58, (vt (vt (vt (vt (vt (vt hV51 hV53) hV54) hV55) hV56) hV57) hV58), (Fr.sel hf rfl), (hh.sub (dr1 (kp3 (kp1 kp0))))⟩
         rw [hc11, cond_false] at hY7
         refine T.exit ?_
         cases hY7
         cases (hr8 _ rfl)
         exact fun a w' hf hh => ⟨A39, c39, V51, hV51, (Fr.sel hf rfl), (hh.sub (kp3 (kp1 kp0)))⟩
        rintro a w' ⟨A40, c40, V52, hV52, hf, hh⟩
        refine (?_ : T 59 w V52 ((row 9 eStr A40 c40 z15) :: t30_) [(7, .slice A40 z15.length c40)] _) a w' hf hh
        clear hf hh
        refine T.seq (T.region (T.p2 (.slice A40 z15.length c40) (.slice A40 z15.length c40) (fun _ => by kernel_rfl) (T.nil ?_)))
        cases hX7
        refine T.ret rfl ?_
        exact T.ret1 rfl (ResIs.tmp rfl) fun w' hh => ⟨_, rfl, ⟨A40, c40, V52, hV52, rfl, (hh.sub (kp3 (kp1 kp0)))⟩⟩
       rintro v w' ⟨A38, c38, V50, hV50, rfl, hh⟩
       refine ⟨V50, ((row 9 eStr A38 c38 z14) :: t30_), hh, ?_⟩
       clear hh
       refine TA.on (Hp.old hV50 w53_ (dr2 (kp1 (dr1 kp0))) (oR1 ol0)) ?_
       refine TA.all [6] (by kernel_rfl) rfl ⟨?_, trivial⟩
       obtain ⟨hi19, hi20, hi21⟩ := idx_some hb53
       refine TA.br rfl (W1.look (.pointer (some ((sadr A30).add (x14.toNat * 1)))) (by kernel_rfl) (fun w' hh => exec_indexAddr (e := 23) (s := 1) rfl rfl rfl (by kernel_rfl) (by kernel_rfl) hi19 hi20 ((hh.row_slOk (i := 1) (by rfl)).some_ hi21 (Nat.le_of_ble_eq_true rfl))) ?_)
       refine TA.on (Hp.old hV50 w53_ (dr2 (kp1 (dr1 kp0))) (oR1 ol0)) ?_
       refine TA.all [7] (by kernel_rfl) rfl ⟨?_, trivial⟩
       refine TA.br rfl (W1.lookE (fun v => ∃ cs : List Value, (eList eStr).rep (made w V50) cs e7 ∧ cs[0]? = some v) (by kernel_rfl) (fun w' hh => ?_) ?_)
       ·
        obtain ⟨cs, hr, hl⟩ := hh.row_elem (i := 1) (by rfl) hi21
        have hu : cs[0]? = some (cs[0]'(by rw [show cs.length = 1 from Enc.len _ hr]; decide)) := List.getElem?_eq_getElem _
        exact ⟨_, exec_load1 rfl rfl (by kernel_rfl) (by have := hl 0 _ hu; rwa [addr_add0] at this), cs, hr, hu⟩
       rintro v ⟨cs2, hr9, hv1⟩
       obtain ⟨A44, c44, rfl, hs20⟩ := hr9
       obtain rfl : .slice A44 e7.length c44 = v := Option.some.inj hv1
       refine TA.on (Hp.old hV50 w53_ (dr2 (kp1 (dr1 kp0))) (oR1 ol0)) ?_
       refine TA.all [8] (by kernel_rfl) rfl ⟨?_, trivial⟩
       refine TA.br rfl (W1.call (vSc eBool) r41 37 #[.slice A38 z14.length c38, .slice A44 e7.length c44] (by kernel_rfl) (fun _ => by kernel_rfl) (fun w' hh => slices_Equal_string_l F z14 e7 r41 hb54 w' A38 c38 (hh.row_slOk (i := 0) (by rfl)) A44 c44 (SlOk.mono (SlOk.mono hs20 (vt (made_le _ _) vr)) hh.view)) ?_)
       intro u V59 hV59 hu
       obtain rfl := sureBool _ _ _ hu
       refine TA.onk (Hp.old (vt hV50 hV59) w53_ (dr2 (kp1 (dr1 kp0))) (oR1 ol0)) fun o55_ => ?_
       refine TA.tp 9 (.bool (!r41)) rfl (fun _ => by kernel_rfl) (fun _ _ _ h => h) o55_ ?_
       refine TA.done (by kernel_rfl) ?_
       exact fun a w' hf hh => ⟨V59, (vt hV50 hV59), (Fr.sel hf rfl), (hh.sub (dr1 (kp2 (kp1 kp0))))⟩
      obtain ⟨hi19, hi20, hi21⟩ := idx_some hb53
      refine TA.br rfl (W1.look (.pointer (some ((sadr A30).add (x14.toNat * 1)))) (by kernel_rfl) (fun w' hh => exec_indexAddr (e := 23) (s := 1) rfl rfl rfl (by kernel_rfl) (by kernel_rfl) hi19 hi20 ((hh.row_slOk (i := 0) (by rfl)).some_ hi21 (Nat.le_of_ble_eq_true rfl))) ?_)
      refine TA.on (Hp.old vr w53_ (dr1 (kp1 (dr1 kp0))) (oR1 ol0)) ?_
      refine TA.all [3, 7] (by kernel_rfl) rfl ⟨?_, ?_, trivial⟩
      ·
       refine TA.br rfl (W1.within 35 [pB b3 0, .slice A6 (([(ByteArray.mk #[47]), (ByteArray.mk #[47, 97])] ++ s1).length) c6, vi x14] (fun v w' => ∃ (A38 : Option Addr) (c38 : Nat) (V50 : View), View.le V48 V50 ∧ v = .slice A38 z14.length c38 ∧ Hp w V50 ((row 9 eStr A38 c38 z14) :: t30_) w') Tryz.func35 rfl rfl (by kernel_rfl) (fun _ => by kernel_rfl) rfl ?_ ?_)
       ·
        refine T.seq (T.region (T.pk sN (fun _ => by kernel_rfl) (T.nil (T.seq (T.region (T.pk sN (fun _ => by kernel_rfl) (T.nil (T.seq (T.seq (T.region (T.p3 (.slice A6 (([(ByteArray.mk #[47]), (ByteArray.mk #[47, 97])] ++ s1).length) c6) (vi (([(ByteArray.mk #[47]), (ByteArray.mk #[47, 97])] ++ s1).length : Int)) (vi 0) (fun _ => by kernel_rfl) (T.nil ?_))))))))))))
        refine T.rownil 9 eStr ?_
        obtain ⟨z15, hz7, hX7⟩ := ob hX7
        refine T.mid (fun a w' => ∃ (A40 : Option Addr) (c40 : Nat) (V52 : View), View.le V48 V52 ∧ Fr 59 [(7, .slice A40 z15.length c40)] a ∧ Hp w V52 ((row 9 eStr A40 c40 z15) :: t30_) w') ?_ ?_
        ·
         refine T.block ?_
         refine T.iter (fun s8 a w' => ∃ (x15 : List ByteArray) (x16 : Int), s8 = (x15, x16) ∧ ∃ (A39 : Option Addr) (c39 : Nat) (V51 : View), View.le V48 V51 ∧ Fr 59 [(0, pB b3 0), (2, vi x14), (7, .slice A39 x15.length c39), (16, .slice A6 (([(ByteArray.mk #[47]), (ByteArray.mk #[47, 97])] ++ s1).length) c6), (17, vi (([(ByteArray.mk #[47]), (ByteArray.mk #[47, 97])] ++ s1).length : Int)), (18, vi x16)] a ∧ Hp w V51 ((row 9 eStr A39 c39 x15) :: t30_) w') hz7 ?_ ?_
         ·
          exact fun a w' hf hh => ⟨[], 0, rfl, none, 0, V48, vr, (Fr.sel hf rfl), (hh.sub (kp3 (kp1 kp0)))⟩
         rintro s8 y17 hY7 hr8 a w' ⟨x15, x16, rfl, A39, c39, V51, hV51, hf, hh⟩
         let t35_ : List HObj := (row 9 eStr A39 c39 x15) :: t30_
         refine (?_ : T 59 w V51 t35_ [(0, pB b3 0), (2, vi x14), (7, .slice A39 x15.length c39), (16, .slice A6 (([(ByteArray.mk #[47]), (ByteArray.mk #[47, 97])] ++ s1).length) c6), (17, vi (([(ByteArray.mk #[47]), (ByteArray.mk #[47, 97])] ++ s1).length : Int)), (18, vi x16)] _) a w' hf hh
         clear hf hh
         try dsimp only at hY7
         refine T.seq (T.region (T.pk (.bool (decide (x16 < (([(ByteArray.mk #[47]), (ByteArray.mk #[47, 97])] ++ s1).length : Int)))) (fun _ => by kernel_rfl) (T.nil (T.seq ?_))))
         refine T.cond (decide (x16 < (([(ByteArray.mk #[47]), (ByteArray.mk #[47, 97])] ++ s1).length : Int))) (by kernel_rfl) (by kernel_rfl) (fun hc11 => ?_) (fun hc11 => ?_)
         ·
          rw [hc11, cond_true] at hY7
          refine T.skip_code ?_
          refine T.seq (T.block (T.seq (T.region ?_)))
          obtain ⟨e6, hb44, hY7⟩ := ob hY7
          obtain ⟨hi16, hi17, hi18⟩ := idx_some hb44
          refine T.look (.pointer (some ((sadr A6).add (x16.toNat * 1)))) (by kernel_rfl) (ixR 2 (e := 9) (s := 1) rfl rfl rfl (fun _ => by kernel_rfl) hi16 hi17 (by rfl) hi18 (by decide)) ?_
          refine T.look (.string e6) (by kernel_rfl) (fun w' hh => exec_load1 rfl rfl (by kernel_rfl) (SlOk.wcellF0 (E := eStr) (hh.row_slOk (i := 2) (by rfl)) hi18 (fun _ _ _ h => h) rfl)) ?_
          refine T.pk (.string e6) (fun _ => by kernel_rfl) (T.nil (T.seq (T.region (T.p3 (pB b3 0) (.string e6) (vi x14) (fun _ => by kernel_rfl) ?_))))
          obtain ⟨r35, hb45, hY7⟩ := ob hY7
          let t36_ : List HObj := i29_ :: i4_ :: []
          let t37_ : List HObj := (row 9 eStr A39 c39 x15) :: t36_
          let t38_ : List HObj := i22_ :: t37_
          let v51_ : List Value := [pB b3 0, .string e6, vi x14]
          refine T.step (W1.callI 20 v51_ (fun v w' => ∃ (V53 : View), View.le V51 V53 ∧ v = .tuple #[.string r35.1, vi r35.2] ∧ Hp w V53 t38_ w') (by kernel_rfl) (fun _ => by kernel_rfl) (fun w' hh => fs_FS_Kind_fr_l F r26.1 r26.2.1 r26.2.2.1 e6 x14 r35 hb45 w hGl b3 A29 c29 V51 t37_ w' (SlOk.mono hs16 (vt (vt hV37 hV48) hV51)) (hh.ix 4 [3, 0, 1, 2])) ?_)
          rintro v w' ⟨V53, hV53, rfl, hh⟩
          refine ⟨V53, t35_, hh.ix 4 [1, 2, 3, 0], ?_⟩
          clear hh
          refine T.p5 (.tuple #[.string r35.1, vi r35.2]) (.string r35.1) (vi r35.2) (.string r35.1) (vi r35.2) (fun _ => by kernel_rfl) (T.nil (T.seq (T.region (T.p3 (pB b3 0) (.string e6) (vi x14) (fun _ => by kernel_rfl) ?_))))
          obtain ⟨r36, hb46, hY7⟩ := ob hY7
          refine T.step (W1.callI 25 v51_ (fun v w' => ∃ (V54 : View), View.le V53 V54 ∧ v = .tuple #[.string r36.1, vi r36.2] ∧ Hp w V54 t38_ w') (by kernel_rfl) (fun _ => by kernel_rfl) (fun w' hh => fs_FS_Read_fr_l F r26.1 r26.2.1 r26.2.2.1 e6 x14 r36 hb46 w hGl b3 A29 c29 V53 t37_ w' (SlOk.mono hs16 (vt (vt (vt hV37 hV48) hV51) hV53)) (hh.ix 4 [3, 0, 1, 2])) ?_)
          rintro v w' ⟨V54, hV54, rfl, hh⟩
          refine ⟨V54, t35_, hh.ix 4 [1, 2, 3, 0], ?_⟩
          clear hh
          refine T.p5 (.tuple #[.string r36.1, vi r36.2]) (.string r36.1) (vi r36.2) (.string r36.1) (vi r36.2) (fun _ => by kernel_rfl) (T.nil (T.seq (T.region (T.p3 (pB b3 0) (.string e6) (vi x14) (fun _ => by kernel_rfl) ?_))))
          obtain ⟨r37, hb47, hY7⟩ := ob hY7
          refine T.step (W1.callI 34 v51_ (fun v w' => ∃ (A41 : Option Addr) (c41 : Nat) (V55 : View), View.le V54 V55 ∧ SlOk (made w V55) eStr A41 c41 r37.1 ∧ v = .tuple #[.slice A41 r37.1.length c41, vi r37.2] ∧ Hp w V55 t38_ w') (by kernel_rfl) (fun _ => by kernel_rfl) (fun w' hh => fs_FS_List_fr_l F r26.1 r26.2.1 r26.2.2.1 e6 x14 r37 hb47 w hGl b3 A29 c29 V54 t37_ w' (SlOk.mono hs16 (vt (vt (vt (vt hV37 hV48) hV51) hV53) hV54)) (hh.ix 4 [3, 0, 1, 2])) ?_)
          rintro v w' ⟨A41, c41, V55, hV55, hs19, rfl, hh⟩
          refine ⟨V55, t35_, hh.ix 4 [1, 2, 3, 0], ?_⟩
          clear hh
          refine T.p5 (.tuple #[.slice A41 r37.1.length c41, vi r37.2]) (.slice A41 r37.1.length c41) (vi r37.2) (.slice A41 r37.1.length c41) (vi r37.2) (fun _ => by kernel_rfl) (T.nil (T.seq (T.region (T.p4 (.slice A39 x15.length c39) (.string r35.1) (.string r36.1) (vi r35.2) (fun _ => by kernel_rfl) ?_))))
          obtain ⟨r38, hb48, hY7⟩ := ob hY7
          refine T.step (W1.call (vSc eStr) r38 71 #[vi r35.2] (by kernel_rfl) (fun _ => by kernel_rfl) (fun w' hh => annalref_Dec_l r35.2 r38 hb48 w' ) ?_)
          intro u V56 hV56 hu
          obtain rfl := sureStr _ _ _ hu
          refine T.pk (vi r36.2) (fun _ => by kernel_rfl) ?_
          obtain ⟨r39, hb49, hY7⟩ := ob hY7
          refine T.step (W1.call (vSc eStr) r39 71 #[vi r36.2] (by kernel_rfl) (fun _ => by kernel_rfl) (fun w' hh => annalref_Dec_l r36.2 r39 hb49 w' ) ?_)
          intro u V57 hV57 hu
          obtain rfl := sureStr _ _ _ hu
          refine T.pk (vi r37.2) (fun _ => by kernel_rfl) ?_
          obtain ⟨r40, hb50, hY7⟩ := ob hY7
          refine T.step (W1.call (vSc eStr) r40 71 #[vi r37.2] (by kernel_rfl) (fun _ => by kernel_rfl) (fun w' hh => annalref_Dec_l r37.2 r40 hb50 w' ) ?_)
          intro u V58 hV58 hu
          obtain rfl := sureStr _ _ _ hu
          refine T.step (W1.new 9 [.string r35.1, .string r36.1, .string r38, .string r39, .string r40] (fun b => .slice (some ⟨b, 0, none⟩) 5 5) (by kernel_rfl) (fun _ => by kernel_rfl) (fun b11 => ?_))
          obtain ⟨y18, hb51, hY7⟩ := ob hY7
          obtain ⟨hb51_r, hb51_m, rfl⟩ := grow_some hb51
          obtain ⟨ti, hti, hz1, hz2, hz3⟩ := info_parts (P := Tryz.prog) (e := 9) (z := .string (ByteArray.mk #[])) (size := 1) (bytes := 16) (by kernel_rfl)
          refine T.step (W1.append (E := eStr) (l := x15) (m := [r35.1, r36.1, r38, r39, r40]) 1 _ _ 16 ti _ (by rfl) (by kernel_rfl) rfl (by kernel_rfl) hti hz1 hz2 hz3 rfl (by decide) rfl rfl (fun w' hh => (SlOk.srcF (slok_lit (E := eStr) (f := (fun x => [.string x])) [r35.1, r36.1, r38, r39, r40] (fun _ _ => rfl) (Nat.le_of_ble_eq_true (by rfl)) (fun j => hh.cellBox (i := 0) (by rfl) j)) (fun _ _ _ _ h => h))) hb51_r hb51_m (fun A42 c42 => ?_))
          refine T.pk (.slice A42 ((x15 ++ [r35.1, r36.1, r38, r39, r40]).length) c42) (fun _ => by kernel_rfl) (T.nil (T.region (T.p2 (.slice A42 ((x15 ++ [r35.1, r36.1, r38, r39, r40]).length) c42) (.slice A41 r37.1.length c41) (fun _ => by kernel_rfl) ?_)))
          obtain ⟨y19, hb52, hY7⟩ := ob hY7
          obtain ⟨hb52_r, hb52_m, rfl⟩ := grow_some hb52
          obtain ⟨ti, hti, hz1, hz2, hz3⟩ := info_parts (P := Tryz.prog) (e := 9) (z := .string (ByteArray.mk #[])) (size := 1) (bytes := 16) (by kernel_rfl)
          refine T.step (W1.append (E := eStr) (l := (x15 ++ [r35.1, r36.1, r38, r39, r40])) (m := r37.1) 1 _ _ 16 ti _ (by rfl) (by kernel_rfl) rfl (by kernel_rfl) hti hz1 hz2 hz3 rfl (by decide) rfl rfl (fun w' hh => (SlOk.srcF (SlOk.mono (SlOk.mono hs19 (vt (made_le _ _) (vt (vt hV56 hV57) hV58))) hh.view) (fun _ _ _ _ h => h))) hb52_r hb52_m (fun A43 c43 => ?_))
          refine T.pk (.slice A43 (((x15 ++ [r35.1, r36.1, r38, r39, r40]) ++ r37.1).length) c43) (fun _ => by kernel_rfl) (T.nil (T.region (T.p2 (vi (IntKind.i64.wrap (x16 + 1))) (vi (IntKind.i64.wrap (x16 + 1))) (fun _ => by kernel_rfl) (T.nil ?_))))
          cases hY7
          exact fun a w' hf hh => ⟨(((x15 ++ [r35.1, r36.1, r38, r39, r40]) ++ r37.1), IntKind.i64.wrap (x16 + 1)), rfl, ((x15 ++ [r35.1, r36.1, r38, r39, r40]) ++ r37.1), (IntKind.i64.wrap (x16 + 1)), rfl, A43, c43, V58, (vt (vt (vt (vt (vt (vt hV51 hV53) hV54) hV55) hV56) hV57) hV58), (Fr.sel hf rfl), (hh.sub (dr1 (kp3 (kp1 kp0))))⟩
         rw [hc11, cond_false] at hY7
         refine T.exit ?_
         cases hY7
         cases (hr8 _ rfl)
         exact fun a w' hf hh => ⟨A39, c39, V51, hV51, (Fr.sel hf rfl), (hh.sub (kp3 (kp1 kp0)))⟩
        rintro a w' ⟨A40, c40, V52, hV52, hf, hh⟩
        refine (?_ : T 59 w V52 ((row 9 eStr A40 c40 z15) :: t30_) [(7, .slice A40 z15.length c40)] _) a w' hf hh
        clear hf hh
        refine T.seq (T.region (T.p2 (.slice A40 z15.length c40) (.slice A40 z15.length c40) (fun _ => by kernel_rfl) (T.nil ?_)))
        cases hX7
        refine T.ret rfl ?_
        exact T.ret1 rfl (ResIs.tmp rfl) fun w' hh => ⟨_, rfl, ⟨A40, c40, V52, hV52, rfl, (hh.sub (kp3 (kp1 kp0)))⟩⟩
       rintro v w' ⟨A38, c38, V50, hV50, rfl, hh⟩
       refine ⟨V50, ((row 9 eStr A38 c38 z14) :: t30_), hh, ?_⟩
       clear hh
       refine TA.on (Hp.old hV50 w53_ (dr2 (kp1 (dr1 kp0))) (oR1 ol0)) ?_
       refine TA.all [7] (by kernel_rfl) rfl ⟨?_, trivial⟩
       refine TA.br rfl (W1.lookE (fun v => ∃ cs : List Value, (eList eStr).rep (made w V50) cs e7 ∧ cs[0]? = some v) (by kernel_rfl) (fun w' hh => ?_) ?_)
       ·
        obtain ⟨cs, hr, hl⟩ := hh.row_elem (i := 1) (by rfl) hi21
        have hu : cs[0]? = some (cs[0]'(by rw [show cs.length = 1 from Enc.len _ hr]; decide)) := List.getElem?_eq_getElem _
        exact ⟨_, exec_load1 rfl rfl (by kernel_rfl) (by have := hl 0 _ hu; rwa [addr_add0] at this), cs, hr, hu⟩
       rintro v ⟨cs2, hr9, hv1⟩
       obtain ⟨A44, c44, rfl, hs20⟩ := hr9
       obtain rfl : .slice A44 e7.length c44 = v := Option.some.inj hv1
       refine TA.on (Hp.old hV50 w53_ (dr2 (kp1 (dr1 kp0))) (oR1 ol0)) ?_
       refine TA.all [8] (by kernel_rfl) rfl ⟨?_, trivial⟩
       refine TA.br rfl (W1.call (vSc eBool) r41 37 #[.slice A38 z14.length c38, .slice A44 e7.length c44] (by kernel_rfl) (fun _ => by kernel_rfl) (fun w' hh => slices_Equal_string_l F z14 e7 r41 hb54 w' A38 c38 (hh.row_slOk (i := 0) (by rfl)) A44 c44 (SlOk.mono (SlOk.mono hs20 (vt (made_le _ _) vr)) hh.view)) ?_)
       intro u V59 hV59 hu
       obtain rfl := sureBool _ _ _ hu
       refine TA.onk (Hp.old (vt hV50 hV59) w53_ (dr2 (kp1 (dr1 kp0))) (oR1 ol0)) fun o56_ => ?_
       refine TA.tp 9 (.bool (!r41)) rfl (fun _ => by kernel_rfl) (fun _ _ _ h => h) o56_ ?_
       refine TA.done (by kernel_rfl) ?_
       exact fun a w' hf hh => ⟨V59, (vt hV50 hV59), (Fr.sel hf rfl), (hh.sub (dr1 (kp2 (kp1 kp0))))⟩
      refine TA.br rfl (W1.lookE (fun v => ∃ cs : List Value, (eList eStr).rep (made w V48) cs e7 ∧ cs[0]? = some v) (by kernel_rfl) (fun w' hh => ?_) ?_)
      ·
       obtain ⟨cs, hr, hl⟩ := hh.row_elem (i := 0) (by rfl) hi21
       have hu : cs[0]? = some (cs[0]'(by rw [show cs.length = 1 from Enc.len _ hr]; decide)) := List.getElem?_eq_getElem _
       exact ⟨_, exec_load1 rfl rfl (by kernel_rfl) (by have := hl 0 _ hu; rwa [addr_add0] at this), cs, hr, hu⟩
      rintro v ⟨cs2, hr9, hv1⟩
      obtain ⟨A44, c44, rfl, hs20⟩ := hr9
      obtain rfl : .slice A44 e7.length c44 = v := Option.some.inj hv1
      refine TA.on (Hp.old vr w53_ (dr1 (kp1 (dr1 kp0))) (oR1 ol0)) ?_
      refine TA.all [3] (by kernel_rfl) rfl ⟨?_, trivial⟩
      refine TA.br rfl (W1.within 35 [pB b3 0, .slice A6 (([(ByteArray.mk #[47]), (ByteArray.mk #[47, 97])] ++ s1).length) c6, vi x14] (fun v w' => ∃ (A38 : Option Addr) (c38 : Nat) (V50 : View), View.le V48 V50 ∧ v = .slice A38 z14.length c38 ∧ Hp w V50 ((row 9 eStr A38 c38 z14) :: t30_) w') Tryz.func35 rfl rfl (by kernel_rfl) (fun _ => by kernel_rfl) rfl ?_ ?_)
      ·
       refine T.seq (T.region (T.pk sN (fun _ => by kernel_rfl) (T.nil (T.seq (T.region (T.pk sN (fun _ => by kernel_rfl) (T.nil (T.seq (T.seq (T.region (T.p3 (.slice A6 (([(ByteArray.mk #[47]), (ByteArray.mk #[47, 97])] ++ s1).length) c6) (vi (([(ByteArray.mk #[47]), (ByteArray.mk #[47, 97])] ++ s1).length : Int)) (vi 0) (fun _ => by kernel_rfl) (T.nil ?_))))))))))))
       refine T.rownil 9 eStr ?_
       obtain ⟨z15, hz7, hX7⟩ := ob hX7
       refine T.mid (fun a w' => ∃ (A40 : Option Addr) (c40 : Nat) (V52 : View), View.le V48 V52 ∧ Fr 59 [(7, .slice A40 z15.length c40)] a ∧ Hp w V52 ((row 9 eStr A40 c40 z15) :: t30_) w') ?_ ?_
       ·
        refine T.block ?_
        refine T.iter (fun s8 a w' => ∃ (x15 : List ByteArray) (x16 : Int), s8 = (x15, x16) ∧ ∃ (A39 : Option Addr) (c39 : Nat) (V51 : View), View.le V48 V51 ∧ Fr 59 [(0, pB b3 0), (2, vi x14), (7, .slice A39 x15.length c39), (16, .slice A6 (([(ByteArray.mk #[47]), (ByteArray.mk #[47, 97])] ++ s1).length) c6), (17, vi (([(ByteArray.mk #[47]), (ByteArray.mk #[47, 97])] ++ s1).length : Int)), (18, vi x16)] a ∧ Hp w V51 ((row 9 eStr A39 c39 x15) :: t30_) w') hz7 ?_ ?_
        ·
         exact fun a w' hf hh => ⟨[], 0, rfl, none, 0, V48, vr, (Fr.sel hf rfl), (hh.sub (kp3 (kp1 kp0)))⟩
        rintro s8 y17 hY7 hr8 a w' ⟨x15, x16, rfl, A39, c39, V51, hV51, hf, hh⟩
        let t39_ : List HObj := (row 9 eStr A39 c39 x15) :: t30_
        refine (?_ : T 59 w V51 t39_ [(0, pB b3 0), (2, vi x14), (7, .slice A39 x15.length c39), (16, .slice A6 (([(ByteArray.mk #[47]), (ByteArray.mk #[47, 97])] ++ s1).length) c6), (17, vi (([(ByteArray.mk #[47]), (ByteArray.mk #[47, 97])] ++ s1).length : Int)), (18, vi x16)] _) a w' hf hh
        clear hf hh
        try dsimp only at hY7
        refine T.seq (T.region (T.pk (.bool (decide (x16 < (([(ByteArray.mk #[47]), (ByteArray.mk #[47, 97])] ++ s1).length : Int)))) (fun _ => by kernel_rfl) (T.nil (T.seq ?_))))
        refine T.cond (decide (x16 < (([(ByteArray.mk #[47]), (ByteArray.mk #[47, 97])] ++ s1).length : Int))) (by kernel_rfl) (by kernel_rfl) (fun hc11 => ?_) (fun hc11 => ?_)
        ·
         rw [hc11, cond_true] at hY7
         refine T.skip_code ?_
         refine T.seq (T.block (T.seq (T.region ?_)))
         obtain ⟨e6, hb44, hY7⟩ := ob hY7
         obtain ⟨hi16, hi17, hi18⟩ := idx_some hb44
         refine T.look (.pointer (some ((sadr A6).add (x16.toNat * 1)))) (by kernel_rfl) (ixR 2 (e := 9) (s := 1) rfl rfl rfl (fun _ => by kernel_rfl) hi16 hi17 (by rfl) hi18 (by decide)) ?_
         refine T.look (.string e6) (by kernel_rfl) (fun w' hh => exec_load1 rfl rfl (by kernel_rfl) (SlOk.wcellF0 (E := eStr) (hh.row_slOk (i := 2) (by rfl)) hi18 (fun _ _ _ h => h) rfl)) ?_
         refine T.pk (.string e6) (fun _ => by kernel_rfl) (T.nil (T.seq (T.region (T.p3 (pB b3 0) (.string e6) (vi x14) (fun _ => by kernel_rfl) ?_))))
         obtain ⟨r35, hb45, hY7⟩ := ob hY7
         let t40_ : List HObj := i29_ :: i4_ :: []
         let t41_ : List HObj := (row 9 eStr A39 c39 x15) :: t40_
         let t42_ : List HObj := i22_ :: t41_
         let v52_ : List Value := [pB b3 0, .string e6, vi x14]
         refine T.step (W1.callI 20 v52_ (fun v w' => ∃ (V53 : View), View.le V51 V53 ∧ v = .tuple #[.string r35.1, vi r35.2] ∧ Hp w V53 t42_ w') (by kernel_rfl) (fun _ => by kernel_rfl) (fun w' hh => fs_FS_Kind_fr_l F r26.1 r26.2.1 r26.2.2.1 e6 x14 r35 hb45 w hGl b3 A29 c29 V51 t41_ w' (SlOk.mono hs16 (vt (vt hV37 hV48) hV51)) (hh.ix 4 [3, 0, 1, 2])) ?_)
         rintro v w' ⟨V53, hV53, rfl, hh⟩
         refine ⟨V53, t39_, hh.ix 4 [1, 2, 3, 0], ?_⟩
         clear hh
         refine T.p5 (.tuple #[.string r35.1, vi r35.2]) (.string r35.1) (vi r35.2) (.string r35.1) (vi r35.2) (fun _ => by kernel_rfl) (T.nil (T.seq (T.region (T.p3 (pB b3 0) (.string e6) (vi x14) (fun _ => by kernel_rfl) ?_))))
         obtain ⟨r36, hb46, hY7⟩ := ob hY7
         refine T.step (W1.callI 25 v52_ (fun v w' => ∃ (V54 : View), View.le V53 V54 ∧ v = .tuple #[.string r36.1, vi r36.2] ∧ Hp w V54 t42_ w') (by kernel_rfl) (fun _ => by kernel_rfl) (fun w' hh => fs_FS_Read_fr_l F r26.1 r26.2.1 r26.2.2.1 e6 x14 r36 hb46 w hGl b3 A29 c29 V53 t41_ w' (SlOk.mono hs16 (vt (vt (vt hV37 hV48) hV51) hV53)) (hh.ix 4 [3, 0, 1, 2])) ?_)
         rintro v w' ⟨V54, hV54, rfl, hh⟩
         refine ⟨V54, t39_, hh.ix 4 [1, 2, 3, 0], ?_⟩
         clear hh
         refine T.p5 (.tuple #[.string r36.1, vi r36.2]) (.string r36.1) (vi r36.2) (.string r36.1) (vi r36.2) (fun _ => by kernel_rfl) (T.nil (T.seq (T.region (T.p3 (pB b3 0) (.string e6) (vi x14) (fun _ => by kernel_rfl) ?_))))
         obtain ⟨r37, hb47, hY7⟩ := ob hY7
         refine T.step (W1.callI 34 v52_ (fun v w' => ∃ (A41 : Option Addr) (c41 : Nat) (V55 : View), View.le V54 V55 ∧ SlOk (made w V55) eStr A41 c41 r37.1 ∧ v = .tuple #[.slice A41 r37.1.length c41, vi r37.2] ∧ Hp w V55 t42_ w') (by kernel_rfl) (fun _ => by kernel_rfl) (fun w' hh => fs_FS_List_fr_l F r26.1 r26.2.1 r26.2.2.1 e6 x14 r37 hb47 w hGl b3 A29 c29 V54 t41_ w' (SlOk.mono hs16 (vt (vt (vt (vt hV37 hV48) hV51) hV53) hV54)) (hh.ix 4 [3, 0, 1, 2])) ?_)
         rintro v w' ⟨A41, c41, V55, hV55, hs19, rfl, hh⟩
         refine ⟨V55, t39_, hh.ix 4 [1, 2, 3, 0], ?_⟩
         clear hh
         refine T.p5 (.tuple #[.slice A41 r37.1.length c41, vi r37.2]) (.slice A41 r37.1.length c41) (vi r37.2) (.slice A41 r37.1.length c41) (vi r37.2) (fun _ => by kernel_rfl) (T.nil (T.seq (T.region (T.p4 (.slice A39 x15.length c39) (.string r35.1) (.string r36.1) (vi r35.2) (fun _ => by kernel_rfl) ?_))))
         obtain ⟨r38, hb48, hY7⟩ := ob hY7
         refine T.step (W1.call (vSc eStr) r38 71 #[vi r35.2] (by kernel_rfl) (fun _ => by kernel_rfl) (fun w' hh => annalref_Dec_l r35.2 r38 hb48 w' ) ?_)
         intro u V56 hV56 hu
         obtain rfl := sureStr _ _ _ hu
         refine T.pk (vi r36.2) (fun _ => by kernel_rfl) ?_
         obtain ⟨r39, hb49, hY7⟩ := ob hY7
         refine T.step (W1.call (vSc eStr) r39 71 #[vi r36.2] (by kernel_rfl) (fun _ => by kernel_rfl) (fun w' hh => annalref_Dec_l r36.2 r39 hb49 w' ) ?_)
         intro u V57 hV57 hu
         obtain rfl := sureStr _ _ _ hu
         refine T.pk (vi r37.2) (fun _ => by kernel_rfl) ?_
         obtain ⟨r40, hb50, hY7⟩ := ob hY7
         refine T.step (W1.call (vSc eStr) r40 71 #[vi r37.2] (by kernel_rfl) (fun _ => by kernel_rfl) (fun w' hh => annalref_Dec_l r37.2 r40 hb50 w' ) ?_)
         intro u V58 hV58 hu
         obtain rfl := sureStr _ _ _ hu
         refine T.step (W1.new 9 [.string r35.1, .string r36.1, .string r38, .string r39, .string r40] (fun b => .slice (some ⟨b, 0, none⟩) 5 5) (by kernel_rfl) (fun _ => by kernel_rfl) (fun b11 => ?_))
         obtain ⟨y18, hb51, hY7⟩ := ob hY7
         obtain ⟨hb51_r, hb51_m, rfl⟩ := grow_some hb51
         obtain ⟨ti, hti, hz1, hz2, hz3⟩ := info_parts (P := Tryz.prog) (e := 9) (z := .string (ByteArray.mk #[])) (size := 1) (bytes := 16) (by kernel_rfl)
         refine T.step (W1.append (E := eStr) (l := x15) (m := [r35.1, r36.1, r38, r39, r40]) 1 _ _ 16 ti _ (by rfl) (by kernel_rfl) rfl (by kernel_rfl) hti hz1 hz2 hz3 rfl (by decide) rfl rfl (fun w' hh => (SlOk.srcF (slok_lit (E := eStr) (f := (fun x => [.string x])) [r35.1, r36.1, r38, r39, r40] (fun _ _ => rfl) (Nat.le_of_ble_eq_true (by rfl)) (fun j => hh.cellBox (i := 0) (by rfl) j)) (fun _ _ _ _ h => h))) hb51_r hb51_m (fun A42 c42 => ?_))
         refine T.pk (.slice A42 ((x15 ++ [r35.1, r36.1, r38, r39, r40]).length) c42) (fun _ => by kernel_rfl) (T.nil (T.region (T.p2 (.slice A42 ((x15 ++ [r35.1, r36.1, r38, r39, r40]).length) c42) (.slice A41 r37.1.length c41) (fun _ => by kernel_rfl) ?_)))
         obtain ⟨y19, hb52, hY7⟩ := ob hY7
         obtain ⟨hb52_r, hb52_m, rfl⟩ := grow_some hb52
         obtain ⟨ti, hti, hz1, hz2, hz3⟩ := info_parts (P := Tryz.prog) (e := 9) (z := .string (ByteArray.mk #[])) (size := 1) (bytes := 16) (by kernel_rfl)
         refine T.step (W1.append (E := eStr) (l := (x15 ++ [r35.1, r36.1, r38, r39, r40])) (m := r37.1) 1 _ _ 16 ti _ (by rfl) (by kernel_rfl) rfl (by kernel_rfl) hti hz1 hz2 hz3 rfl (by decide) rfl rfl (fun w' hh => (SlOk.srcF (SlOk.mono (SlOk.mono hs19 (vt (made_le _ _) (vt (vt hV56 hV57) hV58))) hh.view) (fun _ _ _ _ h => h))) hb52_r hb52_m (fun A43 c43 => ?_))
         refine T.pk (.slice A43 (((x15 ++ [r35.1, r36.1, r38, r39, r40]) ++ r37.1).length) c43) (fun _ => by kernel_rfl) (T.nil (T.region (T.p2 (vi (IntKind.i64.wrap (x16 + 1))) (vi (IntKind.i64.wrap (x16 + 1))) (fun _ => by kernel_rfl) (T.nil ?_))))
         cases hY7
         exact fun a w' hf hh => ⟨(((x15 ++ [r35.1, r36.1, r38, r39, r40]) ++ r37.1), IntKind.i64.wrap (x16 + 1)), rfl, ((x15 ++ [r35.1, r36.1, r38, r39, r40]) ++ r37.1), (IntKind.i64.wrap (x16 + 1)), rfl, A43, c43, V58, (vt (vt (vt (vt (vt (vt hV51 hV53) hV54) hV55) hV56) hV57) hV58), (Fr.sel hf rfl), (hh.sub (dr1 (kp3 (kp1 kp0))))⟩
        rw [hc11, cond_false] at hY7
        refine T.exit ?_
        cases hY7
        cases (hr8 _ rfl)
        exact fun a w' hf hh => ⟨A39, c39, V51, hV51, (Fr.sel hf rfl), (hh.sub (kp3 (kp1 kp0)))⟩
       rintro a w' ⟨A40, c40, V52, hV52, hf, hh⟩
       refine (?_ : T 59 w V52 ((row 9 eStr A40 c40 z15) :: t30_) [(7, .slice A40 z15.length c40)] _) a w' hf hh
       clear hf hh
       refine T.seq (T.region (T.p2 (.slice A40 z15.length c40) (.slice A40 z15.length c40) (fun _ => by kernel_rfl) (T.nil ?_)))
       cases hX7
       refine T.ret rfl ?_
       exact T.ret1 rfl (ResIs.tmp rfl) fun w' hh => ⟨_, rfl, ⟨A40, c40, V52, hV52, rfl, (hh.sub (kp3 (kp1 kp0)))⟩⟩
      rintro v w' ⟨A38, c38, V50, hV50, rfl, hh⟩
      refine ⟨V50, ((row 9 eStr A38 c38 z14) :: t30_), hh, ?_⟩
      clear hh
      refine TA.on (Hp.old hV50 w53_ (dr2 (kp1 (dr1 kp0))) (oR1 ol0)) ?_
      refine TA.all [8] (by kernel_rfl) rfl ⟨?_, trivial⟩
      refine TA.br rfl (W1.call (vSc eBool) r41 37 #[.slice A38 z14.length c38, .slice A44 e7.length c44] (by kernel_rfl) (fun _ => by kernel_rfl) (fun w' hh => slices_Equal_string_l F z14 e7 r41 hb54 w' A38 c38 (hh.row_slOk (i := 0) (by rfl)) A44 c44 (SlOk.mono (SlOk.mono hs20 (vt (made_le _ _) hV50)) hh.view)) ?_)
      intro u V59 hV59 hu
      obtain rfl := sureBool _ _ _ hu
      refine TA.onk (Hp.old (vt hV50 hV59) w53_ (dr2 (kp1 (dr1 kp0))) (oR1 ol0)) fun o57_ => ?_
      refine TA.tp 9 (.bool (!r41)) rfl (fun _ => by kernel_rfl) (fun _ _ _ h => h) o57_ ?_
      refine TA.done (by kernel_rfl) ?_
      exact fun a w' hf hh => ⟨V59, (vt hV50 hV59), (Fr.sel hf rfl), (hh.sub (dr1 (kp2 (kp1 kp0))))⟩
     rintro a w' ⟨V60, hV60, hf, hh⟩
     refine (?_ : T 100 w V60 t30_ [(1, .slice A6 (([(ByteArray.mk #[47]), (ByteArray.mk #[47, 97])] ++ s1).length) c6), (2, .slice A3 p2.length c3), (7, pB b3 0), (8, .slice A30 z11.length c30), (47, .slice A27 s5.length c27), (48, vi (s5.length : Int)), (49, vi x11), (84, vi (z11.length : Int)), (85, vi x14), (97, .bool (!r41))] _) a w' hf hh
     clear hf hh
     refine T.cond (!r41) (by kernel_rfl) (by kernel_rfl) (fun hc12 => ?_) (fun hc12 => ?_)
     ·
      rw [hc12, cond_true] at hY6
      refine T.seq (T.region (T.pk (.bool false) (fun _ => by kernel_rfl) (T.nil ?_)))
      cases hY6
      cases (hr7 _ rfl)
      try dsimp only at hY4
      cases hY4
      cases (hr4 _ rfl)
      try dsimp only at hF
      cases hF
      refine T.ret rfl ?_
      exact T.ret1 rfl (ResIs.tmp rfl) fun w' hh => ⟨_, rfl, hh.below, (show _ from rfl)⟩
     rw [hc12, cond_false] at hY6
     refine T.skip_code ?_
     refine T.region (T.p2 (vi (IntKind.i64.wrap (x14 + 1))) (vi (IntKind.i64.wrap (x14 + 1))) (fun _ => by kernel_rfl) (T.nil ?_))
     cases hY6
     exact fun a w' hf hh => ⟨(IntKind.i64.wrap (x14 + 1)), rfl, V60, (vt hV48 hV60), (Fr.sel hf rfl), (hh.sub (kp2 (kp1 kp0)))⟩
    rw [hc10, cond_false] at hY6
    refine T.exit ?_
    cases hY6
    cases (hr7 _ rfl)
    exact fun a w' hf hh => ⟨rfl, V48, hV48, (Fr.sel hf rfl), (hh.sub (kp2 (kp1 kp0)))⟩
   rintro a w' ⟨rfl, V49, hV49, hf, hh⟩
   try dsimp only at hY4
   refine (?_ : T 100 w V49 t30_ [(1, .slice A6 (([(ByteArray.mk #[47]), (ByteArray.mk #[47, 97])] ++ s1).length) c6), (2, .slice A3 p2.length c3), (7, pB b3 0), (8, .slice A30 z11.length c30), (47, .slice A27 s5.length c27), (48, vi (s5.length : Int)), (49, vi x11)] _) a w' hf hh
   clear hf hh
   refine T.region (T.p2 (vi (IntKind.i64.wrap (x11 + 1))) (vi (IntKind.i64.wrap (x11 + 1))) (fun _ => by kernel_rfl) (T.nil ?_))
   cases hY4
   exact fun a w' hf hh => ⟨(z11, r26.1, r26.2.1, r26.2.2.1, IntKind.i64.wrap (x11 + 1)), rfl, z11, r26.1, r26.2.1, r26.2.2.1, (IntKind.i64.wrap (x11 + 1)), rfl, A30, c30, A29, c29, A27, c27, V49, (vt (vt (vt hV34 hV36) hV37) hV49), (SlOk.mono hs16 (vt hV37 hV49)), (SlOk.mono hs14 (vt (vt hV36 hV37) hV49)), (Fr.sel hf rfl), (hh.sub (kp2 (kp1 kp0)))⟩
  rw [hc5, cond_false] at hY4
  refine T.exit ?_
  cases hY4
  cases (hr4 _ rfl)
  exact fun a w' hf hh => ⟨rfl, V34, hV34, (Fr.nil hf), (hh.sub (dr2 (dr1 kp0)))⟩
 rintro a w' ⟨rfl, V35, hV35, hf, hh⟩
 try dsimp only at hF
 refine (?_ : T 100 w V35 [] [] _) a w' hf hh
 clear hf hh
 refine T.seq (T.region (T.pk (.bool true) (fun _ => by kernel_rfl) (T.nil ?_)))
 cases hF
 refine T.ret rfl ?_
 exact T.ret1 rfl (ResIs.tmp rfl) fun w' hh => ⟨_, rfl, hh.below, (show _ from rfl)⟩
end Go.Proofs.YtacjdfhllomccaaGreatDoor
