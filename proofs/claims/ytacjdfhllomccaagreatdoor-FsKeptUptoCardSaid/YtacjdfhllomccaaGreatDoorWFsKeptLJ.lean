/- Pure functions, written by walkgen.py out of the Go functions of group Ref. Their conditions: none. -/
import Derived.Test.YtacjdfhllomccaaGreatDoorKeyFJ
import Derived.Test.YtacjdfhllomccaaGreatDoorMapJ
import Derived.Test.YtacjdfhllomccaaGreatDoorSh2J
import Derived.Test.YtacjdfhllomccaaGreatDoorKeyLJ
import Derived.Test.YtacjdfhllomccaaGreatDoorEqLJ
import Derived.Test.YtacjdfhllomccaaGreatDoorFrFJ
import Derived.Test.YtacjdfhllomccaaGreatDoorRecJ
import Derived.Test.YtacjdfhllomccaaGreatDoorFrLJ
namespace Go.Proofs.YtacjdfhllomccaaGreatDoor
set_option linter.unusedVariables false
def annalref_Dec_0 (p0 : Int) : Option (ByteArray) := none
def annalref_Dec_1 (p0 : Int) : Option (ByteArray) :=
 bif decide (p0 < 10) then
  (sslice (ByteArray.mk #[48, 49, 50, 51, 52, 53, 54, 55, 56, 57]) (if (0 : Int) < p0 then p0 else 0) (IntKind.i64.wrap ((if (0 : Int) < p0 then p0 else 0) + 1))).bind fun s1 =>
  some s1
 else
  (annalref_Dec_0 (IntKind.i64.wrap ((p0 : Int).tdiv 10))).bind fun r1 =>
  (annalref_Dec_0 ((p0 : Int).tmod 10)).bind fun r2 =>
  (scat r1 r2).bind fun s2 =>
  some s2
def annalref_Dec (p0 : Int) : Option (ByteArray) :=
 bif decide (p0 < 10) then
  (sslice (ByteArray.mk #[48, 49, 50, 51, 52, 53, 54, 55, 56, 57]) (if (0 : Int) < p0 then p0 else 0) (IntKind.i64.wrap ((if (0 : Int) < p0 then p0 else 0) + 1))).bind fun s1 =>
  some s1
 else
  (annalref_Dec_1 (IntKind.i64.wrap ((p0 : Int).tdiv 10))).bind fun r1 =>
  (annalref_Dec_1 ((p0 : Int).tmod 10)).bind fun r2 =>
  (scat r1 r2).bind fun s2 =>
  some s2
end Go.Proofs.YtacjdfhllomccaaGreatDoor
/- The Go functions of group Ref compute the pure functions of that group: written by walkgen.py. Condition of each: the pure function yields a result. -/
namespace Go.Proofs.YtacjdfhllomccaaGreatDoor
set_option linter.unusedVariables false
set_option maxRecDepth 100000 in
set_option maxHeartbeats 4000000 in
theorem annalref_Dec_0_l (p0 : Int) (r : ByteArray) (hF : annalref_Dec_0 p0 = some r) (w : World)  :
 Calls Tryz.prog 71 #[.int .i64 p0] w (Post (vSc eStr) r w) := by
 cases hF
set_option maxRecDepth 100000 in
set_option maxHeartbeats 4000000 in
theorem annalref_Dec_1_l (p0 : Int) (r : ByteArray) (hF : annalref_Dec_1 p0 = some r) (w : World)  :
 Calls Tryz.prog 71 #[.int .i64 p0] w (Post (vSc eStr) r w) := by
 unfold annalref_Dec_1 at hF
 refine T.start (l := [vi p0]) Tryz.func71 rfl rfl rfl ?_
 refine T.seq (T.region (T.pk (.string (ByteArray.mk #[])) (fun _ => by kernel_rfl) (T.nil (T.seq (T.seq (T.region (T.p2 (vi p0) (.bool (decide (p0 < 10))) (fun _ => by kernel_rfl) (T.nil ?_))))))))
 refine T.cond (decide (p0 < 10)) (by kernel_rfl) (by kernel_rfl) (fun hc1 => ?_) (fun hc1 => ?_)
 ·
  rw [hc1, cond_true] at hF
  refine T.seq (T.region (T.p5 (vi p0) (vi (if (0 : Int) < p0 then p0 else 0)) (vi p0) (vi (if (0 : Int) < p0 then p0 else 0)) (vi (IntKind.i64.wrap ((if (0 : Int) < p0 then p0 else 0) + 1))) (fun _ => by kernel_rfl) ?_))
  obtain ⟨s1, hb1, hF⟩ := ob hF
  refine T.look (.string s1) (by kernel_rfl) (fun w' hh => exec_slice_str rfl rfl rfl rfl (by kernel_rfl) hb1) ?_
  refine T.pk (.string s1) (fun _ => by kernel_rfl) (T.nil ?_)
  cases hF
  refine T.ret rfl ?_
  exact T.ret1 rfl (ResIs.tmp rfl) fun w' hh => ⟨_, rfl, hh.below, (show _ from rfl)⟩
 rw [hc1, cond_false] at hF
 refine T.skip_code ?_
 refine T.seq (T.region (T.p2 (vi p0) (vi (IntKind.i64.wrap ((p0 : Int).tdiv 10))) (fun _ => by kernel_rfl) ?_))
 obtain ⟨r1, hb2, hF⟩ := ob hF
 refine T.step (W1.call (vSc eStr) r1 71 #[vi (IntKind.i64.wrap ((p0 : Int).tdiv 10))] (by kernel_rfl) (fun _ => by kernel_rfl) (fun w' hh => annalref_Dec_0_l (IntKind.i64.wrap ((p0 : Int).tdiv 10)) r1 hb2 w' ) ?_)
 intro u V1 hV1 hu
 obtain rfl := sureStr _ _ _ hu
 refine T.p2 (vi p0) (vi ((p0 : Int).tmod 10)) (fun _ => by kernel_rfl) ?_
 obtain ⟨r2, hb3, hF⟩ := ob hF
 refine T.step (W1.call (vSc eStr) r2 71 #[vi ((p0 : Int).tmod 10)] (by kernel_rfl) (fun _ => by kernel_rfl) (fun w' hh => annalref_Dec_0_l ((p0 : Int).tmod 10) r2 hb3 w' ) ?_)
 intro u V2 hV2 hu
 obtain rfl := sureStr _ _ _ hu
 obtain ⟨s2, hb4, hF⟩ := ob hF
 refine T.look (.string s2) (by kernel_rfl) (fun w' hh => exec_scat rfl rfl rfl hb4) ?_
 refine T.pk (.string s2) (fun _ => by kernel_rfl) (T.nil ?_)
 cases hF
 refine T.ret rfl ?_
 exact T.ret1 rfl (ResIs.tmp rfl) fun w' hh => ⟨_, rfl, hh.below, (show _ from rfl)⟩
set_option maxRecDepth 100000 in
set_option maxHeartbeats 4000000 in
theorem annalref_Dec_l (p0 : Int) (r : ByteArray) (hF : annalref_Dec p0 = some r) (w : World)  :
 Calls Tryz.prog 71 #[.int .i64 p0] w (Post (vSc eStr) r w) := by
 unfold annalref_Dec at hF
 refine T.start (l := [vi p0]) Tryz.func71 rfl rfl rfl ?_
 refine T.seq (T.region (T.pk (.string (ByteArray.mk #[])) (fun _ => by kernel_rfl) (T.nil (T.seq (T.seq (T.region (T.p2 (vi p0) (.bool (decide (p0 < 10))) (fun _ => by kernel_rfl) (T.nil ?_))))))))
 refine T.cond (decide (p0 < 10)) (by kernel_rfl) (by kernel_rfl) (fun hc1 => ?_) (fun hc1 => ?_)
 ·
  rw [hc1, cond_true] at hF
  refine T.seq (T.region (T.p5 (vi p0) (vi (if (0 : Int) < p0 then p0 else 0)) (vi p0) (vi (if (0 : Int) < p0 then p0 else 0)) (vi (IntKind.i64.wrap ((if (0 : Int) < p0 then p0 else 0) + 1))) (fun _ => by kernel_rfl) ?_))
  obtain ⟨s1, hb1, hF⟩ := ob hF
  refine T.look (.string s1) (by kernel_rfl) (fun w' hh => exec_slice_str rfl rfl rfl rfl (by kernel_rfl) hb1) ?_
  refine T.pk (.string s1) (fun _ => by kernel_rfl) (T.nil ?_)
  cases hF
  refine T.ret rfl ?_
  exact T.ret1 rfl (ResIs.tmp rfl) fun w' hh => ⟨_, rfl, hh.below, (show _ from rfl)⟩
 rw [hc1, cond_false] at hF
 refine T.skip_code ?_
 refine T.seq (T.region (T.p2 (vi p0) (vi (IntKind.i64.wrap ((p0 : Int).tdiv 10))) (fun _ => by kernel_rfl) ?_))
 obtain ⟨r1, hb2, hF⟩ := ob hF
 refine T.step (W1.call (vSc eStr) r1 71 #[vi (IntKind.i64.wrap ((p0 : Int).tdiv 10))] (by kernel_rfl) (fun _ => by kernel_rfl) (fun w' hh => annalref_Dec_1_l (IntKind.i64.wrap ((p0 : Int).tdiv 10)) r1 hb2 w' ) ?_)
 intro u V1 hV1 hu
 obtain rfl := sureStr _ _ _ hu
 refine T.p2 (vi p0) (vi ((p0 : Int).tmod 10)) (fun _ => by kernel_rfl) ?_
 obtain ⟨r2, hb3, hF⟩ := ob hF
 refine T.step (W1.call (vSc eStr) r2 71 #[vi ((p0 : Int).tmod 10)] (by kernel_rfl) (fun _ => by kernel_rfl) (fun w' hh => annalref_Dec_1_l ((p0 : Int).tmod 10) r2 hb3 w' ) ?_)
 intro u V2 hV2 hu
 obtain rfl := sureStr _ _ _ hu
 obtain ⟨s2, hb4, hF⟩ := ob hF
 refine T.look (.string s2) (by kernel_rfl) (fun w' hh => exec_scat rfl rfl rfl hb4) ?_
 refine T.pk (.string s2) (fun _ => by kernel_rfl) (T.nil ?_)
 cases hF
 refine T.ret rfl ?_
 exact T.ret1 rfl (ResIs.tmp rfl) fun w' hh => ⟨_, rfl, hh.below, (show _ from rfl)⟩
end Go.Proofs.YtacjdfhllomccaaGreatDoor
/- Pure functions, written by walkgen.py out of the Go functions of group Strs. Their conditions: none. -/
namespace Go.Proofs.YtacjdfhllomccaaGreatDoor
set_option linter.unusedVariables false
def slices_Equal_string (F : Nat) (p0 : (List ByteArray)) (p1 : (List ByteArray)) : Option (Bool) :=
 bif ((p0.length : Int) != (p1.length : Int)) then
  some false
 else
  (iter (σ := Int) (ρ := (Unit) ⊕ Bool) (fun x1 =>
   bif decide (x1 < (p0.length : Int)) then
    (idx p0 x1).bind fun e1 =>
    (idx p1 x1).bind fun e2 =>
    bif (!(seq e1 e2)) then
     some (.inr (.inr false))
    else
     some (.inl (IntKind.i64.wrap (x1 + 1)))
    else
     some (.inr (.inl ()))) F 0).bind fun z => match z with
   | .inl _ =>
    some true
   | .inr q => some q
end Go.Proofs.YtacjdfhllomccaaGreatDoor
/- The Go functions of group Strs compute the pure functions of that group: written by walkgen.py. Condition of each: the pure function yields a result. -/
namespace Go.Proofs.YtacjdfhllomccaaGreatDoor
set_option linter.unusedVariables false
set_option maxRecDepth 100000 in
set_option maxHeartbeats 4000000 in
theorem slices_Equal_string_l (F : Nat) (p0 : (List ByteArray)) (p1 : (List ByteArray)) (r : Bool) (hF : slices_Equal_string F p0 p1 = some r) (w : World) (A1 : Option Addr) (c1 : Nat) (hs1 : SlOk (vw w) eStr A1 c1 p0) (A2 : Option Addr) (c2 : Nat) (hs2 : SlOk (vw w) eStr A2 c2 p1) :
 Calls Tryz.prog 37 #[.slice A1 p0.length c1, .slice A2 p1.length c2] w (Post (vSc eBool) r w) := by
 unfold slices_Equal_string at hF
 refine T.start (l := [.slice A1 p0.length c1, .slice A2 p1.length c2]) Tryz.func37 rfl rfl rfl ?_
 refine T.seq (T.region (T.pk (.bool false) (fun _ => by kernel_rfl) (T.nil (T.seq (T.seq (T.region (T.p5 (.slice A1 p0.length c1) (vi (p0.length : Int)) (.slice A2 p1.length c2) (vi (p1.length : Int)) (.bool ((p0.length : Int) != (p1.length : Int))) (fun _ => by kernel_rfl) (T.nil ?_))))))))
 refine T.cond ((p0.length : Int) != (p1.length : Int)) (by kernel_rfl) (by kernel_rfl) (fun hc1 => ?_) (fun hc1 => ?_)
 ·
  rw [hc1, cond_true] at hF
  refine T.seq (T.region (T.pk (.bool false) (fun _ => by kernel_rfl) (T.nil ?_)))
  cases hF
  refine T.ret rfl ?_
  exact T.ret1 rfl (ResIs.tmp rfl) fun w' hh => ⟨_, rfl, hh.below, (show _ from rfl)⟩
 rw [hc1, cond_false] at hF
 refine T.skip_code ?_
 refine T.seq (T.seq (T.region (T.p3 (.slice A1 p0.length c1) (vi (p0.length : Int)) (vi 0) (fun _ => by kernel_rfl) (T.nil ?_))))
 obtain ⟨q1, hz1, hF⟩ := ob hF
 refine T.mid (fun a w' => q1 = Sum.inl () ∧ Fr 26 [] a ∧ Hp w (vw w) [] w') ?_ ?_
 ·
  refine T.block ?_
  refine T.iter (fun x1 a w' => Fr 26 [(0, .slice A1 p0.length c1), (1, .slice A2 p1.length c2), (12, vi (p0.length : Int)), (13, vi x1)] a ∧ Hp w (vw w) [] w') hz1 ?_ ?_
  ·
   exact fun a w' hf hh => ⟨(Fr.sel hf rfl), (hh.sub List.Sublist.slnil)⟩
  rintro x1 y1 hY1 hr1 a w' ⟨hf, hh⟩
  refine (?_ : T 26 w (vw w) [] [(0, .slice A1 p0.length c1), (1, .slice A2 p1.length c2), (12, vi (p0.length : Int)), (13, vi x1)] _) a w' hf hh
  clear hf hh
  try dsimp only at hY1
  refine T.seq (T.region (T.pk (.bool (decide (x1 < (p0.length : Int)))) (fun _ => by kernel_rfl) (T.nil (T.seq ?_))))
  refine T.cond (decide (x1 < (p0.length : Int))) (by kernel_rfl) (by kernel_rfl) (fun hc2 => ?_) (fun hc2 => ?_)
  ·
   rw [hc2, cond_true] at hY1
   refine T.skip_code ?_
   refine T.seq (T.block (T.seq (T.region (T.p2 (vi x1) (vi x1) (fun _ => by kernel_rfl) (T.nil (T.seq ?_))))))
   refine T.quiet (by kernel_rfl) (by kernel_rfl) ?_
   refine TQ.pure (.slice A1 p0.length c1) (by kernel_rfl) (fun _ => by kernel_rfl) ?_
   refine TQ.pure (vi x1) (by kernel_rfl) (fun _ => by kernel_rfl) ?_
   obtain ⟨e1, hb1, hY1⟩ := ob hY1
   obtain ⟨hi1, hi2, hi3⟩ := idx_some hb1
   refine TQ.look (.pointer (some ((sadr A1).add (x1.toNat * 1)))) (by kernel_rfl) (fun w' hh => exec_indexAddr (e := 9) (s := 1) rfl rfl rfl (by kernel_rfl) (by kernel_rfl) hi1 hi2 (hs1.some_ hi3 (by decide))) ?_
   refine TQ.look (.string e1) (by kernel_rfl) (fun w' hh => exec_load1 rfl rfl (by kernel_rfl) (hh.cell_view (SlOk.cellF0 (E := eStr) hs1 hi3 (fun _ _ _ h => h) rfl))) ?_
   refine TQ.pure (.slice A2 p1.length c2) (by kernel_rfl) (fun _ => by kernel_rfl) ?_
   refine TQ.pure (vi x1) (by kernel_rfl) (fun _ => by kernel_rfl) ?_
   obtain ⟨e2, hb2, hY1⟩ := ob hY1
   obtain ⟨hi4, hi5, hi6⟩ := idx_some hb2
   refine TQ.look (.pointer (some ((sadr A2).add (x1.toNat * 1)))) (by kernel_rfl) (fun w' hh => exec_indexAddr (e := 9) (s := 1) rfl rfl rfl (by kernel_rfl) (by kernel_rfl) hi4 hi5 (hs2.some_ hi6 (by decide))) ?_
   refine TQ.look (.string e2) (by kernel_rfl) (fun w' hh => exec_load1 rfl rfl (by kernel_rfl) (hh.cell_view (SlOk.cellF0 (E := eStr) hs2 hi6 (fun _ _ _ h => h) rfl))) ?_
   refine TQ.pure (.bool (!(seq e1 e2))) (by kernel_rfl) (fun _ => by kernel_rfl) ?_
   refine TQ.nil ?_
   refine T.cond (!(seq e1 e2)) (by kernel_rfl) (by kernel_rfl) (fun hc3 => ?_) (fun hc3 => ?_)
   ·
    rw [hc3, cond_true] at hY1
    refine T.seq (T.region (T.pk (.bool false) (fun _ => by kernel_rfl) (T.nil ?_)))
    cases hY1
    cases (hr1 _ rfl)
    try dsimp only at hF
    cases hF
    refine T.ret rfl ?_
    exact T.ret1 rfl (ResIs.tmp rfl) fun w' hh => ⟨_, rfl, hh.below, (show _ from rfl)⟩
   rw [hc3, cond_false] at hY1
   refine T.skip_code ?_
   refine T.region (T.p2 (vi (IntKind.i64.wrap (x1 + 1))) (vi (IntKind.i64.wrap (x1 + 1))) (fun _ => by kernel_rfl) (T.nil ?_))
   cases hY1
   exact fun a w' hf hh => ⟨(IntKind.i64.wrap (x1 + 1)), rfl, (Fr.sel hf rfl), (hh.sub List.Sublist.slnil)⟩
  rw [hc2, cond_false] at hY1
  refine T.exit ?_
  cases hY1
  cases (hr1 _ rfl)
  exact fun a w' hf hh => ⟨rfl, (Fr.nil hf), (hh.sub List.Sublist.slnil)⟩
 rintro a w' ⟨rfl, hf, hh⟩
 try dsimp only at hF
 refine (?_ : T 26 w (vw w) [] [] _) a w' hf hh
 clear hf hh
 refine T.seq (T.region (T.pk (.bool true) (fun _ => by kernel_rfl) (T.nil ?_)))
 cases hF
 refine T.ret rfl ?_
 exact T.ret1 rfl (ResIs.tmp rfl) fun w' hh => ⟨_, rfl, hh.below, (show _ from rfl)⟩
end Go.Proofs.YtacjdfhllomccaaGreatDoor
/- What slices.Insert and slices.Delete do to rows of the call's own, written by ownlib.py. Conditions of each: the row is the call's own, the place lies within it, there is room for one more. -/
namespace Go.Proofs.YtacjdfhllomccaaGreatDoor
open Go.RowKit
set_option linter.unusedVariables false
set_option maxRecDepth 100000 in
set_option maxHeartbeats 4000000 in
theorem own_clone_int (w : World) (V : View) (H : List HObj) (w1 : World) (A : Option Addr) (c : Nat) (l : List Int) (hs : ∀ w', Hp w V H w' → SlOk (vw w') eInt A c l) (hr : room l.length 8 = true) (hm : l.length ≤ maxLen)
 (hh : Hp w V H w1) : Calls Tryz.prog 45 #[.slice A l.length c] w1 (fun r w2 => ∃ A' c', r = .returned (.slice A' l.length c') ∧ Hp w V (row 3 eInt A' c' l :: H) w2) := by
 have hs1 := hs _ hh
 refine T.startI (l := [.slice A l.length c]) Tryz.func45 rfl rfl rfl ?_ hh
 clear hh
 refine T.seq (T.region (T.pk sN (fun _ => by kernel_rfl) (T.nil (T.seq (T.seq (T.region (T.pk (.slice A l.length c) (fun _ => by kernel_rfl) ?_)))))))
 cases A with
 | none =>
  refine T.pk (.bool true) (fun _ => by kernel_rfl) (T.nil ?_)
  refine T.cond true (by kernel_rfl) (by kernel_rfl) (fun _ => ?_) (fun h => Bool.noConfusion h)
  refine T.seq (T.region (T.pk sN (fun _ => by kernel_rfl) (T.nil ?_)))
  obtain rfl : l = [] := by
   cases l with
   | nil => rfl
   | cons x l => exact absurd (hs1.some_ (k := 0) rfl (by decide)) (by decide)
  refine T.rownil 3 eInt ?_
  refine T.ret rfl ?_
  repeat first | refine T.unthen ?_ | refine T.unblock ?_
  exact T.ret1 rfl (ResIs.tmp rfl) fun w' hh => ⟨none, 0, rfl, hh⟩
 | some a =>
  refine T.pk (.bool false) (fun _ => by kernel_rfl) (T.nil ?_)
  refine T.cond false (by kernel_rfl) (by kernel_rfl) (fun h => Bool.noConfusion h) (fun _ => ?_)
  refine T.skip_code ?_
  refine T.seq (T.region (T.step (W1.new 3 [] (fun b => .slice (some ⟨b, 0, none⟩) 0 0) (by kernel_rfl) (fun _ => by kernel_rfl) (fun b1 => ?_))))
  refine T.pk (.slice (some a) l.length c) (fun _ => by kernel_rfl) ?_
  refine (fun (h : T _ _ _ ((row 3 eInt (some ⟨b1, 0, none⟩) 0 ([] : List Int)) :: _) _ _) => (fun a w' hf hh => h a w' hf (hh.fresh_obj _ ⟨rfl, rfl, rfl, Nat.le_refl _, fun _ _ _ => rfl⟩ ⟨Nat.le_refl _, by decide, .inl rfl⟩ (fun b hb => by cases hb)) : T _ _ _ _ _ _)) ?_
  obtain ⟨ti, hti, hz1, hz2, hz3⟩ := info_parts (P := Tryz.prog) (e := 3) (z := vi 0) (size := 1) (bytes := 8) (by kernel_rfl)
  refine T.step (W1.append (E := eInt) (l := ([] : List Int)) (m := l) 0 _ _ 8 ti _ (by rfl) (by kernel_rfl) rfl (by kernel_rfl) hti hz1 hz2 hz3 rfl (by decide) rfl rfl (fun w' hh => (SlOk.srcF (hs w' (hh.sub (dr1 (dr1 kpr)))) (fun _ _ _ _ h => h))) (by simpa +zetaDelta using hr) (by simpa +zetaDelta using hm) (fun A' c' => ?_))
  refine T.pk (.slice A' (([] : List Int) ++ l).length c') (fun _ => by kernel_rfl) (T.nil ?_)
  refine T.ret rfl ?_
  repeat first | refine T.unthen ?_ | refine T.unblock ?_
  exact T.ret1 rfl (ResIs.tmp rfl) fun w' hh => ⟨A', c', rfl, hh.sub (kp1 (dr1 kpr))⟩
end Go.Proofs.YtacjdfhllomccaaGreatDoor
/- Pure functions, written by walkgen.py out of the Go functions of group WFsKept. Their conditions: none. -/
namespace Go.Proofs.YtacjdfhllomccaaGreatDoor
set_option linter.unusedVariables false
def annalkeep_FsKept (F : Nat) (p0 : (List (List Int))) (p1 : (List ByteArray)) (p2 : (List ByteArray)) (p3 : (List Int)) : Option (Bool) :=
 (
  (fs_FS_Write_fr F [(DElem.mk (DKey.mk 0 1 0) 1 0 (ByteArray.mk #[100]))] 1 2 (ByteArray.mk #[47, 97]) (ByteArray.mk #[120])).bind fun r2 =>
   bif (r2.2.2.2 != 0) then
    some true
   else
    (fs_FS_Write_fr F r2.1 r2.2.1 r2.2.2.1 (ByteArray.mk #[47, 97]) (ByteArray.mk #[121])).bind fun r3 =>
    bif (r3.2.2.2 != 0) then
     some true
    else
     (
      (grow 56 ([] : List DElem) r3.1).bind fun _ =>
       some () : Option (Unit)).bind fun _ =>
     bif (((([] : List DElem) ++ r3.1).length : Int) != 5) then
      some true
     else
      (fs_FS_Prune_fr F r3.1 r3.2.1 r3.2.2.1).bind fun r5 =>
      bif (r5.2 != 0) then
       some true
      else
       (
        (grow 56 ([] : List DElem) r5.1).bind fun _ =>
         some () : Option (Unit)).bind fun _ =>
       some (((([] : List DElem) ++ r5.1).length : Int) != 4) : Option (Bool)).bind fun z1 =>
 bif z1 then
  some false
 else
  (lslice p1 0 (if (8 : Int) < (p1.length : Int) then 8 else (p1.length : Int))).bind fun s1 =>
  (grow 16 [(ByteArray.mk #[47])] s1).bind fun _ =>
  (lslice p0 0 (if (25 : Int) < (p0.length : Int) then 25 else (p0.length : Int))).bind fun s2 =>
  (
   (iter (σ := (List DElem) × Int × Int × Int) (ρ := (List DElem) × Int × Int) (fun x => match x with
    | (x1, x2, x3, x4) =>
     bif decide (x4 < (s2.length : Int)) then
      (idx s2 x4).bind fun e1 =>
      (annalkeep_act_fr1 F x1 x2 x3 e1 ([(ByteArray.mk #[47])] ++ s1) p2).bind fun r9 =>
      some (.inl (r9.1, r9.2.1, r9.2.2.1, IntKind.i64.wrap (x4 + 1)))
      else
       some (.inr (x1, x2, x3))) F ([(DElem.mk (DKey.mk 0 1 0) 1 0 (ByteArray.mk #[100]))], 1, 2, 0)).bind fun z => match z with
    | (z5, z6, z7) =>
     some (z5, z6, z7) : Option ((List DElem) × Int × Int)).bind fun z => match z with
   | (z2, z3, z4) =>
    (lslice p3 0 (if (9 : Int) < (p3.length : Int) then 9 else (p3.length : Int))).bind fun s4 =>
    (iter (σ := (List Int) × Int) (ρ := (List Int)) (fun x => match x with
     | (x5, x6) =>
      bif decide (x6 < (s4.length : Int)) then
       (idx s4 x6).bind fun e2 =>
       (annalkeep_Within e2 (IntKind.i64.wrap (z3 + 1))).bind fun r11 =>
       (grow 8 x5 [r11]).bind fun _ =>
       some (.inl ((x5 ++ [r11]), IntKind.i64.wrap (x6 + 1)))
       else
        some (.inr x5)) F ([], 0)).bind fun z8 =>
    (grow 8 ([] : List Int) z8).bind fun _ =>
    (grow 8 z8 [z3]).bind fun _ =>
    (iter (σ := (List (List ByteArray)) × Int) (ρ := (List (List ByteArray))) (fun x => match x with
     | (x7, x8) =>
      bif decide (x8 < ((z8 ++ [z3]).length : Int)) then
       (idx (z8 ++ [z3]) x8).bind fun e3 =>
       (
        (iter (σ := (List ByteArray) × Int) (ρ := (List ByteArray)) (fun x => match x with
         | (x9, x10) =>
          bif decide (x10 < (([(ByteArray.mk #[47])] ++ s1).length : Int)) then
           (idx ([(ByteArray.mk #[47])] ++ s1) x10).bind fun e4 =>
           (fs_FS_Kind_fr F z2 z3 z4 e4 e3).bind fun r15 =>
           (fs_FS_Read_fr F z2 z3 z4 e4 e3).bind fun r16 =>
           (fs_FS_List_fr F z2 z3 z4 e4 e3).bind fun r17 =>
           (annalref_Dec r15.2).bind fun r18 =>
           (annalref_Dec r16.2).bind fun r19 =>
           (annalref_Dec r17.2).bind fun r20 =>
           (grow 16 x9 [r15.1, r16.1, r18, r19, r20]).bind fun _ =>
           (grow 16 (x9 ++ [r15.1, r16.1, r18, r19, r20]) r17.1).bind fun _ =>
           some (.inl (((x9 ++ [r15.1, r16.1, r18, r19, r20]) ++ r17.1), IntKind.i64.wrap (x10 + 1)))
           else
            some (.inr x9)) F ([], 0)).bind fun z11 =>
         some z11 : Option ((List ByteArray))).bind fun z10 =>
       (grow 24 x7 [z10]).bind fun _ =>
       some (.inl ((x7 ++ [z10]), IntKind.i64.wrap (x8 + 1)))
       else
        some (.inr x7)) F ([], 0)).bind fun z9 =>
    (fs_FS_Prune_fr1 F z2 z3 z4 z8).bind fun r21 =>
    bif (r21.2 != 0) then
     some false
    else
     (iter (σ := Int) (ρ := (Unit) ⊕ Bool) (fun x11 =>
      bif decide (x11 < ((z8 ++ [z3]).length : Int)) then
       (idx (z8 ++ [z3]) x11).bind fun e5 =>
       (
        (iter (σ := (List ByteArray) × Int) (ρ := (List ByteArray)) (fun x => match x with
         | (x12, x13) =>
          bif decide (x13 < (([(ByteArray.mk #[47])] ++ s1).length : Int)) then
           (idx ([(ByteArray.mk #[47])] ++ s1) x13).bind fun e6 =>
           (fs_FS_Kind_fr F r21.1 z3 z4 e6 e5).bind fun r23 =>
           (fs_FS_Read_fr F r21.1 z3 z4 e6 e5).bind fun r24 =>
           (fs_FS_List_fr F r21.1 z3 z4 e6 e5).bind fun r25 =>
           (annalref_Dec r23.2).bind fun r26 =>
           (annalref_Dec r24.2).bind fun r27 =>
           (annalref_Dec r25.2).bind fun r28 =>
           (grow 16 x12 [r23.1, r24.1, r26, r27, r28]).bind fun _ =>
           (grow 16 (x12 ++ [r23.1, r24.1, r26, r27, r28]) r25.1).bind fun _ =>
           some (.inl (((x12 ++ [r23.1, r24.1, r26, r27, r28]) ++ r25.1), IntKind.i64.wrap (x13 + 1)))
           else
            some (.inr x12)) F ([], 0)).bind fun z13 =>
         some z13 : Option ((List ByteArray))).bind fun z12 =>
       (idx z9 x11).bind fun e7 =>
       (slices_Equal_string F z12 e7).bind fun r29 =>
       bif (!r29) then
        some (.inr (.inr false))
       else
        some (.inl (IntKind.i64.wrap (x11 + 1)))
       else
        some (.inr (.inl ()))) F 0).bind fun z => match z with
      | .inl _ =>
       some true
      | .inr q => some q
end Go.Proofs.YtacjdfhllomccaaGreatDoor
/- The Go functions of group WFsKept compute the pure functions of that group: written by walkgen.py. Condition of each: the pure function yields a result. -/
namespace Go.Proofs.YtacjdfhllomccaaGreatDoor
set_option linter.unusedVariables false
set_option maxRecDepth 100000 in
set_option maxHeartbeats 4000000 in
theorem annalkeep_FsKept_l (F : Nat) (p0 : (List (List Int))) (p1 : (List ByteArray)) (p2 : (List ByteArray)) (p3 : (List Int)) (r : Bool) (hF : annalkeep_FsKept F p0 p1 p2 p3 = some r) (w : World) (hGl : Glob w) (A1 : Option Addr) (c1 : Nat) (hs1 : SlOk (vw w) (eList eInt) A1 c1 p0) (A2 : Option Addr) (c2 : Nat) (hs2 : SlOk (vw w) eStr A2 c2 p1) (A3 : Option Addr) (c3 : Nat) (hs3 : SlOk (vw w) eStr A3 c3 p2) (A4 : Option Addr) (c4 : Nat) (hs4 : SlOk (vw w) eInt A4 c4 p3) :
 Calls Tryz.prog 13 #[.slice A1 p0.length c1, .slice A2 p1.length c2, .slice A3 p2.length c3, .slice A4 p3.length c4] w (Post (vSc eBool) r w) := by
 unfold annalkeep_FsKept at hF
 refine T.start (l := [.slice A1 p0.length c1, .slice A2 p1.length c2, .slice A3 p2.length c3, .slice A4 p3.length c4]) Tryz.func13 rfl rfl rfl ?_
 refine T.seq (T.region (T.pk (.bool false) (fun _ => by kernel_rfl) (T.nil (T.seq (T.region ?_)))))
 let v38_ : List Value := [vi 0, vi 1, vi 0, vi 1, vi 0, .string (ByteArray.mk #[100])]
 refine T.step (W1.within 15 [] (fun v w' => ∃ (b3 : Nat) (b2 : Nat), v = pB b3 0 ∧ Hp w (vw w) ((box b3 78 [.slice (some ⟨b2, 0, none⟩) 1 1, vi 1, vi 2]) :: (box b2 44 v38_) :: []) w') Tryz.func15 rfl rfl (by kernel_rfl) (fun _ => by kernel_rfl) rfl ?_ ?_)
 ·
  refine T.seq (T.region (T.pk (.pointer none) (fun _ => by kernel_rfl) (T.nil (T.seq (T.region (T.step (W1.within 50 [vi 1] (fun v w' => v = .agg #[vi 0, vi 1, vi 0] ∧ Hp w (vw w) [] w') Tryz.func50 rfl rfl (by kernel_rfl) (fun _ => by kernel_rfl) rfl ?_ ?_)))))))
  ·
   refine T.seq (T.region (T.step (W1.np 42 [vi 0, vi 0, vi 0] (fun _ => by kernel_rfl) (fun b1 => ?_))))
   refine T.nil (T.seq (T.region (T.p2 (vi 1) (.agg #[vi 0, vi 1, vi 0]) (fun _ => by kernel_rfl) ?_)))
   let v39_ : List Value := [vi 0, vi 1, vi 0]
   refine T.step (W1.st 0 v39_ ((box b1 42 v39_) :: []) v39_ (by rfl) rfl rfl rfl rfl rfl rfl (fun _ => by kernel_rfl) ?_)
   refine T.nil ?_
   refine T.ret rfl ?_
   exact T.ret1 rfl (ResIs.cellN 0 rfl (by rfl) (fun _ => by kernel_rfl) (fun _ => by kernel_rfl)) fun w' hh => ⟨_, rfl, ⟨rfl, (hh.sub (dr1 kp0))⟩⟩
  rintro v w' ⟨rfl, hh⟩
  refine ⟨(vw w), [], hh, ?_⟩
  clear hh
  refine T.pk (.agg #[vi 0, vi 1, vi 0, vi 1, vi 0, .string (ByteArray.mk #[100])]) (fun _ => by kernel_rfl) (T.step (W1.ns 44 v38_ (fun _ => by kernel_rfl) (fun b2 => ?_)))
  refine T.pk (.agg #[.slice (some ⟨b2, 0, none⟩) 1 1, vi 1, vi 2]) (fun _ => by kernel_rfl) (T.step (W1.np 78 [.slice (some ⟨b2, 0, none⟩) 1 1, vi 1, vi 2] (fun _ => by kernel_rfl) (fun b3 => ?_)))
  refine T.pk (pB b3 0) (fun _ => by kernel_rfl) (T.nil ?_)
  refine T.ret rfl ?_
  exact T.ret1 rfl (ResIs.tmp rfl) fun w' hh => ⟨_, rfl, ⟨b3, b2, rfl, (hh.sub (kp1 (kp1 kp0)))⟩⟩
 rintro v w' ⟨b3, b2, rfl, hh⟩
 let i1_ : HObj := box b3 78 [.slice (some ⟨b2, 0, none⟩) 1 1, vi 1, vi 2]
 refine ⟨(vw w), (i1_ :: (box b2 44 v38_) :: []), hh, ?_⟩
 clear hh
 refine T.pk (pB b3 0) (fun _ => by kernel_rfl) (T.nil (T.seq ?_))
 obtain ⟨z1, hX1, hF⟩ := ob hF
 refine T.cut (fun a w' => ∃ (V1 : View), View.le (vw w) V1 ∧ Fr 125 [(0, .slice A1 p0.length c1), (1, .slice A2 p1.length c2), (2, .slice A3 p2.length c3), (3, .slice A4 p3.length c4), (48, .bool z1)] a ∧ Hp w V1 [] w') ?_ ?_
 ·
  refine T.region (T.p4 (pB b3 0) (.bool false) (.bool false) (pB b3 0) (fun _ => by kernel_rfl) ?_)
  refine T.litrow (E := eElem) (f := DElem.cells) (l := [(DElem.mk (DKey.mk 0 1 0) 1 0 (ByteArray.mk #[100]))]) 1 _ (by rfl) (fun _ _ => rfl) (Nat.succ_pos _) (Nat.le_of_ble_eq_true (by rfl)) rfl ?_
  refine T.reH (H' := (i1_ :: (row 44 eElem (some ⟨b2, 0, none⟩) ([(DElem.mk (DKey.mk 0 1 0) 1 0 (ByteArray.mk #[100]))].length) [(DElem.mk (DKey.mk 0 1 0) 1 0 (ByteArray.mk #[100]))]) :: [])) (by rfl) ?_
  refine T.freezeF (E := eElem) (H' := ((box b3 78 [.slice (some ⟨b2, 0, none⟩) ([(DElem.mk (DKey.mk 0 1 0) 1 0 (ByteArray.mk #[100]))].length) ([(DElem.mk (DKey.mk 0 1 0) 1 0 (ByteArray.mk #[100]))].length), vi 1, vi 2]) :: [])) 1 (by rfl) rfl (fun _ _ _ _ h => h) (fun V2 hV2 hs5 => ?_)
  obtain ⟨r2, hb1, hX1⟩ := ob hX1
  refine T.step (W1.callI 23 [pB b3 0, .string (ByteArray.mk #[47, 97]), .string (ByteArray.mk #[120])] (fun v w' => ∃ (A5 : Option Addr) (c5 : Nat) (V3 : View), View.le V2 V3 ∧ SlOk V3 eElem A5 c5 r2.1 ∧ v = vi r2.2.2.2 ∧ Hp w V3 ((box b3 78 [.slice A5 r2.1.length c5, vi r2.2.1, vi r2.2.2.1]) :: []) w') (by kernel_rfl) (fun _ => by kernel_rfl) (fun w' hh => fs_FS_Write_fr_l F [(DElem.mk (DKey.mk 0 1 0) 1 0 (ByteArray.mk #[100]))] 1 2 (ByteArray.mk #[47, 97]) (ByteArray.mk #[120]) r2 hb1 w hGl b3 (some ⟨b2, 0, none⟩) ([(DElem.mk (DKey.mk 0 1 0) 1 0 (ByteArray.mk #[100]))].length) V2 [] w' (SlOk.mono hs5 (vt (made_le _ _) vr)) (hh.sub (kp1 kp0))) ?_)
  rintro v w' ⟨A5, c5, V3, hV3, hs6, rfl, hh⟩
  refine ⟨_, _, hh, ?_⟩
  clear hh
  refine T.p3 (.bool (r2.2.2.2 != 0)) (.bool (r2.2.2.2 != 0)) (.bool (r2.2.2.2 != 0)) (fun _ => by kernel_rfl) ?_
  cases hg1 : (r2.2.2.2 != 0)
  ·
   skip
   rw [hg1, cond_false] at hX1
   refine T.pk (pB b3 0) (fun _ => by kernel_rfl) ?_
   obtain ⟨r3, hb2, hX1⟩ := ob hX1
   refine T.step (W1.callI 23 [pB b3 0, .string (ByteArray.mk #[47, 97]), .string (ByteArray.mk #[121])] (fun v w' => ∃ (A6 : Option Addr) (c6 : Nat) (V4 : View), View.le V3 V4 ∧ SlOk V4 eElem A6 c6 r3.1 ∧ v = vi r3.2.2.2 ∧ Hp w V4 ((box b3 78 [.slice A6 r3.1.length c6, vi r3.2.1, vi r3.2.2.1]) :: []) w') (by kernel_rfl) (fun _ => by kernel_rfl) (fun w' hh => fs_FS_Write_fr_l F r2.1 r2.2.1 r2.2.2.1 (ByteArray.mk #[47, 97]) (ByteArray.mk #[121]) r3 hb2 w hGl b3 A5 c5 V3 [] w' hs6 (hh.sub (kp1 kp0))) ?_)
   rintro v w' ⟨A6, c6, V4, hV4, hs7, rfl, hh⟩
   refine ⟨_, _, hh, ?_⟩
   clear hh
   refine T.p3 (.bool (r3.2.2.2 != 0)) (.bool (r3.2.2.2 != 0)) (.bool (r3.2.2.2 != 0)) (fun _ => by kernel_rfl) ?_
   cases hg2 : (r3.2.2.2 != 0)
   ·
    skip
    rw [hg2, cond_false] at hX1
    refine T.pk (pB b3 0) (fun _ => by kernel_rfl) ?_
    obtain ⟨q1, hX2, hX1⟩ := ob hX1
    let i2_ : HObj := box b3 78 [.slice A6 r3.1.length c6, vi r3.2.1, vi r3.2.2.1]
    refine T.step (W1.within 26 [pB b3 0] (fun v w' => q1 = () ∧ ∃ (A7 : Option Addr) (c7 : Nat), v = .slice A7 ((([] : List DElem) ++ r3.1).length) c7 ∧ Hp w V4 ((row 44 eElem A7 c7 (([] : List DElem) ++ r3.1)) :: i2_ :: []) w') Tryz.func26 rfl rfl (by kernel_rfl) (fun _ => by kernel_rfl) rfl ?_ ?_)
    ·
     refine T.seq (T.region (T.pk sN (fun _ => by kernel_rfl) (T.nil (T.seq (T.region (T.p3 (pB b3 0) (pB b3 0) (pB b3 0) (fun _ => by kernel_rfl) (T.look (.slice A6 r3.1.length c6) (by kernel_rfl) (ld1 0 rfl rfl (fun _ => by kernel_rfl) (by rfl) rfl) ?_)))))))
     refine T.rownil 44 eElem ?_
     obtain ⟨y1, hb3, hX2⟩ := ob hX2
     obtain ⟨hb3_r, hb3_m, rfl⟩ := grow_some hb3
     obtain ⟨ti, hti, hz1, hz2, hz3⟩ := info_parts (P := Tryz.prog) (e := 44) (z := .agg #[vi 0, vi 0, vi 0, vi 0, vi 0, .string (ByteArray.mk #[])]) (size := 6) (bytes := 56) (by kernel_rfl)
     refine T.step (W1.append (E := eElem) (l := ([] : List DElem)) (m := r3.1) 0 _ _ 56 ti _ (by rfl) (by kernel_rfl) rfl (by kernel_rfl) hti hz1 hz2 hz3 rfl (by decide) rfl rfl (fun w' hh => (SlOk.srcF (SlOk.mono hs7 hh.view) (fun _ _ _ _ h => h))) hb3_r hb3_m (fun A8 c8 => ?_))
     refine T.pk (.slice A8 ((([] : List DElem) ++ r3.1).length) c8) (fun _ => by kernel_rfl) (T.nil ?_)
     cases hX2
     refine T.ret rfl ?_
     exact T.ret1 rfl (ResIs.tmp rfl) fun w' hh => ⟨_, rfl, ⟨rfl, A8, c8, rfl, (hh.sub (kp1 (kp1 kp0)))⟩⟩
    rintro v w' ⟨rfl, A7, c7, rfl, hh⟩
    try dsimp only at hX1
    let i3_ : HObj := row 44 eElem A7 c7 (([] : List DElem) ++ r3.1)
    refine ⟨V4, (i3_ :: i2_ :: []), hh, ?_⟩
    clear hh
    refine T.p4 (vi ((([] : List DElem) ++ r3.1).length : Int)) (.bool (((([] : List DElem) ++ r3.1).length : Int) != 5)) (.bool (((([] : List DElem) ++ r3.1).length : Int) != 5)) (.bool (((([] : List DElem) ++ r3.1).length : Int) != 5)) (fun _ => by kernel_rfl) ?_
    cases hg3 : (((([] : List DElem) ++ r3.1).length : Int) != 5)
    ·
     skip
     rw [hg3, cond_false] at hX1
     refine T.pk (pB b3 0) (fun _ => by kernel_rfl) ?_
     obtain ⟨r5, hb4, hX1⟩ := ob hX1
     refine T.step (W1.callI 44 [pB b3 0, sN] (fun v w' => ∃ (A9 : Option Addr) (c9 : Nat) (V5 : View), View.le V4 V5 ∧ SlOk V5 eElem A9 c9 r5.1 ∧ v = vi r5.2 ∧ Hp w V5 ((box b3 78 [.slice A9 r5.1.length c9, vi r3.2.1, vi r3.2.2.1]) :: i3_ :: []) w') (by kernel_rfl) (fun _ => by kernel_rfl) (fun w' hh => fs_FS_Prune_fr_l F r3.1 r3.2.1 r3.2.2.1 r5 hb4 w hGl b3 A6 c6 V4 (i3_ :: []) w' hs7 (hh.ix 2 [1, 0])) ?_)
     rintro v w' ⟨A9, c9, V5, hV5, hs8, rfl, hh⟩
     let i4_ : HObj := box b3 78 [.slice A9 r5.1.length c9, vi r3.2.1, vi r3.2.2.1]
     let t5_ : List HObj := i3_ :: i4_ :: []
     refine ⟨V5, t5_, hh.ix 2 [1, 0], ?_⟩
     clear hh
     refine T.p3 (.bool (r5.2 != 0)) (.bool (r5.2 != 0)) (.bool (r5.2 != 0)) (fun _ => by kernel_rfl) ?_
     cases hg4 : (r5.2 != 0)
     ·
      skip
      rw [hg4, cond_false] at hX1
      refine T.pk (pB b3 0) (fun _ => by kernel_rfl) ?_
      obtain ⟨q2, hX3, hX1⟩ := ob hX1
      refine T.step (W1.within 26 [pB b3 0] (fun v w' => q2 = () ∧ ∃ (A10 : Option Addr) (c10 : Nat), v = .slice A10 ((([] : List DElem) ++ r5.1).length) c10 ∧ Hp w V5 ((row 44 eElem A10 c10 (([] : List DElem) ++ r5.1)) :: t5_) w') Tryz.func26 rfl rfl (by kernel_rfl) (fun _ => by kernel_rfl) rfl ?_ ?_)
      ·
       refine T.seq (T.region (T.pk sN (fun _ => by kernel_rfl) (T.nil (T.seq (T.region (T.p3 (pB b3 0) (pB b3 0) (pB b3 0) (fun _ => by kernel_rfl) (T.look (.slice A9 r5.1.length c9) (by kernel_rfl) (ld1 1 rfl rfl (fun _ => by kernel_rfl) (by rfl) rfl) ?_)))))))
       refine T.rownil 44 eElem ?_
       obtain ⟨y2, hb5, hX3⟩ := ob hX3
       obtain ⟨hb5_r, hb5_m, rfl⟩ := grow_some hb5
       obtain ⟨ti, hti, hz1, hz2, hz3⟩ := info_parts (P := Tryz.prog) (e := 44) (z := .agg #[vi 0, vi 0, vi 0, vi 0, vi 0, .string (ByteArray.mk #[])]) (size := 6) (bytes := 56) (by kernel_rfl)
       refine T.step (W1.append (E := eElem) (l := ([] : List DElem)) (m := r5.1) 0 _ _ 56 ti _ (by rfl) (by kernel_rfl) rfl (by kernel_rfl) hti hz1 hz2 hz3 rfl (by decide) rfl rfl (fun w' hh => (SlOk.srcF (SlOk.mono hs8 hh.view) (fun _ _ _ _ h => h))) hb5_r hb5_m (fun A11 c11 => ?_))
       refine T.pk (.slice A11 ((([] : List DElem) ++ r5.1).length) c11) (fun _ => by kernel_rfl) (T.nil ?_)
       cases hX3
       refine T.ret rfl ?_
       exact T.ret1 rfl (ResIs.tmp rfl) fun w' hh => ⟨_, rfl, ⟨rfl, A11, c11, rfl, (hh.sub (kp2 (kp1 kp0)))⟩⟩
      rintro v w' ⟨rfl, A10, c10, rfl, hh⟩
      try dsimp only at hX1
      refine ⟨V5, ((row 44 eElem A10 c10 (([] : List DElem) ++ r5.1)) :: t5_), hh, ?_⟩
      clear hh
      refine T.p3 (vi ((([] : List DElem) ++ r5.1).length : Int)) (.bool (((([] : List DElem) ++ r5.1).length : Int) != 4)) (.bool (((([] : List DElem) ++ r5.1).length : Int) != 4)) (fun _ => by kernel_rfl) (T.nil ?_)
      cases hX1
      exact fun a w' hf hh => ⟨V5, (vt (vt (vt hV2 hV3) hV4) hV5), (Fr.sel hf rfl), (hh.sub (dr2 (dr1 kp0)))⟩
     skip
     rw [hg4, cond_true] at hX1
     refine T.pass (by kernel_rfl) (by kernel_rfl) (T.pass (by kernel_rfl) (by kernel_rfl) (T.pass (by kernel_rfl) (by kernel_rfl) (T.pass (by kernel_rfl) (by kernel_rfl) (T.pk (.bool true) (fun _ => by kernel_rfl) (T.nil ?_)))))
     cases hX1
     exact fun a w' hf hh => ⟨V5, (vt (vt (vt hV2 hV3) hV4) hV5), (Fr.sel hf rfl), (hh.sub (dr1 (dr1 kp0)))⟩
    skip
    rw [hg3, cond_true] at hX1
    refine T.pass (by kernel_rfl) (by kernel_rfl) (T.pass (by kernel_rfl) (by kernel_rfl) (T.pass (by kernel_rfl) (by kernel_rfl) (T.p2 (.bool true) (.bool true) (fun _ => by kernel_rfl) (T.pass (by kernel_rfl) (by kernel_rfl) (T.pass (by kernel_rfl) (by kernel_rfl) (T.pass (by kernel_rfl) (by kernel_rfl) (T.pass (by kernel_rfl) (by kernel_rfl) (T.pk (.bool true) (fun _ => by kernel_rfl) (T.nil ?_)))))))))
    cases hX1
    exact fun a w' hf hh => ⟨V4, (vt (vt hV2 hV3) hV4), (Fr.sel hf rfl), (hh.sub (dr1 (dr1 kp0)))⟩
   skip
   rw [hg2, cond_true] at hX1
   refine T.pass (by kernel_rfl) (by kernel_rfl) (T.pass (by kernel_rfl) (by kernel_rfl) (T.pass (by kernel_rfl) (by kernel_rfl) (T.pass (by kernel_rfl) (by kernel_rfl) (T.p2 (.bool true) (.bool true) (fun _ => by kernel_rfl) (T.pass (by kernel_rfl) (by kernel_rfl) (T.pass (by kernel_rfl) (by kernel_rfl) (T.pass (by kernel_rfl) (by kernel_rfl) (T.p2 (.bool true) (.bool true) (fun _ => by kernel_rfl) (T.pass (by kernel_rfl) (by kernel_rfl) (T.pass (by kernel_rfl) (by kernel_rfl) (T.pass (by kernel_rfl) (by kernel_rfl) (T.pass (by kernel_rfl) (by kernel_rfl) (T.pk (.bool true) (fun _ => by kernel_rfl) (T.nil ?_))))))))))))))
   cases hX1
   exact fun a w' hf hh => ⟨V4, (vt (vt hV2 hV3) hV4), (Fr.sel hf rfl), (hh.sub (dr1 kp0))⟩
  skip
  rw [hg1, cond_true] at hX1
  refine T.pass (by kernel_rfl) (by kernel_rfl) (T.pass (by kernel_rfl) (by kernel_rfl) (T.pass (by kernel_rfl) (by kernel_rfl) (T.p2 (.bool true) (.bool true) (fun _ => by kernel_rfl) (T.pass (by kernel_rfl) (by kernel_rfl) (T.pass (by kernel_rfl) (by kernel_rfl) (T.pass (by kernel_rfl) (by kernel_rfl) (T.pass (by kernel_rfl) (by kernel_rfl) (T.p2 (.bool true) (.bool true) (fun _ => by kernel_rfl) (T.pass (by kernel_rfl) (by kernel_rfl) (T.pass (by kernel_rfl) (by kernel_rfl) (T.pass (by kernel_rfl) (by kernel_rfl) (T.p2 (.bool true) (.bool true) (fun _ => by kernel_rfl) (T.pass (by kernel_rfl) (by kernel_rfl) (T.pass (by kernel_rfl) (by kernel_rfl) (T.pass (by kernel_rfl) (by kernel_rfl) (T.pass (by kernel_rfl) (by kernel_rfl) (T.pk (.bool true) (fun _ => by kernel_rfl) (T.nil ?_))))))))))))))))))
  cases hX1
  exact fun a w' hf hh => ⟨V3, (vt hV2 hV3), (Fr.sel hf rfl), (hh.sub (dr1 kp0))⟩
 rintro a w' ⟨V1, hV1, hf, hh⟩
 refine (?_ : T 125 w V1 [] [(0, .slice A1 p0.length c1), (1, .slice A2 p1.length c2), (2, .slice A3 p2.length c3), (3, .slice A4 p3.length c4), (48, .bool z1)] _) a w' hf hh
 clear hf hh
 refine T.cond z1 (by kernel_rfl) (by kernel_rfl) (fun hc1 => ?_) (fun hc1 => ?_)
 ·
  rw [hc1, cond_true] at hF
  refine T.seq (T.region (T.pk (.bool false) (fun _ => by kernel_rfl) (T.nil ?_)))
  cases hF
  refine T.ret rfl ?_
  exact T.ret1 rfl (ResIs.tmp rfl) fun w' hh => ⟨_, rfl, hh.below, (show _ from rfl)⟩
 rw [hc1, cond_false] at hF
 refine T.skip_code ?_
 refine T.seq (T.region (T.step (W1.ns 9 [.string (ByteArray.mk #[47])] (fun _ => by kernel_rfl) (fun b4 => ?_))))
 refine T.p4 (.slice A2 p1.length c2) (.slice A2 p1.length c2) (vi (p1.length : Int)) (vi (if (8 : Int) < (p1.length : Int) then 8 else (p1.length : Int))) (fun _ => by kernel_rfl) ?_
 obtain ⟨s1, hb6, hF⟩ := ob hF
 refine T.look (.slice A2 s1.length c2) (by kernel_rfl) (fun w' hh => exec_slice_list0 (e := 9) (s := 1) (lx := none) (hx := (some _)) (k := .i64) (k' := .i64) rfl rfl (by kernel_rfl) (by kernel_rfl) ((SlOk.mono hs2 hV1)).1 rfl rfl hb6) ?_
 refine T.litrow (E := eStr) (f := (fun x => [.string x])) (l := [(ByteArray.mk #[47])]) 0 _ (by rfl) (fun _ _ => rfl) (Nat.succ_pos _) (Nat.le_of_ble_eq_true (by rfl)) rfl ?_
 refine T.reH (H' := ((row 9 eStr (some ⟨b4, 0, none⟩) ([(ByteArray.mk #[47])].length) [(ByteArray.mk #[47])]) :: [])) (by rfl) ?_
 obtain ⟨y3, hb7, hF⟩ := ob hF
 obtain ⟨hb7_r, hb7_m, rfl⟩ := grow_some hb7
 obtain ⟨ti, hti, hz1, hz2, hz3⟩ := info_parts (P := Tryz.prog) (e := 9) (z := .string (ByteArray.mk #[])) (size := 1) (bytes := 16) (by kernel_rfl)
 refine T.step (W1.append (E := eStr) (l := [(ByteArray.mk #[47])]) (m := s1) 0 _ _ 16 ti _ (by rfl) (by kernel_rfl) rfl (by kernel_rfl) hti hz1 hz2 hz3 rfl (by decide) rfl rfl (fun w' hh => (SlOk.srcF (SlOk.cut0 (SlOk.mono (SlOk.mono hs2 hV1) hh.view) hb6) (fun _ _ _ _ h => h))) hb7_r hb7_m (fun A12 c12 => ?_))
 refine T.pk (.slice A12 (([(ByteArray.mk #[47])] ++ s1).length) c12) (fun _ => by kernel_rfl) (T.nil (T.seq (T.region (T.p4 (.slice A1 p0.length c1) (.slice A1 p0.length c1) (vi (p0.length : Int)) (vi (if (25 : Int) < (p0.length : Int) then 25 else (p0.length : Int))) (fun _ => by kernel_rfl) ?_))))
 obtain ⟨s2, hb8, hF⟩ := ob hF
 refine T.look (.slice A1 s2.length c1) (by kernel_rfl) (fun w' hh => exec_slice_list0 (e := 55) (s := 1) (lx := none) (hx := (some _)) (k := .i64) (k' := .i64) rfl rfl (by kernel_rfl) (by kernel_rfl) ((SlOk.mono hs1 hV1)).1 rfl rfl hb8) ?_
 refine T.p2 (.slice A12 (([(ByteArray.mk #[47])] ++ s1).length) c12) (.slice A3 p2.length c3) (fun _ => by kernel_rfl) ?_
 obtain ⟨q3, hX4, hF⟩ := ob hF
 let i6_ : HObj := row 9 eStr A12 c12 ([(ByteArray.mk #[47])] ++ s1)
 refine T.step (W1.within 18 [.slice A1 s2.length c1, .slice A12 (([(ByteArray.mk #[47])] ++ s1).length) c12, .slice A3 p2.length c3] (fun v w' => ∃ (z2 : List DElem) (z3 : Int) (z4 : Int), q3 = (z2, z3, z4) ∧ ∃ (b7 : Nat) (A13 : Option Addr) (c13 : Nat) (A14 : Option Addr) (c14 : Nat) (V6 : View), View.le V1 V6 ∧ SlOk V6 eElem A13 c13 z2 ∧ SlOk V6 (eList eInt) A14 c14 s2 ∧ v = pB b7 0 ∧ Hp w V6 ((box b7 78 [.slice A13 z2.length c13, vi z3, vi z4]) :: i6_ :: []) w') Tryz.func18 rfl rfl (by kernel_rfl) (fun _ => by kernel_rfl) rfl ?_ ?_)
 ·
  refine T.seq (T.region (T.pk (.pointer none) (fun _ => by kernel_rfl) (T.nil (T.seq (T.region (T.step (W1.within 15 [] (fun v w' => ∃ (b7 : Nat) (b6 : Nat) (A15 : Option Addr) (c15 : Nat) (V7 : View), View.le V1 V7 ∧ SlOk V7 (eList eInt) A15 c15 s2 ∧ v = pB b7 0 ∧ Hp w V7 ((box b7 78 [.slice (some ⟨b6, 0, none⟩) 1 1, vi 1, vi 2]) :: (box b6 44 v38_) :: i6_ :: []) w') Tryz.func15 rfl rfl (by kernel_rfl) (fun _ => by kernel_rfl) rfl ?_ ?_)))))))
  ·
   refine T.seq (T.region (T.pk (.pointer none) (fun _ => by kernel_rfl) (T.nil (T.seq (T.region (T.step (W1.within 50 [vi 1] (fun v w' => v = .agg #[vi 0, vi 1, vi 0] ∧ Hp w V1 (i6_ :: []) w') Tryz.func50 rfl rfl (by kernel_rfl) (fun _ => by kernel_rfl) rfl ?_ ?_)))))))
   ·
    refine T.seq (T.region (T.step (W1.np 42 [vi 0, vi 0, vi 0] (fun _ => by kernel_rfl) (fun b5 => ?_))))
    refine T.nil (T.seq (T.region (T.p2 (vi 1) (.agg #[vi 0, vi 1, vi 0]) (fun _ => by kernel_rfl) ?_)))
    let v40_ : List Value := [vi 0, vi 1, vi 0]
    refine T.step (W1.st 0 v40_ ((box b5 42 v40_) :: i6_ :: []) v40_ (by rfl) rfl rfl rfl rfl rfl rfl (fun _ => by kernel_rfl) ?_)
    refine T.nil ?_
    refine T.ret rfl ?_
    exact T.ret1 rfl (ResIs.cellN 0 rfl (by rfl) (fun _ => by kernel_rfl) (fun _ => by kernel_rfl)) fun w' hh => ⟨_, rfl, ⟨rfl, (hh.sub (dr1 (kp1 kp0)))⟩⟩
   rintro v w' ⟨rfl, hh⟩
   refine ⟨V1, (i6_ :: []), hh, ?_⟩
   clear hh
   refine T.pk (.agg #[vi 0, vi 1, vi 0, vi 1, vi 0, .string (ByteArray.mk #[100])]) (fun _ => by kernel_rfl) (T.step (W1.ns 44 v38_ (fun _ => by kernel_rfl) (fun b6 => ?_)))
   refine T.pk (.agg #[.slice (some ⟨b6, 0, none⟩) 1 1, vi 1, vi 2]) (fun _ => by kernel_rfl) (T.step (W1.np 78 [.slice (some ⟨b6, 0, none⟩) 1 1, vi 1, vi 2] (fun _ => by kernel_rfl) (fun b7 => ?_)))
   refine T.pk (pB b7 0) (fun _ => by kernel_rfl) (T.nil ?_)
   refine T.ret rfl ?_
   exact T.ret1 rfl (ResIs.tmp rfl) fun w' hh => ⟨_, rfl, ⟨b7, b6, A1, c1, V1, vr, (SlOk.cut0 (SlOk.mono hs1 hV1) hb8), rfl, (hh.sub (kp2 (kp1 kp0)))⟩⟩
  rintro v w' ⟨b7, b6, A15, c15, V7, hV7, hs11, rfl, hh⟩
  let i7_ : HObj := box b7 78 [.slice (some ⟨b6, 0, none⟩) 1 1, vi 1, vi 2]
  refine ⟨V7, (i7_ :: (box b6 44 v38_) :: i6_ :: []), hh, ?_⟩
  clear hh
  refine T.pk (pB b7 0) (fun _ => by kernel_rfl) (T.nil (T.seq (T.seq (T.region (T.p2 (pB b7 0) (.bool false) (fun _ => by kernel_rfl) (T.nil ?_))))))
  refine T.cond false (by kernel_rfl) (by kernel_rfl) (fun h => Bool.noConfusion h) (fun _ => ?_)
  refine T.skip_code ?_
  refine T.seq (T.seq (T.region (T.p3 (.slice A1 s2.length c1) (vi (s2.length : Int)) (vi 0) (fun _ => by kernel_rfl) (T.nil ?_))))
  refine T.litrow (E := eElem) (f := DElem.cells) (l := [(DElem.mk (DKey.mk 0 1 0) 1 0 (ByteArray.mk #[100]))]) 1 _ (by rfl) (fun _ _ => rfl) (Nat.succ_pos _) (Nat.le_of_ble_eq_true (by rfl)) rfl ?_
  refine T.reH (H' := (i7_ :: (row 44 eElem (some ⟨b6, 0, none⟩) ([(DElem.mk (DKey.mk 0 1 0) 1 0 (ByteArray.mk #[100]))].length) [(DElem.mk (DKey.mk 0 1 0) 1 0 (ByteArray.mk #[100]))]) :: i6_ :: [])) (by rfl) ?_
  refine T.freezeF (E := eElem) (H' := ((box b7 78 [.slice (some ⟨b6, 0, none⟩) ([(DElem.mk (DKey.mk 0 1 0) 1 0 (ByteArray.mk #[100]))].length) ([(DElem.mk (DKey.mk 0 1 0) 1 0 (ByteArray.mk #[100]))].length), vi 1, vi 2]) :: i6_ :: [])) 1 (by rfl) rfl (fun _ _ _ _ h => h) (fun V8 hV8 hs12 => ?_)
  obtain ⟨q4, hz1, hX4⟩ := ob hX4
  refine T.mid (fun a w' => ∃ (z5 : List DElem) (z6 : Int) (z7 : Int), q4 = (z5, z6, z7) ∧ ∃ (A18 : Option Addr) (c18 : Nat) (V10 : View), View.le V8 V10 ∧ SlOk V10 eElem A18 c18 z5 ∧ Fr 26 [(7, pB b7 0)] a ∧ Hp w V10 ((box b7 78 [.slice A18 z5.length c18, vi z6, vi z7]) :: i6_ :: []) w') ?_ ?_
  ·
   refine T.block ?_
   refine T.iter (fun s3 a w' => ∃ (x1 : List DElem) (x2 : Int) (x3 : Int) (x4 : Int), s3 = (x1, x2, x3, x4) ∧ ∃ (A16 : Option Addr) (c16 : Nat) (A17 : Option Addr) (c17 : Nat) (V9 : View), View.le V8 V9 ∧ SlOk V9 eElem A16 c16 x1 ∧ SlOk V9 (eList eInt) A17 c17 s2 ∧ Fr 26 [(1, .slice A12 (([(ByteArray.mk #[47])] ++ s1).length) c12), (2, .slice A3 p2.length c3), (7, pB b7 0), (13, .slice A17 s2.length c17), (14, vi (s2.length : Int)), (15, vi x4)] a ∧ Hp w V9 ((box b7 78 [.slice A16 x1.length c16, vi x2, vi x3]) :: i6_ :: []) w') hz1 ?_ ?_
   ·
    exact fun a w' hf hh => ⟨[(DElem.mk (DKey.mk 0 1 0) 1 0 (ByteArray.mk #[100]))], 1, 2, 0, rfl, (some ⟨b6, 0, none⟩), ([(DElem.mk (DKey.mk 0 1 0) 1 0 (ByteArray.mk #[100]))].length), A1, c1, V8, vr, (SlOk.mono hs12 (vt (made_le _ _) vr)), (SlOk.cut0 (SlOk.mono hs1 (vt (vt hV1 hV7) hV8)) hb8), (Fr.sel hf rfl), (hh.sub (kp1 (kp1 kp0)))⟩
   rintro s3 y4 hY1 hr1 a w' ⟨x1, x2, x3, x4, rfl, A16, c16, A17, c17, V9, hV9, hs13, hs14, hf, hh⟩
   refine (?_ : T 26 w V9 ((box b7 78 [.slice A16 x1.length c16, vi x2, vi x3]) :: i6_ :: []) [(1, .slice A12 (([(ByteArray.mk #[47])] ++ s1).length) c12), (2, .slice A3 p2.length c3), (7, pB b7 0), (13, .slice A17 s2.length c17), (14, vi (s2.length : Int)), (15, vi x4)] _) a w' hf hh
   clear hf hh
   try dsimp only at hY1
   refine T.seq (T.region (T.pk (.bool (decide (x4 < (s2.length : Int)))) (fun _ => by kernel_rfl) (T.nil (T.seq ?_))))
   refine T.cond (decide (x4 < (s2.length : Int))) (by kernel_rfl) (by kernel_rfl) (fun hc2 => ?_) (fun hc2 => ?_)
   ·
    rw [hc2, cond_true] at hY1
    refine T.skip_code ?_
    refine T.seq (T.block (T.seq (T.region ?_)))
    obtain ⟨e1, hb9, hY1⟩ := ob hY1
    obtain ⟨hi1, hi2, hi3⟩ := idx_some hb9
    obtain ⟨cs1, hr2, hc3⟩ := SlOk.elem hs14 hi3
    obtain ⟨A19, c19, rfl, hs16⟩ := hr2
    refine T.look (.pointer (some ((sadr A17).add (x4.toNat * 1)))) (by kernel_rfl) (fun w' hh => exec_indexAddr (e := 55) (s := 1) rfl rfl rfl (by kernel_rfl) (by kernel_rfl) hi1 hi2 (hs14.some_ hi3 (by decide))) ?_
    refine T.look (.slice A19 e1.length c19) (by kernel_rfl) (fun w' hh => exec_load1 rfl rfl (by kernel_rfl) (hh.cell_view (View.cell_mono vr (hc3 0 _ rfl).2))) ?_
    refine T.pk (.slice A19 e1.length c19) (fun _ => by kernel_rfl) (T.nil (T.region (T.p4 (pB b7 0) (.slice A19 e1.length c19) (.slice A12 (([(ByteArray.mk #[47])] ++ s1).length) c12) (.slice A3 p2.length c3) (fun _ => by kernel_rfl) ?_)))
    obtain ⟨r9, hb10, hY1⟩ := ob hY1
    refine T.step (W1.callI 36 [pB b7 0, .slice A19 e1.length c19, .slice A12 (([(ByteArray.mk #[47])] ++ s1).length) c12, .slice A3 p2.length c3] (fun v w' => ∃ (A20 : Option Addr) (c20 : Nat) (V11 : View), View.le V9 V11 ∧ SlOk V11 eElem A20 c20 r9.1 ∧ v = vi r9.2.2.2 ∧ Hp w V11 ((box b7 78 [.slice A20 r9.1.length c20, vi r9.2.1, vi r9.2.2.1]) :: i6_ :: []) w') (by kernel_rfl) (fun _ => by kernel_rfl) (fun w' hh => annalkeep_act_fr1_l F x1 x2 x3 e1 ([(ByteArray.mk #[47])] ++ s1) p2 r9 hb10 w hGl b7 A16 c16 A19 c19 A12 c12 A3 c3 V9 [] w' hs13 hs16 (SlOk.mono hs3 (vt (vt (vt hV1 hV7) hV8) hV9)) (hh.sub (kp1 (kp1 kp0)))) ?_)
    rintro v w' ⟨A20, c20, V11, hV11, hs17, rfl, hh⟩
    refine ⟨_, _, hh, ?_⟩
    clear hh
    refine T.nil (T.region (T.p2 (vi (IntKind.i64.wrap (x4 + 1))) (vi (IntKind.i64.wrap (x4 + 1))) (fun _ => by kernel_rfl) (T.nil ?_)))
    cases hY1
    exact fun a w' hf hh => ⟨(r9.1, r9.2.1, r9.2.2.1, IntKind.i64.wrap (x4 + 1)), rfl, r9.1, r9.2.1, r9.2.2.1, (IntKind.i64.wrap (x4 + 1)), rfl, A20, c20, A17, c17, V11, (vt hV9 hV11), hs17, (SlOk.mono hs14 hV11), (Fr.sel hf rfl), (hh.sub (kp1 (kp1 kp0)))⟩
   rw [hc2, cond_false] at hY1
   refine T.exit ?_
   cases hY1
   cases (hr1 _ rfl)
   exact fun a w' hf hh => ⟨x1, x2, x3, rfl, A16, c16, V9, hV9, hs13, (Fr.sel hf rfl), (hh.sub (kp1 (kp1 kp0)))⟩
  rintro a w' ⟨z5, z6, z7, rfl, A18, c18, V10, hV10, hs15, hf, hh⟩
  try dsimp only at hX4
  refine (?_ : T 26 w V10 ((box b7 78 [.slice A18 z5.length c18, vi z6, vi z7]) :: i6_ :: []) [(7, pB b7 0)] _) a w' hf hh
  clear hf hh
  refine T.seq (T.region (T.p2 (pB b7 0) (pB b7 0) (fun _ => by kernel_rfl) (T.nil ?_)))
  cases hX4
  refine T.ret rfl ?_
  exact T.ret1 rfl (ResIs.tmp rfl) fun w' hh => ⟨_, rfl, ⟨z5, z6, z7, rfl, b7, A18, c18, A1, c1, V10, (vt (vt hV7 hV8) hV10), hs15, (SlOk.cut0 (SlOk.mono hs1 (vt (vt (vt hV1 hV7) hV8) hV10)) hb8), rfl, (hh.sub (kp1 (kp1 kp0)))⟩⟩
 rintro v w' ⟨z2, z3, z4, rfl, b7, A13, c13, A14, c14, V6, hV6, hs9, hs10, rfl, hh⟩
 try dsimp only at hF
 let i8_ : HObj := box b7 78 [.slice A13 z2.length c13, vi z3, vi z4]
 let t9_ : List HObj := i8_ :: i6_ :: []
 refine ⟨V6, t9_, hh, ?_⟩
 clear hh
 refine T.pk (pB b7 0) (fun _ => by kernel_rfl) (T.nil (T.seq (T.region (T.pk sN (fun _ => by kernel_rfl) (T.nil (T.seq (T.seq (T.region (T.p4 (.slice A4 p3.length c4) (.slice A4 p3.length c4) (vi (p3.length : Int)) (vi (if (9 : Int) < (p3.length : Int) then 9 else (p3.length : Int))) (fun _ => by kernel_rfl) ?_)))))))))
 obtain ⟨s4, hb11, hF⟩ := ob hF
 refine T.look (.slice A4 s4.length c4) (by kernel_rfl) (fun w' hh => exec_slice_list0 (e := 3) (s := 1) (lx := none) (hx := (some _)) (k := .i64) (k' := .i64) rfl rfl (by kernel_rfl) (by kernel_rfl) ((SlOk.mono hs4 (vt hV1 hV6))).1 rfl rfl hb11) ?_
 refine T.p2 (vi (s4.length : Int)) (vi 0) (fun _ => by kernel_rfl) (T.nil ?_)
 refine T.rownil 3 eInt ?_
 obtain ⟨z8, hz2, hF⟩ := ob hF
 refine T.mid (fun a w' => ∃ (A23 : Option Addr) (c23 : Nat) (V13 : View), View.le V6 V13 ∧ Fr 125 [(1, .slice A12 (([(ByteArray.mk #[47])] ++ s1).length) c12), (9, pB b7 0), (10, .slice A23 z8.length c23)] a ∧ Hp w V13 ((row 3 eInt A23 c23 z8) :: t9_) w') ?_ ?_
 ·
  refine T.block ?_
  refine T.iter (fun s5 a w' => ∃ (x5 : List Int) (x6 : Int), s5 = (x5, x6) ∧ ∃ (A21 : Option Addr) (c21 : Nat) (A22 : Option Addr) (c22 : Nat) (V12 : View), View.le V6 V12 ∧ SlOk V12 eInt A22 c22 s4 ∧ Fr 125 [(1, .slice A12 (([(ByteArray.mk #[47])] ++ s1).length) c12), (9, pB b7 0), (10, .slice A21 x5.length c21), (68, .slice A22 s4.length c22), (69, vi (s4.length : Int)), (70, vi x6)] a ∧ Hp w V12 ((row 3 eInt A21 c21 x5) :: t9_) w') hz2 ?_ ?_
  ·
   exact fun a w' hf hh => ⟨[], 0, rfl, none, 0, A4, c4, V6, vr, (SlOk.cut0 (SlOk.mono hs4 (vt hV1 hV6)) hb11), (Fr.sel hf rfl), (hh.sub (kp2 (kp1 kp0)))⟩
  rintro s5 y5 hY2 hr3 a w' ⟨x5, x6, rfl, A21, c21, A22, c22, V12, hV12, hs18, hf, hh⟩
  let t10_ : List HObj := (row 3 eInt A21 c21 x5) :: t9_
  refine (?_ : T 125 w V12 t10_ [(1, .slice A12 (([(ByteArray.mk #[47])] ++ s1).length) c12), (9, pB b7 0), (10, .slice A21 x5.length c21), (68, .slice A22 s4.length c22), (69, vi (s4.length : Int)), (70, vi x6)] _) a w' hf hh
  clear hf hh
  try dsimp only at hY2
  refine T.seq (T.region (T.pk (.bool (decide (x6 < (s4.length : Int)))) (fun _ => by kernel_rfl) (T.nil (T.seq ?_))))
  refine T.cond (decide (x6 < (s4.length : Int))) (by kernel_rfl) (by kernel_rfl) (fun hc4 => ?_) (fun hc4 => ?_)
  ·
   rw [hc4, cond_true] at hY2
   refine T.skip_code ?_
   refine T.seq (T.block (T.seq (T.region ?_)))
   obtain ⟨e2, hb12, hY2⟩ := ob hY2
   obtain ⟨hi4, hi5, hi6⟩ := idx_some hb12
   refine T.look (.pointer (some ((sadr A22).add (x6.toNat * 1)))) (by kernel_rfl) (fun w' hh => exec_indexAddr (e := 3) (s := 1) rfl rfl rfl (by kernel_rfl) (by kernel_rfl) hi4 hi5 (hs18.some_ hi6 (by decide))) ?_
   refine T.look (vi e2) (by kernel_rfl) (fun w' hh => exec_load1 rfl rfl (by kernel_rfl) (hh.cell_view (SlOk.cellF0 (E := eInt) hs18 hi6 (fun _ _ _ h => h) rfl))) ?_
   refine T.pk (vi e2) (fun _ => by kernel_rfl) (T.nil (T.region (T.p3 (.slice A21 x5.length c21) (vi e2) (pB b7 0) (fun _ => by kernel_rfl) (T.step (W1.within 21 [pB b7 0] (fun v w' => v = vi z3 ∧ Hp w V12 t10_ w') Tryz.func21 rfl rfl (by kernel_rfl) (fun _ => by kernel_rfl) rfl ?_ ?_)))))
   ·
    refine T.seq (T.region (T.pk (vi 0) (fun _ => by kernel_rfl) (T.nil (T.seq (T.region (T.p3 (pB b7 0) (pB b7 0) (pB b7 1) (fun _ => by kernel_rfl) (T.look (vi z3) (by kernel_rfl) (ld1 1 rfl rfl (fun _ => by kernel_rfl) (by rfl) rfl) ?_)))))))
    refine T.pk (vi z3) (fun _ => by kernel_rfl) (T.nil ?_)
    refine T.ret rfl ?_
    exact T.ret1 rfl (ResIs.tmp rfl) fun w' hh => ⟨_, rfl, ⟨rfl, (hh.sub (kp2 (kp1 kp0)))⟩⟩
   rintro v w' ⟨rfl, hh⟩
   refine ⟨V12, t10_, hh, ?_⟩
   clear hh
   refine T.pk (vi (IntKind.i64.wrap (z3 + 1))) (fun _ => by kernel_rfl) ?_
   obtain ⟨r11, hb13, hY2⟩ := ob hY2
   refine T.step (W1.call (vSc eInt) r11 22 #[vi e2, vi (IntKind.i64.wrap (z3 + 1))] (by kernel_rfl) (fun _ => by kernel_rfl) (fun w' hh => annalkeep_Within_l e2 (IntKind.i64.wrap (z3 + 1)) r11 hb13 w' ) ?_)
   intro u V14 hV14 hu
   obtain rfl := sureInt _ _ _ hu
   refine T.step (W1.ns 3 [vi r11] (fun _ => by kernel_rfl) (fun b8 => ?_))
   obtain ⟨y6, hb14, hY2⟩ := ob hY2
   obtain ⟨hb14_r, hb14_m, rfl⟩ := grow_some hb14
   obtain ⟨ti, hti, hz1, hz2, hz3⟩ := info_parts (P := Tryz.prog) (e := 3) (z := vi 0) (size := 1) (bytes := 8) (by kernel_rfl)
   refine T.step (W1.append (E := eInt) (l := x5) (m := [r11]) 1 _ _ 8 ti _ (by rfl) (by kernel_rfl) rfl (by kernel_rfl) hti hz1 hz2 hz3 rfl (by decide) rfl rfl (fun w' hh => (SlOk.srcF (slok_lit (E := eInt) (f := (fun x => [vi x])) [r11] (fun _ _ => rfl) (Nat.le_of_ble_eq_true (by rfl)) (fun j => hh.cellBox (i := 0) (by rfl) j)) (fun _ _ _ _ h => h))) hb14_r hb14_m (fun A24 c24 => ?_))
   refine T.pk (.slice A24 ((x5 ++ [r11]).length) c24) (fun _ => by kernel_rfl) (T.nil (T.region (T.p2 (vi (IntKind.i64.wrap (x6 + 1))) (vi (IntKind.i64.wrap (x6 + 1))) (fun _ => by kernel_rfl) (T.nil ?_))))
   cases hY2
   exact fun a w' hf hh => ⟨((x5 ++ [r11]), IntKind.i64.wrap (x6 + 1)), rfl, (x5 ++ [r11]), (IntKind.i64.wrap (x6 + 1)), rfl, A24, c24, A22, c22, V14, (vt hV12 hV14), (SlOk.mono hs18 hV14), (Fr.sel hf rfl), (hh.sub (dr1 (kp2 (kp1 kp0))))⟩
  rw [hc4, cond_false] at hY2
  refine T.exit ?_
  cases hY2
  cases (hr3 _ rfl)
  exact fun a w' hf hh => ⟨A21, c21, V12, hV12, (Fr.sel hf rfl), (hh.sub (kp2 (kp1 kp0)))⟩
 rintro a w' ⟨A23, c23, V13, hV13, hf, hh⟩
 let t11_ : List HObj := (row 3 eInt A23 c23 z8) :: t9_
 refine (?_ : T 125 w V13 t11_ [(1, .slice A12 (([(ByteArray.mk #[47])] ++ s1).length) c12), (9, pB b7 0), (10, .slice A23 z8.length c23)] _) a w' hf hh
 clear hf hh
 refine T.seq (T.region (T.pk sN (fun _ => by kernel_rfl) (T.nil (T.seq (T.region (T.pk (.slice A23 z8.length c23) (fun _ => by kernel_rfl) ?_))))))
 obtain ⟨y7, hb15, hF⟩ := ob hF
 obtain ⟨hb15_r, hb15_m, _⟩ := grow_some hb15
 refine T.step (W1.cln 45 [.slice A23 z8.length c23] (fun _ => by kernel_rfl) (fun w' hh => own_clone_int w V13 t11_ w' _ _ _ (fun w' hh => (hh.row_slOk (i := 0) (by rfl))) (by simpa +zetaDelta using hb15_r) (by simpa +zetaDelta using hb15_m) hh) (fun A25 c25 => ?_))
 refine T.pk (pB b7 0) (fun _ => by kernel_rfl) (T.step (W1.within 21 [pB b7 0] (fun v w' => v = vi z3 ∧ Hp w V13 ((row 3 eInt A25 c25 z8) :: t11_) w') Tryz.func21 rfl rfl (by kernel_rfl) (fun _ => by kernel_rfl) rfl ?_ ?_))
 ·
  refine T.seq (T.region (T.pk (vi 0) (fun _ => by kernel_rfl) (T.nil (T.seq (T.region (T.p3 (pB b7 0) (pB b7 0) (pB b7 1) (fun _ => by kernel_rfl) (T.look (vi z3) (by kernel_rfl) (ld1 2 rfl rfl (fun _ => by kernel_rfl) (by rfl) rfl) ?_)))))))
  refine T.pk (vi z3) (fun _ => by kernel_rfl) (T.nil ?_)
  refine T.ret rfl ?_
  exact T.ret1 rfl (ResIs.tmp rfl) fun w' hh => ⟨_, rfl, ⟨rfl, (hh.sub (kp3 (kp1 kp0)))⟩⟩
 rintro v w' ⟨rfl, hh⟩
 refine ⟨V13, ((row 3 eInt A25 c25 z8) :: t11_), hh, ?_⟩
 clear hh
 refine T.step (W1.ns 3 [vi z3] (fun _ => by kernel_rfl) (fun b9 => ?_))
 obtain ⟨y8, hb16, hF⟩ := ob hF
 obtain ⟨hb16_r, hb16_m, rfl⟩ := grow_some hb16
 obtain ⟨ti, hti, hz1, hz2, hz3⟩ := info_parts (P := Tryz.prog) (e := 3) (z := vi 0) (size := 1) (bytes := 8) (by kernel_rfl)
 refine T.step (W1.append (E := eInt) (l := z8) (m := [z3]) 1 _ _ 8 ti _ (by rfl) (by kernel_rfl) rfl (by kernel_rfl) hti hz1 hz2 hz3 rfl (by decide) rfl rfl (fun w' hh => (SlOk.srcF (slok_lit (E := eInt) (f := (fun x => [vi x])) [z3] (fun _ _ => rfl) (Nat.le_of_ble_eq_true (by rfl)) (fun j => hh.cellBox (i := 0) (by rfl) j)) (fun _ _ _ _ h => h))) hb16_r hb16_m (fun A26 c26 => ?_))
 refine T.pk (.slice A26 ((z8 ++ [z3]).length) c26) (fun _ => by kernel_rfl) (T.nil (T.seq (T.seq (T.region (T.p3 (.slice A26 ((z8 ++ [z3]).length) c26) (vi ((z8 ++ [z3]).length : Int)) (vi 0) (fun _ => by kernel_rfl) (T.nil ?_))))))
 refine T.rownil 23 (eAt w (eList eStr)) ?_
 obtain ⟨z9, hz3, hF⟩ := ob hF
 let i12_ : HObj := row 3 eInt A26 c26 (z8 ++ [z3])
 let t13_ : List HObj := i12_ :: t11_
 refine T.mid (fun a w' => ∃ (A28 : Option Addr) (c28 : Nat) (V16 : View), View.le V13 V16 ∧ Fr 125 [(1, .slice A12 (([(ByteArray.mk #[47])] ++ s1).length) c12), (9, pB b7 0), (10, .slice A23 z8.length c23), (13, .slice A28 z9.length c28), (14, .slice A26 ((z8 ++ [z3]).length) c26)] a ∧ Hp w V16 ((row 23 (eAt w (eList eStr)) A28 c28 z9) :: t13_) w') ?_ ?_
 ·
  refine T.block ?_
  refine T.iter (fun s6 a w' => ∃ (x7 : List (List ByteArray)) (x8 : Int), s6 = (x7, x8) ∧ ∃ (A27 : Option Addr) (c27 : Nat) (V15 : View), View.le V13 V15 ∧ Fr 125 [(1, .slice A12 (([(ByteArray.mk #[47])] ++ s1).length) c12), (9, pB b7 0), (10, .slice A23 z8.length c23), (13, .slice A27 x7.length c27), (14, .slice A26 ((z8 ++ [z3]).length) c26), (89, .slice A26 ((z8 ++ [z3]).length) c26), (90, vi ((z8 ++ [z3]).length : Int)), (91, vi x8)] a ∧ Hp w V15 ((row 23 (eAt w (eList eStr)) A27 c27 x7) :: t13_) w') hz3 ?_ ?_
  ·
   exact fun a w' hf hh => ⟨[], 0, rfl, none, 0, V13, vr, (Fr.sel hf rfl), (hh.sub (kp1 (dr1 (kp3 (kp1 kp0)))))⟩
  rintro s6 y9 hY3 hr4 a w' ⟨x7, x8, rfl, A27, c27, V15, hV15, hf, hh⟩
  let i14_ : HObj := row 23 (eAt w (eList eStr)) A27 c27 x7
  let t15_ : List HObj := i14_ :: t13_
  refine (?_ : T 125 w V15 t15_ [(1, .slice A12 (([(ByteArray.mk #[47])] ++ s1).length) c12), (9, pB b7 0), (10, .slice A23 z8.length c23), (13, .slice A27 x7.length c27), (14, .slice A26 ((z8 ++ [z3]).length) c26), (89, .slice A26 ((z8 ++ [z3]).length) c26), (90, vi ((z8 ++ [z3]).length : Int)), (91, vi x8)] _) a w' hf hh
  clear hf hh
  try dsimp only at hY3
  refine T.seq (T.region (T.pk (.bool (decide (x8 < ((z8 ++ [z3]).length : Int)))) (fun _ => by kernel_rfl) (T.nil (T.seq ?_))))
  refine T.cond (decide (x8 < ((z8 ++ [z3]).length : Int))) (by kernel_rfl) (by kernel_rfl) (fun hc5 => ?_) (fun hc5 => ?_)
  ·
   rw [hc5, cond_true] at hY3
   refine T.skip_code ?_
   refine T.seq (T.block (T.seq (T.region ?_)))
   obtain ⟨e3, hb17, hY3⟩ := ob hY3
   obtain ⟨hi7, hi8, hi9⟩ := idx_some hb17
   refine T.look (.pointer (some ((sadr A26).add (x8.toNat * 1)))) (by kernel_rfl) (ixR 1 (e := 3) (s := 1) rfl rfl rfl (fun _ => by kernel_rfl) hi7 hi8 (by rfl) hi9 (by decide)) ?_
   refine T.look (vi e3) (by kernel_rfl) (fun w' hh => exec_load1 rfl rfl (by kernel_rfl) (SlOk.wcellF0 (E := eInt) (hh.row_slOk (i := 1) (by rfl)) hi9 (fun _ _ _ h => h) rfl)) ?_
   refine T.pk (vi e3) (fun _ => by kernel_rfl) (T.nil (T.region (T.p4 (.slice A27 x7.length c27) (pB b7 0) (.slice A12 (([(ByteArray.mk #[47])] ++ s1).length) c12) (vi e3) (fun _ => by kernel_rfl) ?_)))
   obtain ⟨z10, hX5, hY3⟩ := ob hY3
   refine T.step (W1.within 35 [pB b7 0, .slice A12 (([(ByteArray.mk #[47])] ++ s1).length) c12, vi e3] (fun v w' => ∃ (A29 : Option Addr) (c29 : Nat) (V17 : View), View.le V15 V17 ∧ v = .slice A29 z10.length c29 ∧ Hp w V17 ((row 9 eStr A29 c29 z10) :: t15_) w') Tryz.func35 rfl rfl (by kernel_rfl) (fun _ => by kernel_rfl) rfl ?_ ?_)
   ·
    refine T.seq (T.region (T.pk sN (fun _ => by kernel_rfl) (T.nil (T.seq (T.region (T.pk sN (fun _ => by kernel_rfl) (T.nil (T.seq (T.seq (T.region (T.p3 (.slice A12 (([(ByteArray.mk #[47])] ++ s1).length) c12) (vi (([(ByteArray.mk #[47])] ++ s1).length : Int)) (vi 0) (fun _ => by kernel_rfl) (T.nil ?_))))))))))))
    refine T.rownil 9 eStr ?_
    obtain ⟨z11, hz4, hX5⟩ := ob hX5
    refine T.mid (fun a w' => ∃ (A31 : Option Addr) (c31 : Nat) (V19 : View), View.le V15 V19 ∧ Fr 59 [(7, .slice A31 z11.length c31)] a ∧ Hp w V19 ((row 9 eStr A31 c31 z11) :: t15_) w') ?_ ?_
    ·
     refine T.block ?_
     refine T.iter (fun s7 a w' => ∃ (x9 : List ByteArray) (x10 : Int), s7 = (x9, x10) ∧ ∃ (A30 : Option Addr) (c30 : Nat) (V18 : View), View.le V15 V18 ∧ Fr 59 [(0, pB b7 0), (2, vi e3), (7, .slice A30 x9.length c30), (16, .slice A12 (([(ByteArray.mk #[47])] ++ s1).length) c12), (17, vi (([(ByteArray.mk #[47])] ++ s1).length : Int)), (18, vi x10)] a ∧ Hp w V18 ((row 9 eStr A30 c30 x9) :: t15_) w') hz4 ?_ ?_
     ·
      exact fun a w' hf hh => ⟨[], 0, rfl, none, 0, V15, vr, (Fr.sel hf rfl), (hh.sub (kp5 (kp1 kp0)))⟩
     rintro s7 y10 hY4 hr5 a w' ⟨x9, x10, rfl, A30, c30, V18, hV18, hf, hh⟩
     let t16_ : List HObj := (row 9 eStr A30 c30 x9) :: t15_
     refine (?_ : T 59 w V18 t16_ [(0, pB b7 0), (2, vi e3), (7, .slice A30 x9.length c30), (16, .slice A12 (([(ByteArray.mk #[47])] ++ s1).length) c12), (17, vi (([(ByteArray.mk #[47])] ++ s1).length : Int)), (18, vi x10)] _) a w' hf hh
     clear hf hh
     try dsimp only at hY4
     refine T.seq (T.region (T.pk (.bool (decide (x10 < (([(ByteArray.mk #[47])] ++ s1).length : Int)))) (fun _ => by kernel_rfl) (T.nil (T.seq ?_))))
     refine T.cond (decide (x10 < (([(ByteArray.mk #[47])] ++ s1).length : Int))) (by kernel_rfl) (by kernel_rfl) (fun hc6 => ?_) (fun hc6 => ?_)
     ·
      rw [hc6, cond_true] at hY4
      refine T.skip_code ?_
      refine T.seq (T.block (T.seq (T.region ?_)))
      obtain ⟨e4, hb18, hY4⟩ := ob hY4
      obtain ⟨hi10, hi11, hi12⟩ := idx_some hb18
      refine T.look (.pointer (some ((sadr A12).add (x10.toNat * 1)))) (by kernel_rfl) (ixR 5 (e := 9) (s := 1) rfl rfl rfl (fun _ => by kernel_rfl) hi10 hi11 (by rfl) hi12 (by decide)) ?_
      refine T.look (.string e4) (by kernel_rfl) (fun w' hh => exec_load1 rfl rfl (by kernel_rfl) (SlOk.wcellF0 (E := eStr) (hh.row_slOk (i := 5) (by rfl)) hi12 (fun _ _ _ h => h) rfl)) ?_
      refine T.pk (.string e4) (fun _ => by kernel_rfl) (T.nil (T.seq (T.region (T.p3 (pB b7 0) (.string e4) (vi e3) (fun _ => by kernel_rfl) ?_))))
      obtain ⟨r15, hb19, hY4⟩ := ob hY4
      let t17_ : List HObj := (row 3 eInt A23 c23 z8) :: i6_ :: []
      let t18_ : List HObj := i12_ :: t17_
      let t19_ : List HObj := i14_ :: t18_
      let t20_ : List HObj := (row 9 eStr A30 c30 x9) :: t19_
      let t21_ : List HObj := i8_ :: t20_
      let v41_ : List Value := [pB b7 0, .string e4, vi e3]
      refine T.step (W1.callI 20 v41_ (fun v w' => ∃ (V20 : View), View.le V18 V20 ∧ v = .tuple #[.string r15.1, vi r15.2] ∧ Hp w V20 t21_ w') (by kernel_rfl) (fun _ => by kernel_rfl) (fun w' hh => fs_FS_Kind_fr_l F z2 z3 z4 e4 e3 r15 hb19 w hGl b7 A13 c13 V18 t20_ w' (SlOk.mono hs9 (vt (vt hV13 hV15) hV18)) (hh.ix 5 [4, 0, 1, 2, 3])) ?_)
      rintro v w' ⟨V20, hV20, rfl, hh⟩
      refine ⟨V20, t16_, hh.ix 5 [1, 2, 3, 4, 0], ?_⟩
      clear hh
      refine T.p5 (.tuple #[.string r15.1, vi r15.2]) (.string r15.1) (vi r15.2) (.string r15.1) (vi r15.2) (fun _ => by kernel_rfl) (T.nil (T.seq (T.region (T.p3 (pB b7 0) (.string e4) (vi e3) (fun _ => by kernel_rfl) ?_))))
      obtain ⟨r16, hb20, hY4⟩ := ob hY4
      refine T.step (W1.callI 25 v41_ (fun v w' => ∃ (V21 : View), View.le V20 V21 ∧ v = .tuple #[.string r16.1, vi r16.2] ∧ Hp w V21 t21_ w') (by kernel_rfl) (fun _ => by kernel_rfl) (fun w' hh => fs_FS_Read_fr_l F z2 z3 z4 e4 e3 r16 hb20 w hGl b7 A13 c13 V20 t20_ w' (SlOk.mono hs9 (vt (vt (vt hV13 hV15) hV18) hV20)) (hh.ix 5 [4, 0, 1, 2, 3])) ?_)
      rintro v w' ⟨V21, hV21, rfl, hh⟩
      refine ⟨V21, t16_, hh.ix 5 [1, 2, 3, 4, 0], ?_⟩
      clear hh
      refine T.p5 (.tuple #[.string r16.1, vi r16.2]) (.string r16.1) (vi r16.2) (.string r16.1) (vi r16.2) (fun _ => by kernel_rfl) (T.nil (T.seq (T.region (T.p3 (pB b7 0) (.string e4) (vi e3) (fun _ => by kernel_rfl) ?_))))
      obtain ⟨r17, hb21, hY4⟩ := ob hY4
      refine T.step (W1.callI 34 v41_ (fun v w' => ∃ (A32 : Option Addr) (c32 : Nat) (V22 : View), View.le V21 V22 ∧ SlOk (made w V22) eStr A32 c32 r17.1 ∧ v = .tuple #[.slice A32 r17.1.length c32, vi r17.2] ∧ Hp w V22 t21_ w') (by kernel_rfl) (fun _ => by kernel_rfl) (fun w' hh => fs_FS_List_fr_l F z2 z3 z4 e4 e3 r17 hb21 w hGl b7 A13 c13 V21 t20_ w' (SlOk.mono hs9 (vt (vt (vt (vt hV13 hV15) hV18) hV20) hV21)) (hh.ix 5 [4, 0, 1, 2, 3])) ?_)
      rintro v w' ⟨A32, c32, V22, hV22, hs19, rfl, hh⟩
      refine ⟨V22, t16_, hh.ix 5 [1, 2, 3, 4, 0], ?_⟩
      clear hh
      refine T.p5 (.tuple #[.slice A32 r17.1.length c32, vi r17.2]) (.slice A32 r17.1.length c32) (vi r17.2) (.slice A32 r17.1.length c32) (vi r17.2) (fun _ => by kernel_rfl) (T.nil (T.seq (T.region (T.p4 (.slice A30 x9.length c30) (.string r15.1) (.string r16.1) (vi r15.2) (fun _ => by kernel_rfl) ?_))))
      obtain ⟨r18, hb22, hY4⟩ := ob hY4
      refine T.step (W1.call (vSc eStr) r18 71 #[vi r15.2] (by kernel_rfl) (fun _ => by kernel_rfl) (fun w' hh => annalref_Dec_l r15.2 r18 hb22 w' ) ?_)
      intro u V23 hV23 hu
      obtain rfl := sureStr _ _ _ hu
      refine T.pk (vi r16.2) (fun _ => by kernel_rfl) ?_
      obtain ⟨r19, hb23, hY4⟩ := ob hY4
      refine T.step (W1.call (vSc eStr) r19 71 #[vi r16.2] (by kernel_rfl) (fun _ => by kernel_rfl) (fun w' hh => annalref_Dec_l r16.2 r19 hb23 w' ) ?_)
      intro u V24 hV24 hu
      obtain rfl := sureStr _ _ _ hu
      refine T.pk (vi r17.2) (fun _ => by kernel_rfl) ?_
      obtain ⟨r20, hb24, hY4⟩ := ob hY4
      refine T.step (W1.call (vSc eStr) r20 71 #[vi r17.2] (by kernel_rfl) (fun _ => by kernel_rfl) (fun w' hh => annalref_Dec_l r17.2 r20 hb24 w' ) ?_)
      intro u V25 hV25 hu
      obtain rfl := sureStr _ _ _ hu
      refine T.step (W1.new 9 [.string r15.1, .string r16.1, .string r18, .string r19, .string r20] (fun b => .slice (some ⟨b, 0, none⟩) 5 5) (by kernel_rfl) (fun _ => by kernel_rfl) (fun b10 => ?_))
      obtain ⟨y11, hb25, hY4⟩ := ob hY4
      obtain ⟨hb25_r, hb25_m, rfl⟩ := grow_some hb25
      obtain ⟨ti, hti, hz1, hz2, hz3⟩ := info_parts (P := Tryz.prog) (e := 9) (z := .string (ByteArray.mk #[])) (size := 1) (bytes := 16) (by kernel_rfl)
      refine T.step (W1.append (E := eStr) (l := x9) (m := [r15.1, r16.1, r18, r19, r20]) 1 _ _ 16 ti _ (by rfl) (by kernel_rfl) rfl (by kernel_rfl) hti hz1 hz2 hz3 rfl (by decide) rfl rfl (fun w' hh => (SlOk.srcF (slok_lit (E := eStr) (f := (fun x => [.string x])) [r15.1, r16.1, r18, r19, r20] (fun _ _ => rfl) (Nat.le_of_ble_eq_true (by rfl)) (fun j => hh.cellBox (i := 0) (by rfl) j)) (fun _ _ _ _ h => h))) hb25_r hb25_m (fun A33 c33 => ?_))
      refine T.pk (.slice A33 ((x9 ++ [r15.1, r16.1, r18, r19, r20]).length) c33) (fun _ => by kernel_rfl) (T.nil (T.region (T.p2 (.slice A33 ((x9 ++ [r15.1, r16.1, r18, r19, r20]).length) c33) (.slice A32 r17.1.length c32) (fun _ => by kernel_rfl) ?_)))
      obtain ⟨y12, hb26, hY4⟩ := ob hY4
      obtain ⟨hb26_r, hb26_m, rfl⟩ := grow_some hb26
      obtain ⟨ti, hti, hz1, hz2, hz3⟩ := info_parts (P := Tryz.prog) (e := 9) (z := .string (ByteArray.mk #[])) (size := 1) (bytes := 16) (by kernel_rfl)
      refine T.step (W1.append (E := eStr) (l := (x9 ++ [r15.1, r16.1, r18, r19, r20])) (m := r17.1) 1 _ _ 16 ti _ (by rfl) (by kernel_rfl) rfl (by kernel_rfl) hti hz1 hz2 hz3 rfl (by decide) rfl rfl (fun w' hh => (SlOk.srcF (SlOk.mono (SlOk.mono hs19 (vt (made_le _ _) (vt (vt hV23 hV24) hV25))) hh.view) (fun _ _ _ _ h => h))) hb26_r hb26_m (fun A34 c34 => ?_))
      refine T.pk (.slice A34 (((x9 ++ [r15.1, r16.1, r18, r19, r20]) ++ r17.1).length) c34) (fun _ => by kernel_rfl) (T.nil (T.region (T.p2 (vi (IntKind.i64.wrap (x10 + 1))) (vi (IntKind.i64.wrap (x10 + 1))) (fun _ => by kernel_rfl) (T.nil ?_))))
      cases hY4
      exact fun a w' hf hh => ⟨(((x9 ++ [r15.1, r16.1, r18, r19, r20]) ++ r17.1), IntKind.i64.wrap (x10 + 1)), rfl, ((x9 ++ [r15.1, r16.1, r18, r19, r20]) ++ r17.1), (IntKind.i64.wrap (x10 + 1)), rfl, A34, c34, V25, (vt (vt (vt (vt (vt (vt hV18 hV20) hV21) hV22) hV23) hV24) hV25), (Fr.sel hf rfl), (hh.sub (dr1 (kp5 (kp1 kp0))))⟩
     rw [hc6, cond_false] at hY4
     refine T.exit ?_
     cases hY4
     cases (hr5 _ rfl)
     exact fun a w' hf hh => ⟨A30, c30, V18, hV18, (Fr.sel hf rfl), (hh.sub (kp5 (kp1 kp0)))⟩
    rintro a w' ⟨A31, c31, V19, hV19, hf, hh⟩
    refine (?_ : T 59 w V19 ((row 9 eStr A31 c31 z11) :: t15_) [(7, .slice A31 z11.length c31)] _) a w' hf hh
    clear hf hh
    refine T.seq (T.region (T.p2 (.slice A31 z11.length c31) (.slice A31 z11.length c31) (fun _ => by kernel_rfl) (T.nil ?_)))
    cases hX5
    refine T.ret rfl ?_
    exact T.ret1 rfl (ResIs.tmp rfl) fun w' hh => ⟨_, rfl, ⟨A31, c31, V19, hV19, rfl, (hh.sub (kp5 (kp1 kp0)))⟩⟩
   rintro v w' ⟨A29, c29, V17, hV17, rfl, hh⟩
   refine ⟨V17, ((row 9 eStr A29 c29 z10) :: t15_), hh, ?_⟩
   clear hh
   refine T.step (W1.ns 23 [.slice A29 z10.length c29] (fun _ => by kernel_rfl) (fun b11 => ?_))
   refine T.freezeF (E := eStr) (H' := ((box b11 23 [.slice A29 z10.length c29]) :: t15_)) 1 (by rfl) rfl (fun _ _ _ _ h => h) (fun V26 hV26 hs20 => ?_)
   obtain ⟨y13, hb27, hY3⟩ := ob hY3
   obtain ⟨hb27_r, hb27_m, rfl⟩ := grow_some hb27
   obtain ⟨ti, hti, hz1, hz2, hz3⟩ := info_parts (P := Tryz.prog) (e := 23) (z := sN) (size := 1) (bytes := 24) (by kernel_rfl)
   refine T.step (W1.append (E := (eAt w (eList eStr))) (l := x7) (m := [z10]) 1 _ _ 24 ti _ (by rfl) (by kernel_rfl) rfl (by kernel_rfl) hti hz1 hz2 hz3 rfl (Nat.le_of_ble_eq_true rfl) rfl rfl (fun w' hh => (src_one (E := (eAt w (eList eStr))) hh (i := 0) (by rfl) ⟨A29, c29, rfl, (SlOk.mono hs20 (made_mono vr))⟩)) hb27_r hb27_m (fun A35 c35 => ?_))
   refine T.pk (.slice A35 ((x7 ++ [z10]).length) c35) (fun _ => by kernel_rfl) (T.nil (T.region (T.p2 (vi (IntKind.i64.wrap (x8 + 1))) (vi (IntKind.i64.wrap (x8 + 1))) (fun _ => by kernel_rfl) (T.nil ?_))))
   cases hY3
   exact fun a w' hf hh => ⟨((x7 ++ [z10]), IntKind.i64.wrap (x8 + 1)), rfl, (x7 ++ [z10]), (IntKind.i64.wrap (x8 + 1)), rfl, A35, c35, V26, (vt (vt hV15 hV17) hV26), (Fr.sel hf rfl), (hh.sub (dr1 (kp4 (kp1 kp0))))⟩
  rw [hc5, cond_false] at hY3
  refine T.exit ?_
  cases hY3
  cases (hr4 _ rfl)
  exact fun a w' hf hh => ⟨A27, c27, V15, hV15, (Fr.sel hf rfl), (hh.sub (kp4 (kp1 kp0)))⟩
 rintro a w' ⟨A28, c28, V16, hV16, hf, hh⟩
 let i22_ : HObj := row 23 (eAt w (eList eStr)) A28 c28 z9
 refine (?_ : T 125 w V16 (i22_ :: t13_) [(1, .slice A12 (([(ByteArray.mk #[47])] ++ s1).length) c12), (9, pB b7 0), (10, .slice A23 z8.length c23), (13, .slice A28 z9.length c28), (14, .slice A26 ((z8 ++ [z3]).length) c26)] _) a w' hf hh
 clear hf hh
 refine T.seq (T.seq (T.region (T.p2 (pB b7 0) (.slice A23 z8.length c23) (fun _ => by kernel_rfl) ?_)))
 obtain ⟨r21, hb28, hF⟩ := ob hF
 let t23_ : List HObj := i12_ :: i6_ :: []
 let t24_ : List HObj := i22_ :: t23_
 refine T.step (W1.callI 44 [pB b7 0, .slice A23 z8.length c23] (fun v w' => ∃ (A36 : Option Addr) (c36 : Nat) (V27 : View), View.le V16 V27 ∧ SlOk V27 eElem A36 c36 r21.1 ∧ v = vi r21.2 ∧ Hp w V27 ((box b7 78 [.slice A36 r21.1.length c36, vi z3, vi z4]) :: (row 3 eInt A23 c23 z8) :: t24_) w') (by kernel_rfl) (fun _ => by kernel_rfl) (fun w' hh => fs_FS_Prune_fr1_l F z2 z3 z4 z8 r21 hb28 w hGl b7 A13 c13 A23 c23 V16 t24_ w' (SlOk.mono hs9 (vt hV13 hV16)) (hh.ix 4 [3, 2, 0, 1])) ?_)
 rintro v w' ⟨A36, c36, V27, hV27, hs21, rfl, hh⟩
 let i25_ : HObj := box b7 78 [.slice A36 r21.1.length c36, vi z3, vi z4]
 let t26_ : List HObj := i25_ :: i6_ :: []
 refine ⟨V27, (i22_ :: i12_ :: (row 3 eInt A23 c23 z8) :: t26_), hh.ix 4 [2, 3, 1, 0], ?_⟩
 clear hh
 refine T.pk (.bool (r21.2 != 0)) (fun _ => by kernel_rfl) (T.nil ?_)
 refine T.cond (r21.2 != 0) (by kernel_rfl) (by kernel_rfl) (fun hc7 => ?_) (fun hc7 => ?_)
 ·
  rw [hc7, cond_true] at hF
  refine T.seq (T.region (T.pk (.bool false) (fun _ => by kernel_rfl) (T.nil ?_)))
  cases hF
  refine T.ret rfl ?_
  exact T.ret1 rfl (ResIs.tmp rfl) fun w' hh => ⟨_, rfl, hh.below, (show _ from rfl)⟩
 rw [hc7, cond_false] at hF
 refine T.skip_code ?_
 refine T.seq (T.seq (T.region (T.p3 (.slice A26 ((z8 ++ [z3]).length) c26) (vi ((z8 ++ [z3]).length : Int)) (vi 0) (fun _ => by kernel_rfl) (T.nil ?_))))
 obtain ⟨q5, hz5, hF⟩ := ob hF
 refine T.mid (fun a w' => q5 = Sum.inl () ∧ ∃ (V29 : View), View.le V27 V29 ∧ Fr 125 [] a ∧ Hp w V29 [] w') ?_ ?_
 ·
  refine T.block ?_
  let t27_ : List HObj := i12_ :: t26_
  let t28_ : List HObj := i22_ :: t27_
  refine T.iter (fun x11 a w' => ∃ (V28 : View), View.le V27 V28 ∧ Fr 125 [(1, .slice A12 (([(ByteArray.mk #[47])] ++ s1).length) c12), (9, pB b7 0), (13, .slice A28 z9.length c28), (107, .slice A26 ((z8 ++ [z3]).length) c26), (108, vi ((z8 ++ [z3]).length : Int)), (109, vi x11)] a ∧ Hp w V28 t28_ w') hz5 ?_ ?_
  ·
   exact fun a w' hf hh => ⟨V27, vr, (Fr.sel hf rfl), (hh.sub (kp2 (dr1 (kp1 (kp1 kp0)))))⟩
  rintro x11 y14 hY5 hr6 a w' ⟨V28, hV28, hf, hh⟩
  refine (?_ : T 125 w V28 t28_ [(1, .slice A12 (([(ByteArray.mk #[47])] ++ s1).length) c12), (9, pB b7 0), (13, .slice A28 z9.length c28), (107, .slice A26 ((z8 ++ [z3]).length) c26), (108, vi ((z8 ++ [z3]).length : Int)), (109, vi x11)] _) a w' hf hh
  clear hf hh
  try dsimp only at hY5
  refine T.seq (T.region (T.pk (.bool (decide (x11 < ((z8 ++ [z3]).length : Int)))) (fun _ => by kernel_rfl) (T.nil (T.seq ?_))))
  refine T.cond (decide (x11 < ((z8 ++ [z3]).length : Int))) (by kernel_rfl) (by kernel_rfl) (fun hc8 => ?_) (fun hc8 => ?_)
  ·
   rw [hc8, cond_true] at hY5
   refine T.skip_code ?_
   refine T.seq (T.block (T.seq (T.region (T.pk (vi x11) (fun _ => by kernel_rfl) ?_))))
   obtain ⟨e5, hb29, hY5⟩ := ob hY5
   obtain ⟨hi13, hi14, hi15⟩ := idx_some hb29
   refine T.look (.pointer (some ((sadr A26).add (x11.toNat * 1)))) (by kernel_rfl) (ixR 1 (e := 3) (s := 1) rfl rfl rfl (fun _ => by kernel_rfl) hi13 hi14 (by rfl) hi15 (by decide)) ?_
   refine T.look (vi e5) (by kernel_rfl) (fun w' hh => exec_load1 rfl rfl (by kernel_rfl) (SlOk.wcellF0 (E := eInt) (hh.row_slOk (i := 1) (by rfl)) hi15 (fun _ _ _ h => h) rfl)) ?_
   refine T.p2 (vi x11) (vi e5) (fun _ => by kernel_rfl) (T.nil (T.seq ?_))
   obtain ⟨z12, hX6, hY5⟩ := ob hY5
   obtain ⟨e7, hb39, hY5⟩ := ob hY5
   obtain ⟨r29, hb40, hY5⟩ := ob hY5
   refine T.mid (fun a w' => ∃ (V40 : View), View.le V28 V40 ∧ Fr 125 [(1, .slice A12 (([(ByteArray.mk #[47])] ++ s1).length) c12), (9, pB b7 0), (13, .slice A28 z9.length c28), (107, .slice A26 ((z8 ++ [z3]).length) c26), (108, vi ((z8 ++ [z3]).length : Int)), (109, vi x11), (123, .bool (!r29))] a ∧ Hp w V40 t28_ w') ?_ ?_
   ·
    refine T.held t23_ (by kernel_rfl) ?_
    have w45_ := vt (vt (vt (vt (vt hV1 hV6) hV13) hV16) hV27) hV28
    refine TA.keep (Hp.old vr w45_ (dr1 (kp1 (dr1 (kp1 kp0)))) (oR1 (oR1 ol0))) fun o46_ => ?_
    refine TA.tp 0 (pB b7 0) rfl (fun _ => by kernel_rfl) (fun _ _ _ h => h) o46_ ?_
    refine TA.tp 1 (.slice A12 (([(ByteArray.mk #[47])] ++ s1).length) c12) rfl (fun _ => by kernel_rfl) (fun _ _ _ h => h) o46_ ?_
    refine TA.tp 2 (vi e5) rfl (fun _ => by kernel_rfl) (fun _ _ _ h => h) o46_ ?_
    refine TA.tp 4 (.slice A28 z9.length c28) rfl (fun _ => by kernel_rfl) (fun _ _ _ h => h) o46_ ?_
    refine TA.tp 5 (vi x11) rfl (fun _ => by kernel_rfl) (fun _ _ _ h => h) o46_ ?_
    refine TA.all [3, 6] (by kernel_rfl) rfl ⟨?_, ?_, trivial⟩
    ·
     refine TA.br rfl (W1.within 35 [pB b7 0, .slice A12 (([(ByteArray.mk #[47])] ++ s1).length) c12, vi e5] (fun v w' => ∃ (A37 : Option Addr) (c37 : Nat) (V30 : View), View.le V28 V30 ∧ v = .slice A37 z12.length c37 ∧ Hp w V30 ((row 9 eStr A37 c37 z12) :: t28_) w') Tryz.func35 rfl rfl (by kernel_rfl) (fun _ => by kernel_rfl) rfl ?_ ?_)
     ·
      refine T.seq (T.region (T.pk sN (fun _ => by kernel_rfl) (T.nil (T.seq (T.region (T.pk sN (fun _ => by kernel_rfl) (T.nil (T.seq (T.seq (T.region (T.p3 (.slice A12 (([(ByteArray.mk #[47])] ++ s1).length) c12) (vi (([(ByteArray.mk #[47])] ++ s1).length : Int)) (vi 0) (fun _ => by kernel_rfl) (T.nil ?_))))))))))))
      refine T.rownil 9 eStr ?_
      obtain ⟨z13, hz6, hX6⟩ := ob hX6
      refine T.mid (fun a w' => ∃ (A39 : Option Addr) (c39 : Nat) (V32 : View), View.le V28 V32 ∧ Fr 59 [(7, .slice A39 z13.length c39)] a ∧ Hp w V32 ((row 9 eStr A39 c39 z13) :: t28_) w') ?_ ?_
      ·
       refine T.block ?_
       refine T.iter (fun s8 a w' => ∃ (x12 : List ByteArray) (x13 : Int), s8 = (x12, x13) ∧ ∃ (A38 : Option Addr) (c38 : Nat) (V31 : View), View.le V28 V31 ∧ Fr 59 [(0, pB b7 0), (2, vi e5), (7, .slice A38 x12.length c38), (16, .slice A12 (([(ByteArray.mk #[47])] ++ s1).length) c12), (17, vi (([(ByteArray.mk #[47])] ++ s1).length : Int)), (18, vi x13)] a ∧ Hp w V31 ((row 9 eStr A38 c38 x12) :: t28_) w') hz6 ?_ ?_
       ·
        exact fun a w' hf hh => ⟨[], 0, rfl, none, 0, V28, vr, (Fr.sel hf rfl), (hh.sub (kp4 (kp1 kp0)))⟩
       rintro s8 y15 hY6 hr7 a w' ⟨x12, x13, rfl, A38, c38, V31, hV31, hf, hh⟩
       let t29_ : List HObj := (row 9 eStr A38 c38 x12) :: t28_
       refine (?_ : T 59 w V31 t29_ [(0, pB b7 0), (2, vi e5), (7, .slice A38 x12.length c38), (16, .slice A12 (([(ByteArray.mk #[47])] ++ s1).length) c12), (17, vi (([(ByteArray.mk #[47])] ++ s1).length : Int)), (18, vi x13)] _) a w' hf hh
       clear hf hh
       try dsimp only at hY6
       refine T.seq (T.region (T.pk (.bool (decide (x13 < (([(ByteArray.mk #[47])] ++ s1).length : Int)))) (fun _ => by kernel_rfl) (T.nil (T.seq ?_))))
       refine T.cond (decide (x13 < (([(ByteArray.mk #[47])] ++ s1).length : Int))) (by kernel_rfl) (by kernel_rfl) (fun hc9 => ?_) (fun hc9 => ?_)
       ·
        rw [hc9, cond_true] at hY6
        refine T.skip_code ?_
        refine T.seq (T.block (T.seq (T.region ?_)))
        obtain ⟨e6, hb30, hY6⟩ := ob hY6
        obtain ⟨hi16, hi17, hi18⟩ := idx_some hb30
        refine T.look (.pointer (some ((sadr A12).add (x13.toNat * 1)))) (by kernel_rfl) (ixR 4 (e := 9) (s := 1) rfl rfl rfl (fun _ => by kernel_rfl) hi16 hi17 (by rfl) hi18 (by decide)) ?_
        refine T.look (.string e6) (by kernel_rfl) (fun w' hh => exec_load1 rfl rfl (by kernel_rfl) (SlOk.wcellF0 (E := eStr) (hh.row_slOk (i := 4) (by rfl)) hi18 (fun _ _ _ h => h) rfl)) ?_
        refine T.pk (.string e6) (fun _ => by kernel_rfl) (T.nil (T.seq (T.region (T.p3 (pB b7 0) (.string e6) (vi e5) (fun _ => by kernel_rfl) ?_))))
        obtain ⟨r23, hb31, hY6⟩ := ob hY6
        let t30_ : List HObj := (row 9 eStr A38 c38 x12) :: t24_
        let t31_ : List HObj := i25_ :: t30_
        let v42_ : List Value := [pB b7 0, .string e6, vi e5]
        refine T.step (W1.callI 20 v42_ (fun v w' => ∃ (V33 : View), View.le V31 V33 ∧ v = .tuple #[.string r23.1, vi r23.2] ∧ Hp w V33 t31_ w') (by kernel_rfl) (fun _ => by kernel_rfl) (fun w' hh => fs_FS_Kind_fr_l F r21.1 z3 z4 e6 e5 r23 hb31 w hGl b7 A36 c36 V31 t30_ w' (SlOk.mono hs21 (vt hV28 hV31)) (hh.ix 4 [3, 0, 1, 2])) ?_)
        rintro v w' ⟨V33, hV33, rfl, hh⟩
        refine ⟨V33, t29_, hh.ix 4 [1, 2, 3, 0], ?_⟩
        clear hh
        refine T.p5 (.tuple #[.string r23.1, vi r23.2]) (.string r23.1) (vi r23.2) (.string r23.1) (vi r23.2) (fun _ => by kernel_rfl) (T.nil (T.seq (T.region (T.p3 (pB b7 0) (.string e6) (vi e5) (fun _ => by kernel_rfl) ?_))))
        obtain ⟨r24, hb32, hY6⟩ := ob hY6
        refine T.step (W1.callI 25 v42_ (fun v w' => ∃ (V34 : View), View.le V33 V34 ∧ v = .tuple #[.string r24.1, vi r24.2] ∧ Hp w V34 t31_ w') (by kernel_rfl) (fun _ => by kernel_rfl) (fun w' hh => fs_FS_Read_fr_l F r21.1 z3 z4 e6 e5 r24 hb32 w hGl b7 A36 c36 V33 t30_ w' (SlOk.mono hs21 (vt (vt hV28 hV31) hV33)) (hh.ix 4 [3, 0, 1, 2])) ?_)
        rintro v w' ⟨V34, hV34, rfl, hh⟩
        refine ⟨V34, t29_, hh.ix 4 [1, 2, 3, 0], ?_⟩
        clear hh
        refine T.p5 (.tuple #[.string r24.1, vi r24.2]) (.string r24.1) (vi r24.2) (.string r24.1) (vi r24.2) (fun _ => by kernel_rfl) (T.nil (T.seq (T.region (T.p3 (pB b7 0) (.string e6) (vi e5) (fun _ => by kernel_rfl) ?_))))
        obtain ⟨r25, hb33, hY6⟩ := ob hY6
        refine T.step (W1.callI 34 v42_ (fun v w' => ∃ (A40 : Option Addr) (c40 : Nat) (V35 : View), View.le V34 V35 ∧ SlOk (made w V35) eStr A40 c40 r25.1 ∧ v = .tuple #[.slice A40 r25.1.length c40, vi r25.2] ∧ Hp w V35 t31_ w') (by kernel_rfl) (fun _ => by kernel_rfl) (fun w' hh => fs_FS_List_fr_l F r21.1 z3 z4 e6 e5 r25 hb33 w hGl b7 A36 c36 V34 t30_ w' (SlOk.mono hs21 (vt (vt (vt hV28 hV31) hV33) hV34)) (hh.ix 4 [3, 0, 1, 2])) ?_)
        rintro v w' ⟨A40, c40, V35, hV35, hs22, rfl, hh⟩
        refine ⟨V35, t29_, hh.ix 4 [1, 2, 3, 0], ?_⟩
        clear hh
        refine T.p5 (.tuple #[.slice A40 r25.1.length c40, vi r25.2]) (.slice A40 r25.1.length c40) (vi r25.2) (.slice A40 r25.1.length c40) (vi r25.2) (fun _ => by kernel_rfl) (T.nil (T.seq (T.region (T.p4 (.slice A38 x12.length c38) (.string r23.1) (.string r24.1) (vi r23.2) (fun _ => by kernel_rfl) ?_))))
        obtain ⟨r26, hb34, hY6⟩ := ob hY6
        refine T.step (W1.call (vSc eStr) r26 71 #[vi r23.2] (by kernel_rfl) (fun _ => by kernel_rfl) (fun w' hh => annalref_Dec_l r23.2 r26 hb34 w' ) ?_)
        intro u V36 hV36 hu
        obtain rfl := sureStr _ _ _ hu
        refine T.pk (vi r24.2) (fun _ => by kernel_rfl) ?_
        obtain ⟨r27, hb35, hY6⟩ := ob hY6
        refine T.step (W1.call (vSc eStr) r27 71 #[vi r24.2] (by kernel_rfl) (fun _ => by kernel_rfl) (fun w' hh => annalref_Dec_l r24.2 r27 hb35 w' ) ?_)
        intro u V37 hV37 hu
        obtain rfl := sureStr _ _ _ hu
        refine T.pk (vi r25.2) (fun _ => by kernel_rfl) ?_
        obtain ⟨r28, hb36, hY6⟩ := ob hY6
        refine T.step (W1.call (vSc eStr) r28 71 #[vi r25.2] (by kernel_rfl) (fun _ => by kernel_rfl) (fun w' hh => annalref_Dec_l r25.2 r28 hb36 w' ) ?_)
        intro u V38 hV38 hu
        obtain rfl := sureStr _ _ _ hu
        refine T.step (W1.new 9 [.string r23.1, .string r24.1, .string r26, .string r27, .string r28] (fun b => .slice (some ⟨b, 0, none⟩) 5 5) (by kernel_rfl) (fun _ => by kernel_rfl) (fun b12 => ?_))
        obtain ⟨y16, hb37, hY6⟩ := ob hY6
        obtain ⟨hb37_r, hb37_m, rfl⟩ := grow_some hb37
        obtain ⟨ti, hti, hz1, hz2, hz3⟩ := info_parts (P := Tryz.prog) (e := 9) (z := .string (ByteArray.mk #[])) (size := 1) (bytes := 16) (by kernel_rfl)
        refine T.step (W1.append (E := eStr) (l := x12) (m := [r23.1, r24.1, r26, r27, r28]) 1 _ _ 16 ti _ (by rfl) (by kernel_rfl) rfl (by kernel_rfl) hti hz1 hz2 hz3 rfl (by decide) rfl rfl (fun w' hh => (SlOk.srcF (slok_lit (E := eStr) (f := (fun x => [.string x])) [r23.1, r24.1, r26, r27, r28] (fun _ _ => rfl) (Nat.le_of_ble_eq_true (by rfl)) (fun j => hh.cellBox (i := 0) (by rfl) j)) (fun _ _ _ _ h => h))) hb37_r hb37_m (fun A41 c41 => ?_))
        refine T.pk (.slice A41 ((x12 ++ [r23.1, r24.1, r26, r27, r28]).length) c41) (fun _ => by kernel_rfl) (T.nil (T.region (T.p2 (.slice A41 ((x12 ++ [r23.1, r24.1, r26, r27, r28]).length) c41) (.slice A40 r25.1.length c40) (fun _ => by kernel_rfl) ?_)))
        obtain ⟨y17, hb38, hY6⟩ := ob hY6
        obtain ⟨hb38_r, hb38_m, rfl⟩ := grow_some hb38
        obtain ⟨ti, hti, hz1, hz2, hz3⟩ := info_parts (P := Tryz.prog) (e := 9) (z := .string (ByteArray.mk #[])) (size := 1) (bytes := 16) (by kernel_rfl)
        refine T.step (W1.append (E := eStr) (l := (x12 ++ [r23.1, r24.1, r26, r27, r28])) (m := r25.1) 1 _ _ 16 ti _ (by rfl) (by kernel_rfl) rfl (by kernel_rfl) hti hz1 hz2 hz3 rfl (by decide) rfl rfl (fun w' hh => (SlOk.srcF (SlOk.mono (SlOk.mono hs22 (vt (made_le _ _) (vt (vt hV36 hV37) hV38))) hh.view) (fun _ _ _ _ h => h))) hb38_r hb38_m (fun A42 c42 => ?_))
        refine T.pk (.slice A42 (((x12 ++ [r23.1, r24.1, r26, r27, r28]) ++ r25.1).length) c42) (fun _ => by kernel_rfl) (T.nil (T.region (T.p2 (vi (IntKind.i64.wrap (x13 + 1))) (vi (IntKind.i64.wrap (x13 + 1))) (fun _ => by kernel_rfl) (T.nil ?_))))
        cases hY6
        exact fun a w' hf hh => ⟨(((x12 ++ [r23.1, r24.1, r26, r27, r28]) ++ r25.1), IntKind.i64.wrap (x13 + 1)), rfl, ((x12 ++ [r23.1, r24.1, r26, r27, r28]) ++ r25.1), (IntKind.i64.wrap (x13 + 1)), rfl, A42, c42, V38, (vt (vt (vt (vt (vt (vt hV31 hV33) hV34) hV35) hV36) hV37) hV38), (Fr.sel hf rfl), (hh.sub (dr1 (kp4 (kp1 kp0))))⟩
       rw [hc9, cond_false] at hY6
       refine T.exit ?_
       cases hY6
       cases (hr7 _ rfl)
       exact fun a w' hf hh => ⟨A38, c38, V31, hV31, (Fr.sel hf rfl), (hh.sub (kp4 (kp1 kp0)))⟩
      rintro a w' ⟨A39, c39, V32, hV32, hf, hh⟩
      refine (?_ : T 59 w V32 ((row 9 eStr A39 c39 z13) :: t28_) [(7, .slice A39 z13.length c39)] _) a w' hf hh
      clear hf hh
      refine T.seq (T.region (T.p2 (.slice A39 z13.length c39) (.slice A39 z13.length c39) (fun _ => by kernel_rfl) (T.nil ?_)))
      cases hX6
      refine T.ret rfl ?_
      exact T.ret1 rfl (ResIs.tmp rfl) fun w' hh => ⟨_, rfl, ⟨A39, c39, V32, hV32, rfl, (hh.sub (kp4 (kp1 kp0)))⟩⟩
     rintro v w' ⟨A37, c37, V30, hV30, rfl, hh⟩
     refine ⟨V30, ((row 9 eStr A37 c37 z12) :: t28_), hh, ?_⟩
     clear hh
     refine TA.on (Hp.old hV30 w45_ (dr2 (kp1 (dr1 (kp1 kp0)))) (oR1 (oR1 ol0))) ?_
     refine TA.all [6] (by kernel_rfl) rfl ⟨?_, trivial⟩
     obtain ⟨hi19, hi20, hi21⟩ := idx_some hb39
     refine TA.br rfl (W1.look (.pointer (some ((sadr A28).add (x11.toNat * 1)))) (by kernel_rfl) (fun w' hh => exec_indexAddr (e := 23) (s := 1) rfl rfl rfl (by kernel_rfl) (by kernel_rfl) hi19 hi20 ((hh.row_slOk (i := 1) (by rfl)).some_ hi21 (Nat.le_of_ble_eq_true rfl))) ?_)
     refine TA.on (Hp.old hV30 w45_ (dr2 (kp1 (dr1 (kp1 kp0)))) (oR1 (oR1 ol0))) ?_
     refine TA.all [7] (by kernel_rfl) rfl ⟨?_, trivial⟩
     refine TA.br rfl (W1.lookE (fun v => ∃ cs : List Value, (eList eStr).rep (made w V30) cs e7 ∧ cs[0]? = some v) (by kernel_rfl) (fun w' hh => ?_) ?_)
     ·
      obtain ⟨cs, hr, hl⟩ := hh.row_elem (i := 1) (by rfl) hi21
      have hu : cs[0]? = some (cs[0]'(by rw [show cs.length = 1 from Enc.len _ hr]; decide)) := List.getElem?_eq_getElem _
      exact ⟨_, exec_load1 rfl rfl (by kernel_rfl) (by have := hl 0 _ hu; rwa [addr_add0] at this), cs, hr, hu⟩
     rintro v ⟨cs2, hr8, hv1⟩
     obtain ⟨A43, c43, rfl, hs23⟩ := hr8
     obtain rfl : .slice A43 e7.length c43 = v := Option.some.inj hv1
     refine TA.on (Hp.old hV30 w45_ (dr2 (kp1 (dr1 (kp1 kp0)))) (oR1 (oR1 ol0))) ?_
     refine TA.all [8] (by kernel_rfl) rfl ⟨?_, trivial⟩
     refine TA.br rfl (W1.call (vSc eBool) r29 37 #[.slice A37 z12.length c37, .slice A43 e7.length c43] (by kernel_rfl) (fun _ => by kernel_rfl) (fun w' hh => slices_Equal_string_l F z12 e7 r29 hb40 w' A37 c37 (hh.row_slOk (i := 0) (by rfl)) A43 c43 (SlOk.mono (SlOk.mono hs23 (vt (made_le _ _) vr)) hh.view)) ?_)
     intro u V39 hV39 hu
     obtain rfl := sureBool _ _ _ hu
     refine TA.onk (Hp.old (vt hV30 hV39) w45_ (dr2 (kp1 (dr1 (kp1 kp0)))) (oR1 (oR1 ol0))) fun o47_ => ?_
     refine TA.tp 9 (.bool (!r29)) rfl (fun _ => by kernel_rfl) (fun _ _ _ h => h) o47_ ?_
     refine TA.done (by kernel_rfl) ?_
     exact fun a w' hf hh => ⟨V39, (vt hV30 hV39), (Fr.sel hf rfl), (hh.sub (dr1 (kp3 (kp1 kp0))))⟩
    obtain ⟨hi19, hi20, hi21⟩ := idx_some hb39
    refine TA.br rfl (W1.look (.pointer (some ((sadr A28).add (x11.toNat * 1)))) (by kernel_rfl) (fun w' hh => exec_indexAddr (e := 23) (s := 1) rfl rfl rfl (by kernel_rfl) (by kernel_rfl) hi19 hi20 ((hh.row_slOk (i := 0) (by rfl)).some_ hi21 (Nat.le_of_ble_eq_true rfl))) ?_)
    refine TA.on (Hp.old vr w45_ (dr1 (kp1 (dr1 (kp1 kp0)))) (oR1 (oR1 ol0))) ?_
    refine TA.all [3, 7] (by kernel_rfl) rfl ⟨?_, ?_, trivial⟩
    ·
     refine TA.br rfl (W1.within 35 [pB b7 0, .slice A12 (([(ByteArray.mk #[47])] ++ s1).length) c12, vi e5] (fun v w' => ∃ (A37 : Option Addr) (c37 : Nat) (V30 : View), View.le V28 V30 ∧ v = .slice A37 z12.length c37 ∧ Hp w V30 ((row 9 eStr A37 c37 z12) :: t28_) w') Tryz.func35 rfl rfl (by kernel_rfl) (fun _ => by kernel_rfl) rfl ?_ ?_)
     ·
      refine T.seq (T.region (T.pk sN (fun _ => by kernel_rfl) (T.nil (T.seq (T.region (T.pk sN (fun _ => by kernel_rfl) (T.nil (T.seq (T.seq (T.region (T.p3 (.slice A12 (([(ByteArray.mk #[47])] ++ s1).length) c12) (vi (([(ByteArray.mk #[47])] ++ s1).length : Int)) (vi 0) (fun _ => by kernel_rfl) (T.nil ?_))))))))))))
      refine T.rownil 9 eStr ?_
      obtain ⟨z13, hz6, hX6⟩ := ob hX6
      refine T.mid (fun a w' => ∃ (A39 : Option Addr) (c39 : Nat) (V32 : View), View.le V28 V32 ∧ Fr 59 [(7, .slice A39 z13.length c39)] a ∧ Hp w V32 ((row 9 eStr A39 c39 z13) :: t28_) w') ?_ ?_
      ·
       refine T.block ?_
       refine T.iter (fun s8 a w' => ∃ (x12 : List ByteArray) (x13 : Int), s8 = (x12, x13) ∧ ∃ (A38 : Option Addr) (c38 : Nat) (V31 : View), View.le V28 V31 ∧ Fr 59 [(0, pB b7 0), (2, vi e5), (7, .slice A38 x12.length c38), (16, .slice A12 (([(ByteArray.mk #[47])] ++ s1).length) c12), (17, vi (([(ByteArray.mk #[47])] ++ s1).length : Int)), (18, vi x13)] a ∧ Hp w V31 ((row 9 eStr A38 c38 x12) :: t28_) w') hz6 ?_ ?_
       ·
        exact fun a w' hf hh => ⟨[], 0, rfl, none, 0, V28, vr, (Fr.sel hf rfl), (hh.sub (kp4 (kp1 kp0)))⟩
       rintro s8 y15 hY6 hr7 a w' ⟨x12, x13, rfl, A38, c38, V31, hV31, hf, hh⟩
       let t32_ : List HObj := (row 9 eStr A38 c38 x12) :: t28_
       refine (?_ : T 59 w V31 t32_ [(0, pB b7 0), (2, vi e5), (7, .slice A38 x12.length c38), (16, .slice A12 (([(ByteArray.mk #[47])] ++ s1).length) c12), (17, vi (([(ByteArray.mk #[47])] ++ s1).length : Int)), (18, vi x13)] _) a w' hf hh
       clear hf hh
       try dsimp only at hY6
       refine T.seq (T.region (T.pk (.bool (decide (x13 < (([(ByteArray.mk #[47])] ++ s1).length : Int)))) (fun _ => by kernel_rfl) (T.nil (T.seq ?_))))
       refine T.cond (decide (x13 < (([(ByteArray.mk #[47])] ++ s1).length : Int))) (by kernel_rfl) (by kernel_rfl) (fun hc9 => ?_) (fun hc9 => ?_)
       ·
        rw [hc9, cond_true] at hY6
        refine T.skip_code ?_
        refine T.seq (T.block (T.seq (T.region ?_)))
        obtain ⟨e6, hb30, hY6⟩ := ob hY6
        obtain ⟨hi16, hi17, hi18⟩ := idx_some hb30
        refine T.look (.pointer (some ((sadr A12).add (x13.toNat * 1)))) (by kernel_rfl) (ixR 4 (e := 9) (s := 1) rfl rfl rfl (fun _ => by kernel_rfl) hi16 hi17 (by rfl) hi18 (by decide)) ?_
        refine T.look (.string e6) (by kernel_rfl) (fun w' hh => exec_load1 rfl rfl (by kernel_rfl) (SlOk.wcellF0 (E := eStr) (hh.row_slOk (i := 4) (by rfl)) hi18 (fun _ _ _ h => h) rfl)) ?_
        refine T.pk (.string e6) (fun _ => by kernel_rfl) (T.nil (T.seq (T.region (T.p3 (pB b7 0) (.string e6) (vi e5) (fun _ => by kernel_rfl) ?_))))
        obtain ⟨r23, hb31, hY6⟩ := ob hY6
        let t33_ : List HObj := (row 9 eStr A38 c38 x12) :: t24_
        let t34_ : List HObj := i25_ :: t33_
        let v43_ : List Value := [pB b7 0, .string e6, vi e5]
        refine T.step (W1.callI 20 v43_ (fun v w' => ∃ (V33 : View), View.le V31 V33 ∧ v = .tuple #[.string r23.1, vi r23.2] ∧ Hp w V33 t34_ w') (by kernel_rfl) (fun _ => by kernel_rfl) (fun w' hh => fs_FS_Kind_fr_l F r21.1 z3 z4 e6 e5 r23 hb31 w hGl b7 A36 c36 V31 t33_ w' (SlOk.mono hs21 (vt hV28 hV31)) (hh.ix 4 [3, 0, 1, 2])) ?_)
        rintro v w' ⟨V33, hV33, rfl, hh⟩
        refine ⟨V33, t32_, hh.ix 4 [1, 2, 3, 0], ?_⟩
        clear hh
        refine T.p5 (.tuple #[.string r23.1, vi r23.2]) (.string r23.1) (vi r23.2) (.string r23.1) (vi r23.2) (fun _ => by kernel_rfl) (T.nil (T.seq (T.region (T.p3 (pB b7 0) (.string e6) (vi e5) (fun _ => by kernel_rfl) ?_))))
        obtain ⟨r24, hb32, hY6⟩ := ob hY6
        refine T.step (W1.callI 25 v43_ (fun v w' => ∃ (V34 : View), View.le V33 V34 ∧ v = .tuple #[.string r24.1, vi r24.2] ∧ Hp w V34 t34_ w') (by kernel_rfl) (fun _ => by kernel_rfl) (fun w' hh => fs_FS_Read_fr_l F r21.1 z3 z4 e6 e5 r24 hb32 w hGl b7 A36 c36 V33 t33_ w' (SlOk.mono hs21 (vt (vt hV28 hV31) hV33)) (hh.ix 4 [3, 0, 1, 2])) ?_)
        rintro v w' ⟨V34, hV34, rfl, hh⟩
        refine ⟨V34, t32_, hh.ix 4 [1, 2, 3, 0], ?_⟩
        clear hh
        refine T.p5 (.tuple #[.string r24.1, vi r24.2]) (.string r24.1) (vi r24.2) (.string r24.1) (vi r24.2) (fun _ => by kernel_rfl) (T.nil (T.seq (T.region (T.p3 (pB b7 0) (.string e6) (vi e5) (fun _ => by kernel_rfl) ?_))))
        obtain ⟨r25, hb33, hY6⟩ := ob hY6
        refine T.step (W1.callI 34 v43_ (fun v w' => ∃ (A40 : Option Addr) (c40 : Nat) (V35 : View), View.le V34 V35 ∧ SlOk (made w V35) eStr A40 c40 r25.1 ∧ v = .tuple #[.slice A40 r25.1.length c40, vi r25.2] ∧ Hp w V35 t34_ w') (by kernel_rfl) (fun _ => by kernel_rfl) (fun w' hh => fs_FS_List_fr_l F r21.1 z3 z4 e6 e5 r25 hb33 w hGl b7 A36 c36 V34 t33_ w' (SlOk.mono hs21 (vt (vt (vt hV28 hV31) hV33) hV34)) (hh.ix 4 [3, 0, 1, 2])) ?_)
        rintro v w' ⟨A40, c40, V35, hV35, hs22, rfl, hh⟩
        refine ⟨V35, t32_, hh.ix 4 [1, 2, 3, 0], ?_⟩
        clear hh
        refine T.p5 (.tuple #[.slice A40 r25.1.length c40, vi r25.2]) (.slice A40 r25.1.length c40) (vi r25.2) (.slice A40 r25.1.length c40) (vi r25.2) (fun _ => by kernel_rfl) (T.nil (T.seq (T.region (T.p4 (.slice A38 x12.length c38) (.string r23.1) (.string r24.1) (vi r23.2) (fun _ => by kernel_rfl) ?_))))
        obtain ⟨r26, hb34, hY6⟩ := ob hY6
        refine T.step (W1.call (vSc eStr) r26 71 #[vi r23.2] (by kernel_rfl) (fun _ => by kernel_rfl) (fun w' hh => annalref_Dec_l r23.2 r26 hb34 w' ) ?_)
        intro u V36 hV36 hu
        obtain rfl := sureStr _ _ _ hu
        refine T.pk (vi r24.2) (fun _ => by kernel_rfl) ?_
        obtain ⟨r27, hb35, hY6⟩ := ob hY6
        refine T.step (W1.call (vSc eStr) r27 71 #[vi r24.2] (by kernel_rfl) (fun _ => by kernel_rfl) (fun w' hh => annalref_Dec_l r24.2 r27 hb35 w' ) ?_)
        intro u V37 hV37 hu
        obtain rfl := sureStr _ _ _ hu
        refine T.pk (vi r25.2) (fun _ => by kernel_rfl) ?_
        obtain ⟨r28, hb36, hY6⟩ := ob hY6
        refine T.step (W1.call (vSc eStr) r28 71 #[vi r25.2] (by kernel_rfl) (fun _ => by kernel_rfl) (fun w' hh => annalref_Dec_l r25.2 r28 hb36 w' ) ?_)
        intro u V38 hV38 hu
        obtain rfl := sureStr _ _ _ hu
        refine T.step (W1.new 9 [.string r23.1, .string r24.1, .string r26, .string r27, .string r28] (fun b => .slice (some ⟨b, 0, none⟩) 5 5) (by kernel_rfl) (fun _ => by kernel_rfl) (fun b12 => ?_))
        obtain ⟨y16, hb37, hY6⟩ := ob hY6
        obtain ⟨hb37_r, hb37_m, rfl⟩ := grow_some hb37
        obtain ⟨ti, hti, hz1, hz2, hz3⟩ := info_parts (P := Tryz.prog) (e := 9) (z := .string (ByteArray.mk #[])) (size := 1) (bytes := 16) (by kernel_rfl)
        refine T.step (W1.append (E := eStr) (l := x12) (m := [r23.1, r24.1, r26, r27, r28]) 1 _ _ 16 ti _ (by rfl) (by kernel_rfl) rfl (by kernel_rfl) hti hz1 hz2 hz3 rfl (by decide) rfl rfl (fun w' hh => (SlOk.srcF (slok_lit (E := eStr) (f := (fun x => [.string x])) [r23.1, r24.1, r26, r27, r28] (fun _ _ => rfl) (Nat.le_of_ble_eq_true (by rfl)) (fun j => hh.cellBox (i := 0) (by rfl) j)) (fun _ _ _ _ h => h))) hb37_r hb37_m (fun A41 c41 => ?_))
        refine T.pk (.slice A41 ((x12 ++ [r23.1, r24.1, r26, r27, r28]).length) c41) (fun _ => by kernel_rfl) (T.nil (T.region (T.p2 (.slice A41 ((x12 ++ [r23.1, r24.1, r26, r27, r28]).length) c41) (.slice A40 r25.1.length c40) (fun _ => by kernel_rfl) ?_)))
        obtain ⟨y17, hb38, hY6⟩ := ob hY6
        obtain ⟨hb38_r, hb38_m, rfl⟩ := grow_some hb38
        obtain ⟨ti, hti, hz1, hz2, hz3⟩ := info_parts (P := Tryz.prog) (e := 9) (z := .string (ByteArray.mk #[])) (size := 1) (bytes := 16) (by kernel_rfl)
        refine T.step (W1.append (E := eStr) (l := (x12 ++ [r23.1, r24.1, r26, r27, r28])) (m := r25.1) 1 _ _ 16 ti _ (by rfl) (by kernel_rfl) rfl (by kernel_rfl) hti hz1 hz2 hz3 rfl (by decide) rfl rfl (fun w' hh => (SlOk.srcF (SlOk.mono (SlOk.mono hs22 (vt (made_le _ _) (vt (vt hV36 hV37) hV38))) hh.view) (fun _ _ _ _ h => h))) hb38_r hb38_m (fun A42 c42 => ?_))
        refine T.pk (.slice A42 (((x12 ++ [r23.1, r24.1, r26, r27, r28]) ++ r25.1).length) c42) (fun _ => by kernel_rfl) (T.nil (T.region (T.p2 (vi (IntKind.i64.wrap (x13 + 1))) (vi (IntKind.i64.wrap (x13 + 1))) (fun _ => by kernel_rfl) (T.nil ?_))))
        cases hY6
        exact fun a w' hf hh => ⟨(((x12 ++ [r23.1, r24.1, r26, r27, r28]) ++ r25.1), IntKind.i64.wrap (x13 + 1)), rfl, ((x12 ++ [r23.1, r24.1, r26, r27, r28]) ++ r25.1), (IntKind.i64.wrap (x13 + 1)), rfl, A42, c42, V38, (vt (vt (vt (vt (vt (vt hV31 hV33) hV34) hV35) hV36) hV37) hV38), (Fr.sel hf rfl), (hh.sub (dr1 (kp4 (kp1 kp0))))⟩
       rw [hc9, cond_false] at hY6
       refine T.exit ?_
       cases hY6
       cases (hr7 _ rfl)
       exact fun a w' hf hh => ⟨A38, c38, V31, hV31, (Fr.sel hf rfl), (hh.sub (kp4 (kp1 kp0)))⟩
      rintro a w' ⟨A39, c39, V32, hV32, hf, hh⟩
      refine (?_ : T 59 w V32 ((row 9 eStr A39 c39 z13) :: t28_) [(7, .slice A39 z13.length c39)] _) a w' hf hh
      clear hf hh
      refine T.seq (T.region (T.p2 (.slice A39 z13.length c39) (.slice A39 z13.length c39) (fun _ => by kernel_rfl) (T.nil ?_)))
      cases hX6
      refine T.ret rfl ?_
      exact T.ret1 rfl (ResIs.tmp rfl) fun w' hh => ⟨_, rfl, ⟨A39, c39, V32, hV32, rfl, (hh.sub (kp4 (kp1 kp0)))⟩⟩
     rintro v w' ⟨A37, c37, V30, hV30, rfl, hh⟩
     refine ⟨V30, ((row 9 eStr A37 c37 z12) :: t28_), hh, ?_⟩
     clear hh
     refine TA.on (Hp.old hV30 w45_ (dr2 (kp1 (dr1 (kp1 kp0)))) (oR1 (oR1 ol0))) ?_
     refine TA.all [7] (by kernel_rfl) rfl ⟨?_, trivial⟩
     refine TA.br rfl (W1.lookE (fun v => ∃ cs : List Value, (eList eStr).rep (made w V30) cs e7 ∧ cs[0]? = some v) (by kernel_rfl) (fun w' hh => ?_) ?_)
     ·
      obtain ⟨cs, hr, hl⟩ := hh.row_elem (i := 1) (by rfl) hi21
      have hu : cs[0]? = some (cs[0]'(by rw [show cs.length = 1 from Enc.len _ hr]; decide)) := List.getElem?_eq_getElem _
      exact ⟨_, exec_load1 rfl rfl (by kernel_rfl) (by have := hl 0 _ hu; rwa [addr_add0] at this), cs, hr, hu⟩
     rintro v ⟨cs2, hr8, hv1⟩
     obtain ⟨A43, c43, rfl, hs23⟩ := hr8
     obtain rfl : .slice A43 e7.length c43 = v := Option.some.inj hv1
     refine TA.on (Hp.old hV30 w45_ (dr2 (kp1 (dr1 (kp1 kp0)))) (oR1 (oR1 ol0))) ?_
     refine TA.all [8] (by kernel_rfl) rfl ⟨?_, trivial⟩
     refine TA.br rfl (W1.call (vSc eBool) r29 37 #[.slice A37 z12.length c37, .slice A43 e7.length c43] (by kernel_rfl) (fun _ => by kernel_rfl) (fun w' hh => slices_Equal_string_l F z12 e7 r29 hb40 w' A37 c37 (hh.row_slOk (i := 0) (by rfl)) A43 c43 (SlOk.mono (SlOk.mono hs23 (vt (made_le _ _) vr)) hh.view)) ?_)
     intro u V39 hV39 hu
     obtain rfl := sureBool _ _ _ hu
     refine TA.onk (Hp.old (vt hV30 hV39) w45_ (dr2 (kp1 (dr1 (kp1 kp0)))) (oR1 (oR1 ol0))) fun o48_ => ?_
     refine TA.tp 9 (.bool (!r29)) rfl (fun _ => by kernel_rfl) (fun _ _ _ h => h) o48_ ?_
     refine TA.done (by kernel_rfl) ?_
     exact fun a w' hf hh => ⟨V39, (vt hV30 hV39), (Fr.sel hf rfl), (hh.sub (dr1 (kp3 (kp1 kp0))))⟩
    refine TA.br rfl (W1.lookE (fun v => ∃ cs : List Value, (eList eStr).rep (made w V28) cs e7 ∧ cs[0]? = some v) (by kernel_rfl) (fun w' hh => ?_) ?_)
    ·
     obtain ⟨cs, hr, hl⟩ := hh.row_elem (i := 0) (by rfl) hi21
     have hu : cs[0]? = some (cs[0]'(by rw [show cs.length = 1 from Enc.len _ hr]; decide)) := List.getElem?_eq_getElem _
     exact ⟨_, exec_load1 rfl rfl (by kernel_rfl) (by have := hl 0 _ hu; rwa [addr_add0] at this), cs, hr, hu⟩
    rintro v ⟨cs2, hr8, hv1⟩
    obtain ⟨A43, c43, rfl, hs23⟩ := hr8
    obtain rfl : .slice A43 e7.length c43 = v := Option.some.inj hv1
    refine TA.on (Hp.old vr w45_ (dr1 (kp1 (dr1 (kp1 kp0)))) (oR1 (oR1 ol0))) ?_
    refine TA.all [3] (by kernel_rfl) rfl ⟨?_, trivial⟩
    refine TA.br rfl (W1.within 35 [pB b7 0, .slice A12 (([(ByteArray.mk #[47])] ++ s1).length) c12, vi e5] (fun v w' => ∃ (A37 : Option Addr) (c37 : Nat) (V30 : View), View.le V28 V30 ∧ v = .slice A37 z12.length c37 ∧ Hp w V30 ((row 9 eStr A37 c37 z12) :: t28_) w') Tryz.func35 rfl rfl (by kernel_rfl) (fun _ => by kernel_rfl) rfl ?_ ?_)
    ·
     refine T.seq (T.region (T.pk sN (fun _ => by kernel_rfl) (T.nil (T.seq (T.region (T.pk sN (fun _ => by kernel_rfl) (T.nil (T.seq (T.seq (T.region (T.p3 (.slice A12 (([(ByteArray.mk #[47])] ++ s1).length) c12) (vi (([(ByteArray.mk #[47])] ++ s1).length : Int)) (vi 0) (fun _ => by kernel_rfl) (T.nil ?_))))))))))))
     refine T.rownil 9 eStr ?_
     obtain ⟨z13, hz6, hX6⟩ := ob hX6
     refine T.mid (fun a w' => ∃ (A39 : Option Addr) (c39 : Nat) (V32 : View), View.le V28 V32 ∧ Fr 59 [(7, .slice A39 z13.length c39)] a ∧ Hp w V32 ((row 9 eStr A39 c39 z13) :: t28_) w') ?_ ?_
     ·
      refine T.block ?_
      refine T.iter (fun s8 a w' => ∃ (x12 : List ByteArray) (x13 : Int), s8 = (x12, x13) ∧ ∃ (A38 : Option Addr) (c38 : Nat) (V31 : View), View.le V28 V31 ∧ Fr 59 [(0, pB b7 0), (2, vi e5), (7, .slice A38 x12.length c38), (16, .slice A12 (([(ByteArray.mk #[47])] ++ s1).length) c12), (17, vi (([(ByteArray.mk #[47])] ++ s1).length : Int)), (18, vi x13)] a ∧ Hp w V31 ((row 9 eStr A38 c38 x12) :: t28_) w') hz6 ?_ ?_
      ·
       exact fun a w' hf hh => ⟨[], 0, rfl, none, 0, V28, vr, (Fr.sel hf rfl), (hh.sub (kp4 (kp1 kp0)))⟩
      rintro s8 y15 hY6 hr7 a w' ⟨x12, x13, rfl, A38, c38, V31, hV31, hf, hh⟩
      let t35_ : List HObj := (row 9 eStr A38 c38 x12) :: t28_
      refine (?_ : T 59 w V31 t35_ [(0, pB b7 0), (2, vi e5), (7, .slice A38 x12.length c38), (16, .slice A12 (([(ByteArray.mk #[47])] ++ s1).length) c12), (17, vi (([(ByteArray.mk #[47])] ++ s1).length : Int)), (18, vi x13)] _) a w' hf hh
      clear hf hh
      try dsimp only at hY6
      refine T.seq (T.region (T.pk (.bool (decide (x13 < (([(ByteArray.mk #[47])] ++ s1).length : Int)))) (fun _ => by kernel_rfl) (T.nil (T.seq ?_))))
      refine T.cond (decide (x13 < (([(ByteArray.mk #[47])] ++ s1).length : Int))) (by kernel_rfl) (by kernel_rfl) (fun hc9 => ?_) (fun hc9 => ?_)
      ·
       rw [hc9, cond_true] at hY6
       refine T.skip_code ?_
       refine T.seq (T.block (T.seq (T.region ?_)))
       obtain ⟨e6, hb30, hY6⟩ := ob hY6
       obtain ⟨hi16, hi17, hi18⟩ := idx_some hb30
       refine T.look (.pointer (some ((sadr A12).add (x13.toNat * 1)))) (by kernel_rfl) (ixR 4 (e := 9) (s := 1) rfl rfl rfl (fun _ => by kernel_rfl) hi16 hi17 (by rfl) hi18 (by decide)) ?_
       refine T.look (.string e6) (by kernel_rfl) (fun w' hh => exec_load1 rfl rfl (by kernel_rfl) (SlOk.wcellF0 (E := eStr) (hh.row_slOk (i := 4) (by rfl)) hi18 (fun _ _ _ h => h) rfl)) ?_
       refine T.pk (.string e6) (fun _ => by kernel_rfl) (T.nil (T.seq (T.region (T.p3 (pB b7 0) (.string e6) (vi e5) (fun _ => by kernel_rfl) ?_))))
       obtain ⟨r23, hb31, hY6⟩ := ob hY6
       let t36_ : List HObj := (row 9 eStr A38 c38 x12) :: t24_
       let t37_ : List HObj := i25_ :: t36_
       let v44_ : List Value := [pB b7 0, .string e6, vi e5]
       refine T.step (W1.callI 20 v44_ (fun v w' => ∃ (V33 : View), View.le V31 V33 ∧ v = .tuple #[.string r23.1, vi r23.2] ∧ Hp w V33 t37_ w') (by kernel_rfl) (fun _ => by kernel_rfl) (fun w' hh => fs_FS_Kind_fr_l F r21.1 z3 z4 e6 e5 r23 hb31 w hGl b7 A36 c36 V31 t36_ w' (SlOk.mono hs21 (vt hV28 hV31)) (hh.ix 4 [3, 0, 1, 2])) ?_)
       rintro v w' ⟨V33, hV33, rfl, hh⟩
       refine ⟨V33, t35_, hh.ix 4 [1, 2, 3, 0], ?_⟩
       clear hh
       refine T.p5 (.tuple #[.string r23.1, vi r23.2]) (.string r23.1) (vi r23.2) (.string r23.1) (vi r23.2) (fun _ => by kernel_rfl) (T.nil (T.seq (T.region (T.p3 (pB b7 0) (.string e6) (vi e5) (fun _ => by kernel_rfl) ?_))))
       obtain ⟨r24, hb32, hY6⟩ := ob hY6
       refine T.step (W1.callI 25 v44_ (fun v w' => ∃ (V34 : View), View.le V33 V34 ∧ v = .tuple #[.string r24.1, vi r24.2] ∧ Hp w V34 t37_ w') (by kernel_rfl) (fun _ => by kernel_rfl) (fun w' hh => fs_FS_Read_fr_l F r21.1 z3 z4 e6 e5 r24 hb32 w hGl b7 A36 c36 V33 t36_ w' (SlOk.mono hs21 (vt (vt hV28 hV31) hV33)) (hh.ix 4 [3, 0, 1, 2])) ?_)
       rintro v w' ⟨V34, hV34, rfl, hh⟩
       refine ⟨V34, t35_, hh.ix 4 [1, 2, 3, 0], ?_⟩
       clear hh
       refine T.p5 (.tuple #[.string r24.1, vi r24.2]) (.string r24.1) (vi r24.2) (.string r24.1) (vi r24.2) (fun _ => by kernel_rfl) (T.nil (T.seq (T.region (T.p3 (pB b7 0) (.string e6) (vi e5) (fun _ => by kernel_rfl) ?_))))
       obtain ⟨r25, hb33, hY6⟩ := ob hY6
       refine T.step (W1.callI 34 v44_ (fun v w' => ∃ (A40 : Option Addr) (c40 : Nat) (V35 : View), View.le V34 V35 ∧ SlOk (made w V35) eStr A40 c40 r25.1 ∧ v = .tuple #[.slice A40 r25.1.length c40, vi r25.2] ∧ Hp w V35 t37_ w') (by kernel_rfl) (fun _ => by kernel_rfl) (fun w' hh => fs_FS_List_fr_l F r21.1 z3 z4 e6 e5 r25 hb33 w hGl b7 A36 c36 V34 t36_ w' (SlOk.mono hs21 (vt (vt (vt hV28 hV31) hV33) hV34)) (hh.ix 4 [3, 0, 1, 2])) ?_)
       rintro v w' ⟨A40, c40, V35, hV35, hs22, rfl, hh⟩
       refine ⟨V35, t35_, hh.ix 4 [1, 2, 3, 0], ?_⟩
       clear hh
       refine T.p5 (.tuple #[.slice A40 r25.1.length c40, vi r25.2]) (.slice A40 r25.1.length c40) (vi r25.2) (.slice A40 r25.1.length c40) (vi r25.2) (fun _ => by kernel_rfl) (T.nil (T.seq (T.region (T.p4 (.slice A38 x12.length c38) (.string r23.1) (.string r24.1) (vi r23.2) (fun _ => by kernel_rfl) ?_))))
       obtain ⟨r26, hb34, hY6⟩ := ob hY6
       refine T.step (W1.call (vSc eStr) r26 71 #[vi r23.2] (by kernel_rfl) (fun _ => by kernel_rfl) (fun w' hh => annalref_Dec_l r23.2 r26 hb34 w' ) ?_)
       intro u V36 hV36 hu
       obtain rfl := sureStr _ _ _ hu
       refine T.pk (vi r24.2) (fun _ => by kernel_rfl) ?_
       obtain ⟨r27, hb35, hY6⟩ := ob hY6
       refine T.step (W1.call (vSc eStr) r27 71 #[vi r24.2] (by kernel_rfl) (fun _ => by kernel_rfl) (fun w' hh => annalref_Dec_l r24.2 r27 hb35 w' ) ?_)
       intro u V37 hV37 hu
       obtain rfl := sureStr _ _ _ hu
       refine T.pk (vi r25.2) (fun _ => by kernel_rfl) ?_
       obtain ⟨r28, hb36, hY6⟩ := ob hY6
       refine T.step (W1.call (vSc eStr) r28 71 #[vi r25.2] (by kernel_rfl) (fun _ => by kernel_rfl) (fun w' hh => annalref_Dec_l r25.2 r28 hb36 w' ) ?_)
       intro u V38 hV38 hu
       obtain rfl := sureStr _ _ _ hu
       refine T.step (W1.new 9 [.string r23.1, .string r24.1, .string r26, .string r27, .string r28] (fun b => .slice (some ⟨b, 0, none⟩) 5 5) (by kernel_rfl) (fun _ => by kernel_rfl) (fun b12 => ?_))
       obtain ⟨y16, hb37, hY6⟩ := ob hY6
       obtain ⟨hb37_r, hb37_m, rfl⟩ := grow_some hb37
       obtain ⟨ti, hti, hz1, hz2, hz3⟩ := info_parts (P := Tryz.prog) (e := 9) (z := .string (ByteArray.mk #[])) (size := 1) (bytes := 16) (by kernel_rfl)
       refine T.step (W1.append (E := eStr) (l := x12) (m := [r23.1, r24.1, r26, r27, r28]) 1 _ _ 16 ti _ (by rfl) (by kernel_rfl) rfl (by kernel_rfl) hti hz1 hz2 hz3 rfl (by decide) rfl rfl (fun w' hh => (SlOk.srcF (slok_lit (E := eStr) (f := (fun x => [.string x])) [r23.1, r24.1, r26, r27, r28] (fun _ _ => rfl) (Nat.le_of_ble_eq_true (by rfl)) (fun j => hh.cellBox (i := 0) (by rfl) j)) (fun _ _ _ _ h => h))) hb37_r hb37_m (fun A41 c41 => ?_))
       refine T.pk (.slice A41 ((x12 ++ [r23.1, r24.1, r26, r27, r28]).length) c41) (fun _ => by kernel_rfl) (T.nil (T.region (T.p2 (.slice A41 ((x12 ++ [r23.1, r24.1, r26, r27, r28]).length) c41) (.slice A40 r25.1.length c40) (fun _ => by kernel_rfl) ?_)))
       obtain ⟨y17, hb38, hY6⟩ := ob hY6
       obtain ⟨hb38_r, hb38_m, rfl⟩ := grow_some hb38
       obtain ⟨ti, hti, hz1, hz2, hz3⟩ := info_parts (P := Tryz.prog) (e := 9) (z := .string (ByteArray.mk #[])) (size := 1) (bytes := 16) (by kernel_rfl)
       refine T.step (W1.append (E := eStr) (l := (x12 ++ [r23.1, r24.1, r26, r27, r28])) (m := r25.1) 1 _ _ 16 ti _ (by rfl) (by kernel_rfl) rfl (by kernel_rfl) hti hz1 hz2 hz3 rfl (by decide) rfl rfl (fun w' hh => (SlOk.srcF (SlOk.mono (SlOk.mono hs22 (vt (made_le _ _) (vt (vt hV36 hV37) hV38))) hh.view) (fun _ _ _ _ h => h))) hb38_r hb38_m (fun A42 c42 => ?_))
       refine T.pk (.slice A42 (((x12 ++ [r23.1, r24.1, r26, r27, r28]) ++ r25.1).length) c42) (fun _ => by kernel_rfl) (T.nil (T.region (T.p2 (vi (IntKind.i64.wrap (x13 + 1))) (vi (IntKind.i64.wrap (x13 + 1))) (fun _ => by kernel_rfl) (T.nil ?_))))
       cases hY6
       exact fun a w' hf hh => ⟨(((x12 ++ [r23.1, r24.1, r26, r27, r28]) ++ r25.1), IntKind.i64.wrap (x13 + 1)), rfl, ((x12 ++ [r23.1, r24.1, r26, r27, r28]) ++ r25.1), (IntKind.i64.wrap (x13 + 1)), rfl, A42, c42, V38, (vt (vt (vt (vt (vt (vt hV31 hV33) hV34) hV35) hV36) hV37) hV38), (Fr.sel hf rfl), (hh.sub (dr1 (kp4 (kp1 kp0))))⟩
      rw [hc9, cond_false] at hY6
      refine T.exit ?_
      cases hY6
      cases (hr7 _ rfl)
      exact fun a w' hf hh => ⟨A38, c38, V31, hV31, (Fr.sel hf rfl), (hh.sub (kp4 (kp1 kp0)))⟩
     rintro a w' ⟨A39, c39, V32, hV32, hf, hh⟩
     refine (?_ : T 59 w V32 ((row 9 eStr A39 c39 z13) :: t28_) [(7, .slice A39 z13.length c39)] _) a w' hf hh
     clear hf hh
     refine T.seq (T.region (T.p2 (.slice A39 z13.length c39) (.slice A39 z13.length c39) (fun _ => by kernel_rfl) (T.nil ?_)))
     cases hX6
     refine T.ret rfl ?_
     exact T.ret1 rfl (ResIs.tmp rfl) fun w' hh => ⟨_, rfl, ⟨A39, c39, V32, hV32, rfl, (hh.sub (kp4 (kp1 kp0)))⟩⟩
    rintro v w' ⟨A37, c37, V30, hV30, rfl, hh⟩
    refine ⟨V30, ((row 9 eStr A37 c37 z12) :: t28_), hh, ?_⟩
    clear hh
    refine TA.on (Hp.old hV30 w45_ (dr2 (kp1 (dr1 (kp1 kp0)))) (oR1 (oR1 ol0))) ?_
    refine TA.all [8] (by kernel_rfl) rfl ⟨?_, trivial⟩
    refine TA.br rfl (W1.call (vSc eBool) r29 37 #[.slice A37 z12.length c37, .slice A43 e7.length c43] (by kernel_rfl) (fun _ => by kernel_rfl) (fun w' hh => slices_Equal_string_l F z12 e7 r29 hb40 w' A37 c37 (hh.row_slOk (i := 0) (by rfl)) A43 c43 (SlOk.mono (SlOk.mono hs23 (vt (made_le _ _) hV30)) hh.view)) ?_)
    intro u V39 hV39 hu
    obtain rfl := sureBool _ _ _ hu
    refine TA.onk (Hp.old (vt hV30 hV39) w45_ (dr2 (kp1 (dr1 (kp1 kp0)))) (oR1 (oR1 ol0))) fun o49_ => ?_
    refine TA.tp 9 (.bool (!r29)) rfl (fun _ => by kernel_rfl) (fun _ _ _ h => h) o49_ ?_
    refine TA.done (by kernel_rfl) ?_
    exact fun a w' hf hh => ⟨V39, (vt hV30 hV39), (Fr.sel hf rfl), (hh.sub (dr1 (kp3 (kp1 kp0))))⟩
   rintro a w' ⟨V40, hV40, hf, hh⟩
   refine (?_ : T 125 w V40 t28_ [(1, .slice A12 (([(ByteArray.mk #[47])] ++ s1).length) c12), (9, pB b7 0), (13, .slice A28 z9.length c28), (107, .slice A26 ((z8 ++ [z3]).length) c26), (108, vi ((z8 ++ [z3]).length : Int)), (109, vi x11), (123, .bool (!r29))] _) a w' hf hh
   clear hf hh
   refine T.cond (!r29) (by kernel_rfl) (by kernel_rfl) (fun hc10 => ?_) (fun hc10 => ?_)
   ·
    rw [hc10, cond_true] at hY5
    refine T.seq (T.region (T.pk (.bool false) (fun _ => by kernel_rfl) (T.nil ?_)))
    cases hY5
    cases (hr6 _ rfl)
    try dsimp only at hF
    cases hF
    refine T.ret rfl ?_
    exact T.ret1 rfl (ResIs.tmp rfl) fun w' hh => ⟨_, rfl, hh.below, (show _ from rfl)⟩
   rw [hc10, cond_false] at hY5
   refine T.skip_code ?_
   refine T.region (T.p2 (vi (IntKind.i64.wrap (x11 + 1))) (vi (IntKind.i64.wrap (x11 + 1))) (fun _ => by kernel_rfl) (T.nil ?_))
   cases hY5
   exact fun a w' hf hh => ⟨(IntKind.i64.wrap (x11 + 1)), rfl, V40, (vt hV28 hV40), (Fr.sel hf rfl), (hh.sub (kp3 (kp1 kp0)))⟩
  rw [hc8, cond_false] at hY5
  refine T.exit ?_
  cases hY5
  cases (hr6 _ rfl)
  exact fun a w' hf hh => ⟨rfl, V28, hV28, (Fr.nil hf), (hh.sub (dr3 (dr1 kp0)))⟩
 rintro a w' ⟨rfl, V29, hV29, hf, hh⟩
 try dsimp only at hF
 refine (?_ : T 125 w V29 [] [] _) a w' hf hh
 clear hf hh
 refine T.seq (T.region (T.pk (.bool true) (fun _ => by kernel_rfl) (T.nil ?_)))
 cases hF
 refine T.ret rfl ?_
 exact T.ret1 rfl (ResIs.tmp rfl) fun w' hh => ⟨_, rfl, hh.below, (show _ from rfl)⟩
end Go.Proofs.YtacjdfhllomccaaGreatDoor
