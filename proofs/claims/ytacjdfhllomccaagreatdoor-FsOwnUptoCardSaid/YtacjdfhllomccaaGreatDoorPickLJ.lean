/- Pure functions, written by walkgen.py out of the Go functions of group Pick. Their conditions: none. -/
import Derived.Test.YtacjdfhllomccaaGreatDoorCodeFJ
import Derived.Test.YtacjdfhllomccaaGreatDoorMapJ
import Derived.Test.YtacjdfhllomccaaGreatDoorSh2J
import Derived.Test.YtacjdfhllomccaaGreatDoorCodeLJ
import Derived.Test.YtacjdfhllomccaaGreatDoorEqLJ
namespace Go.Proofs.YtacjdfhllomccaaGreatDoor
set_option linter.unusedVariables false
def annalkeep_num (p0 : (List Int)) (p1 : Int) : Option (Int) :=
 bif decide (p1 < (p0.length : Int)) then
  (idx p0 p1).bind fun e1 =>
  some e1
 else
  some 0
def annalkeep_pick (p0 : (List ByteArray)) (p1 : Int) : Option (ByteArray) :=
 bif ((p0.length : Int) == 0) then
  some (ByteArray.mk #[])
 else
  (annalkeep_Within p1 (p0.length : Int)).bind fun r1 =>
  (idx p0 r1).bind fun e1 =>
  some e1
end Go.Proofs.YtacjdfhllomccaaGreatDoor
/- The Go functions of group Pick compute the pure functions of that group: written by walkgen.py. Condition of each: the pure function yields a result. -/
namespace Go.Proofs.YtacjdfhllomccaaGreatDoor
set_option linter.unusedVariables false
set_option maxRecDepth 100000 in
set_option maxHeartbeats 4000000 in
theorem annalkeep_num_l (p0 : (List Int)) (p1 : Int) (r : Int) (hF : annalkeep_num p0 p1 = some r) (w : World) (A1 : Option Addr) (c1 : Nat) (hs1 : SlOk (vw w) eInt A1 c1 p0) :
 Calls Tryz.prog 72 #[.slice A1 p0.length c1, .int .i64 p1] w (Post (vSc eInt) r w) := by
 unfold annalkeep_num at hF
 refine T.start (l := [.slice A1 p0.length c1, vi p1]) Tryz.func72 rfl rfl rfl ?_
 refine T.seq (T.region (T.pk (vi 0) (fun _ => by kernel_rfl) (T.nil (T.seq (T.seq (T.region (T.p4 (vi p1) (.slice A1 p0.length c1) (vi (p0.length : Int)) (.bool (decide (p1 < (p0.length : Int)))) (fun _ => by kernel_rfl) (T.nil ?_))))))))
 refine T.cond (decide (p1 < (p0.length : Int))) (by kernel_rfl) (by kernel_rfl) (fun hc1 => ?_) (fun hc1 => ?_)
 ·
  rw [hc1, cond_true] at hF
  refine T.seq (T.region (T.p2 (.slice A1 p0.length c1) (vi p1) (fun _ => by kernel_rfl) ?_))
  obtain ⟨e1, hb1, hF⟩ := ob hF
  obtain ⟨hi1, hi2, hi3⟩ := idx_some hb1
  refine T.look (.pointer (some ((sadr A1).add (p1.toNat * 1)))) (by kernel_rfl) (fun w' hh => exec_indexAddr (e := 3) (s := 1) rfl rfl rfl (by kernel_rfl) (by kernel_rfl) hi1 hi2 (hs1.some_ hi3 (by decide))) ?_
  refine T.look (vi e1) (by kernel_rfl) (fun w' hh => exec_load1 rfl rfl (by kernel_rfl) (hh.cell_view (SlOk.cellF0 (E := eInt) hs1 hi3 (fun _ _ _ h => h) rfl))) ?_
  refine T.pk (vi e1) (fun _ => by kernel_rfl) (T.nil ?_)
  cases hF
  refine T.ret rfl ?_
  exact T.ret1 rfl (ResIs.tmp rfl) fun w' hh => ⟨_, rfl, hh.below, (show _ from rfl)⟩
 rw [hc1, cond_false] at hF
 refine T.skip_code ?_
 refine T.seq (T.region (T.pk (vi 0) (fun _ => by kernel_rfl) (T.nil ?_)))
 cases hF
 refine T.ret rfl ?_
 exact T.ret1 rfl (ResIs.tmp rfl) fun w' hh => ⟨_, rfl, hh.below, (show _ from rfl)⟩
set_option maxRecDepth 100000 in
set_option maxHeartbeats 4000000 in
theorem annalkeep_pick_l (p0 : (List ByteArray)) (p1 : Int) (r : ByteArray) (hF : annalkeep_pick p0 p1 = some r) (w : World) (A1 : Option Addr) (c1 : Nat) (hs1 : SlOk (vw w) eStr A1 c1 p0) :
 Calls Tryz.prog 19 #[.slice A1 p0.length c1, .int .i64 p1] w (Post (vSc eStr) r w) := by
 unfold annalkeep_pick at hF
 refine T.start (l := [.slice A1 p0.length c1, vi p1]) Tryz.func19 rfl rfl rfl ?_
 refine T.seq (T.region (T.pk (.string (ByteArray.mk #[])) (fun _ => by kernel_rfl) (T.nil (T.seq (T.seq (T.region (T.p3 (.slice A1 p0.length c1) (vi (p0.length : Int)) (.bool ((p0.length : Int) == 0)) (fun _ => by kernel_rfl) (T.nil ?_))))))))
 refine T.cond ((p0.length : Int) == 0) (by kernel_rfl) (by kernel_rfl) (fun hc1 => ?_) (fun hc1 => ?_)
 ·
  rw [hc1, cond_true] at hF
  refine T.seq (T.region (T.pk (.string (ByteArray.mk #[])) (fun _ => by kernel_rfl) (T.nil ?_)))
  cases hF
  refine T.ret rfl ?_
  exact T.ret1 rfl (ResIs.tmp rfl) fun w' hh => ⟨_, rfl, hh.below, (show _ from rfl)⟩
 rw [hc1, cond_false] at hF
 refine T.skip_code ?_
 refine T.seq (T.region (T.p4 (.slice A1 p0.length c1) (vi p1) (.slice A1 p0.length c1) (vi (p0.length : Int)) (fun _ => by kernel_rfl) ?_))
 obtain ⟨r1, hb1, hF⟩ := ob hF
 refine T.step (W1.call (vSc eInt) r1 22 #[vi p1, vi (p0.length : Int)] (by kernel_rfl) (fun _ => by kernel_rfl) (fun w' hh => annalkeep_Within_l p1 (p0.length : Int) r1 hb1 w' ) ?_)
 intro u V1 hV1 hu
 obtain rfl := sureInt _ _ _ hu
 obtain ⟨e1, hb2, hF⟩ := ob hF
 obtain ⟨hi1, hi2, hi3⟩ := idx_some hb2
 refine T.look (.pointer (some ((sadr A1).add (r1.toNat * 1)))) (by kernel_rfl) (fun w' hh => exec_indexAddr (e := 9) (s := 1) rfl rfl rfl (by kernel_rfl) (by kernel_rfl) hi1 hi2 ((SlOk.mono hs1 hV1).some_ hi3 (by decide))) ?_
 refine T.look (.string e1) (by kernel_rfl) (fun w' hh => exec_load1 rfl rfl (by kernel_rfl) (hh.cell_view (SlOk.cellF0 (E := eStr) (SlOk.mono hs1 hV1) hi3 (fun _ _ _ h => h) rfl))) ?_
 refine T.pk (.string e1) (fun _ => by kernel_rfl) (T.nil ?_)
 cases hF
 refine T.ret rfl ?_
 exact T.ret1 rfl (ResIs.tmp rfl) fun w' hh => ⟨_, rfl, hh.below, (show _ from rfl)⟩
end Go.Proofs.YtacjdfhllomccaaGreatDoor
