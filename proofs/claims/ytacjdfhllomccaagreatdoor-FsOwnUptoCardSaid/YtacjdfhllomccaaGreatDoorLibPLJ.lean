/- The Go functions of group LibP compute the pure functions of that group: written by walkgen.py. Condition of each: the pure function yields a result. -/
import Derived.Test.YtacjdfhllomccaaGreatDoorSh2J
import Derived.Test.YtacjdfhllomccaaGreatDoorLibLJ
import Derived.Test.YtacjdfhllomccaaGreatDoorLibPFJ
import Derived.Test.YtacjdfhllomccaaGreatDoorEqLJ
namespace Go.Proofs.YtacjdfhllomccaaGreatDoor
set_option linter.unusedVariables false
set_option maxRecDepth 100000 in
set_option maxHeartbeats 4000000 in
theorem internal_stringslite_HasPrefix_l (p0 : ByteArray) (p1 : ByteArray) (r : Bool) (hF : internal_stringslite_HasPrefix p0 p1 = some r) (w : World)  :
 Calls Tryz.prog 68 #[.string p0, .string p1] w (Post (vSc eBool) r w) := by
 unfold internal_stringslite_HasPrefix at hF
 refine T.start (l := [.string p0, .string p1]) Tryz.func68 rfl rfl rfl ?_
 refine T.seq (T.region (T.pk (.bool false) (fun _ => by kernel_rfl) (T.nil ?_)))
 obtain ⟨z1, hX1, hF⟩ := ob hF
 refine T.cut (fun a w' => Fr 18 [(4, .bool z1)] a ∧ Hp w (vw w) [] w') ?_ ?_
 ·
  refine T.region (T.p6 (.string p0) (vi (p0.size : Int)) (.string p1) (vi (p1.size : Int)) (.bool (decide ((p1.size : Int) ≤ (p0.size : Int)))) (.bool (decide ((p1.size : Int) ≤ (p0.size : Int)))) (fun _ => by kernel_rfl) ?_)
  cases hg1 : decide ((p1.size : Int) ≤ (p0.size : Int))
  ·
   skip
   rw [hg1, cond_false] at hX1
   refine T.pass (by kernel_rfl) (by kernel_rfl) (T.pass (by kernel_rfl) (by kernel_rfl) (T.pass (by kernel_rfl) (by kernel_rfl) (T.pass (by kernel_rfl) (by kernel_rfl) (T.pass (by kernel_rfl) (by kernel_rfl) (T.pass (by kernel_rfl) (by kernel_rfl) (T.p2 (.bool false) (.bool false) (fun _ => by kernel_rfl) (T.nil ?_)))))))
   cases hX1
   exact fun a w' hf hh => ⟨(Fr.sel hf rfl), (hh.sub List.Sublist.slnil)⟩
  skip
  rw [hg1, cond_true] at hX1
  refine T.p3 (.string p0) (.string p1) (vi (p1.size : Int)) (fun _ => by kernel_rfl) ?_
  obtain ⟨s1, hb1, hX1⟩ := ob hX1
  refine T.look (.string s1) (by kernel_rfl) (fun w' hh => exec_slice_str_hi rfl rfl rfl (by kernel_rfl) hb1) ?_
  refine T.p4 (.string p1) (.bool (seq s1 p1)) (.bool (seq s1 p1)) (.bool (seq s1 p1)) (fun _ => by kernel_rfl) (T.nil ?_)
  cases hX1
  exact fun a w' hf hh => ⟨(Fr.sel hf rfl), (hh.sub List.Sublist.slnil)⟩
 rintro a w' ⟨hf, hh⟩
 refine (?_ : T 18 w (vw w) [] [(4, .bool z1)] _) a w' hf hh
 clear hf hh
 cases hF
 refine T.ret rfl ?_
 exact T.ret1 rfl (ResIs.tmp rfl) fun w' hh => ⟨_, rfl, hh.below, (show _ from rfl)⟩
set_option maxRecDepth 100000 in
set_option maxHeartbeats 4000000 in
theorem strings_HasPrefix_l (p0 : ByteArray) (p1 : ByteArray) (r : Bool) (hF : strings_HasPrefix p0 p1 = some r) (w : World)  :
 Calls Tryz.prog 31 #[.string p0, .string p1] w (Post (vSc eBool) r w) := by
 unfold strings_HasPrefix at hF
 refine T.start (l := [.string p0, .string p1]) Tryz.func31 rfl rfl rfl ?_
 refine T.seq (T.region (T.pk (.bool false) (fun _ => by kernel_rfl) (T.nil (T.seq (T.region (T.p2 (.string p0) (.string p1) (fun _ => by kernel_rfl) ?_))))))
 obtain ⟨r1, hb1, hF⟩ := ob hF
 refine T.step (W1.call (vSc eBool) r1 68 #[.string p0, .string p1] (by kernel_rfl) (fun _ => by kernel_rfl) (fun w' hh => internal_stringslite_HasPrefix_l p0 p1 r1 hb1 w' ) ?_)
 intro u V1 hV1 hu
 obtain rfl := sureBool _ _ _ hu
 refine T.pk (.bool r1) (fun _ => by kernel_rfl) (T.nil ?_)
 cases hF
 refine T.ret rfl ?_
 exact T.ret1 rfl (ResIs.tmp rfl) fun w' hh => ⟨_, rfl, hh.below, (show _ from rfl)⟩
end Go.Proofs.YtacjdfhllomccaaGreatDoor
