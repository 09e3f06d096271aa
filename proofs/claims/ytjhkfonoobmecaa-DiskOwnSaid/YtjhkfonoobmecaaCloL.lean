/- The Go functions of group Clo compute the pure functions of that group: written by walkgen.py. Condition of each: the pure function yields a result. -/
import Derived.Test.YtjhkfonoobmecaaCloF
import Derived.Test.YtjhkfonoobmecaaEqL
namespace Go.Proofs.Ytjhkfonoobmecaa
set_option linter.unusedVariables false

set_option maxRecDepth 100000 in
set_option maxHeartbeats 4000000 in
theorem annalkeep_one_l (p0 : ByteArray) (r : DDisk) (hF : annalkeep_one p0 = some r) (w : World)  :
    Calls Try.prog 20 #[.string p0] w (Post (vAg eDisk) r w) := by
 unfold annalkeep_one at hF
 refine T.start (l := [.string p0]) Try.func20 rfl rfl rfl ?_
 refine T.seq ?_
 refine T.region ?_
 refine T.step (W1.new 25 [.slice none 0 0, .slice none 0 0] (fun b => .pointer (some ⟨b, 0, none⟩)) (by kernel_rfl) (fun _ => by kernel_rfl) (fun b1 => ?_))
 refine T.nil ?_
 refine T.seq ?_
 refine T.region ?_
 refine T.pure (.string p0) (by kernel_rfl) (fun _ => by kernel_rfl) ?_
 refine T.step (W1.new 9 [.string p0] (fun b => .slice (some ⟨b, 0, none⟩) 1 1) (by kernel_rfl) (fun _ => by kernel_rfl) (fun b2 => ?_))
 refine T.pure (.agg #[.slice (some ⟨b2, 0, none⟩) 1 1, .slice none 0 0]) (by kernel_rfl) (fun _ => by kernel_rfl) ?_
 refine T.step (W1.store 1 [.slice (some ⟨b2, 0, none⟩) 1 1, .slice none 0 0] [box b2 9 [.string p0], box b1 25 [.slice (some ⟨b2, 0, none⟩) 1 1, .slice none 0 0]] (by rfl) rfl (by kernel_rfl) (fun w' hw => exec_store (vs := [.slice (some ⟨b2, 0, none⟩) 1 1, .slice none 0 0]) rfl rfl rfl rfl (by kernel_rfl) (one_of rfl) (by simp) rfl hw) ?_)
 refine T.nil ?_
 cases hF
 refine T.ret rfl ?_
 exact T.ret1 rfl (ResIs.cellN 1 rfl (by rfl) (fun _ => by kernel_rfl) (fun _ => by kernel_rfl)) fun w' hh => ⟨_, rfl, hh.below, (vAg.mk ⟨_, _, _, _, rfl, (hh.lit_fresh (i := 0) (E := eStr) (f := (fun x => [.string x])) [p0] (fun _ _ => rfl) (Nat.le_of_ble_eq_true (by rfl)) (by rfl)), (SlOk.nil _ _)⟩)⟩

end Go.Proofs.Ytjhkfonoobmecaa
