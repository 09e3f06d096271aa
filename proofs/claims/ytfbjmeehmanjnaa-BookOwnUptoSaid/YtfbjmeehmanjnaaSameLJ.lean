/- The Go functions of group Same compute the pure functions of that group: written by walkgen.py. Condition of each: the pure function yields a result. -/
import Derived.Test.YtfbjmeehmanjnaaEqsLJ
import Derived.Test.YtfbjmeehmanjnaaEqAJ
import Derived.Test.YtfbjmeehmanjnaaSameFJ
import Derived.Test.YtfbjmeehmanjnaaEqLJ
namespace Go.Proofs.Ytfbjmeehmanjnaa
set_option linter.unusedVariables false
set_option maxRecDepth 100000 in
set_option maxHeartbeats 4000000 in
theorem annalref_SameBook_l (F : Nat) (p0 : DBook) (p1 : DBook) (r : Bool) (hF : annalref_SameBook F p0 p1 = some r) (w : World) (A1 : Option Addr) (c1 : Nat) (hs1 : SlOk (vw w) eElem A1 c1 p0.run) (A2 : Option Addr) (c2 : Nat) (hs2 : SlOk (vw w) eElem A2 c2 p1.run) :
 Calls Try.prog 12 #[.agg (List.toArray ((.slice A1 p0.run.length c1) :: (DA16.cells p0.roles ++ (DA16.cells p0.fed)))), .agg (List.toArray ((.slice A2 p1.run.length c2) :: (DA16.cells p1.roles ++ (DA16.cells p1.fed))))] w (Post (vSc eBool) r w) := by
 unfold annalref_SameBook at hF
 refine T.start (l := [.agg (List.toArray ((.slice A1 p0.run.length c1) :: (DA16.cells p0.roles ++ (DA16.cells p0.fed)))), .agg (List.toArray ((.slice A2 p1.run.length c2) :: (DA16.cells p1.roles ++ (DA16.cells p1.fed))))]) Try.func12 rfl rfl rfl ?_
 refine T.seq ?_
 refine T.region ?_
 refine T.step (W1.new 25 ((.slice A1 p0.run.length c1) :: (DA16.cells p0.roles ++ (DA16.cells p0.fed))) (fun b => .pointer (some ⟨b, 0, none⟩)) (by kernel_rfl) (fun _ => by kernel_rfl) (fun b1 => ?_))
 refine T.step (W1.new 25 ((.slice A2 p1.run.length c2) :: (DA16.cells p1.roles ++ (DA16.cells p1.fed))) (fun b => .pointer (some ⟨b, 0, none⟩)) (by kernel_rfl) (fun _ => by kernel_rfl) (fun b2 => ?_))
 refine T.pure (.bool false) (by kernel_rfl) (fun _ => by kernel_rfl) ?_
 refine T.nil ?_
 obtain ⟨z1, hX1, hF⟩ := Option.bind_eq_some_iff.1 hF
 refine T.cut (fun a w' => ∃ (V1 : View), View.le (vw w) V1 ∧ Fr 24 [(4, .bool z1)] a ∧ Hp w V1 [] w') ?_ ?_
 ·
  refine T.region ?_
  refine T.pure (.pointer (some ⟨b1, 0, none⟩)) (by kernel_rfl) (fun _ => by kernel_rfl) ?_
  refine T.look (.slice A1 p0.run.length c1) (by kernel_rfl) (fun w' hh => exec_load1 rfl rfl (by kernel_rfl) (hh.cellBox (i := 1) (by rfl) 0)) ?_
  refine T.pure (.pointer (some ⟨b2, 0, none⟩)) (by kernel_rfl) (fun _ => by kernel_rfl) ?_
  refine T.look (.slice A2 p1.run.length c2) (by kernel_rfl) (fun w' hh => exec_load1 rfl rfl (by kernel_rfl) (hh.cellBox (i := 0) (by rfl) 0)) ?_
  obtain ⟨r1, hb1, hX1⟩ := Option.bind_eq_some_iff.1 hX1
  refine T.step (W1.call (vSc eBool) r1 16 #[.slice A1 p0.run.length c1, .slice A2 p1.run.length c2] (by kernel_rfl) (fun _ => by kernel_rfl) (fun w' hh => slices_Equal_Elem_l F p0.run p1.run r1 hb1 w' A1 c1 (SlOk.mono hs1 hh.view) A2 c2 (SlOk.mono hs2 hh.view)) ?_)
  intro u V2 hV2 hu
  obtain rfl := sureBool _ _ _ hu
  refine T.pure (.bool r1) (by kernel_rfl) (fun _ => by kernel_rfl) ?_
  cases hg1 : r1
  ·
   skip
   rw [hg1, cond_false] at hX1
   refine T.pass (by kernel_rfl) (by kernel_rfl) ?_
   refine T.pass (by kernel_rfl) (by kernel_rfl) ?_
   refine T.pass (by kernel_rfl) (by kernel_rfl) ?_
   refine T.pass (by kernel_rfl) (by kernel_rfl) ?_
   refine T.pass (by kernel_rfl) (by kernel_rfl) ?_
   refine T.pure (.bool false) (by kernel_rfl) (fun _ => by kernel_rfl) ?_
   refine T.pure (.bool false) (by kernel_rfl) (fun _ => by kernel_rfl) ?_
   refine T.pass (by kernel_rfl) (by kernel_rfl) ?_
   refine T.pass (by kernel_rfl) (by kernel_rfl) ?_
   refine T.pass (by kernel_rfl) (by kernel_rfl) ?_
   refine T.pass (by kernel_rfl) (by kernel_rfl) ?_
   refine T.pass (by kernel_rfl) (by kernel_rfl) ?_
   refine T.pure (.bool false) (by kernel_rfl) (fun _ => by kernel_rfl) ?_
   refine T.pure (.bool false) (by kernel_rfl) (fun _ => by kernel_rfl) ?_
   refine T.nil ?_
   cases hX1
   exact fun a w' hf hh => Exists.intro V2 (And.intro hV2 (And.intro ((Fr.nil hf).pick hf 4 rfl) (hh.sub (.cons _ (.cons _ List.Sublist.slnil)))))
  ·
   skip
   rw [hg1, cond_true] at hX1
   refine T.pure (.pointer (some ⟨b1, 1, none⟩)) (by kernel_rfl) (fun _ => by kernel_rfl) ?_
   refine T.look (.agg #[.int .i64 p0.roles.x0, .int .i64 p0.roles.x1, .int .i64 p0.roles.x2, .int .i64 p0.roles.x3, .int .i64 p0.roles.x4, .int .i64 p0.roles.x5, .int .i64 p0.roles.x6, .int .i64 p0.roles.x7, .int .i64 p0.roles.x8, .int .i64 p0.roles.x9, .int .i64 p0.roles.x10, .int .i64 p0.roles.x11, .int .i64 p0.roles.x12, .int .i64 p0.roles.x13, .int .i64 p0.roles.x14, .int .i64 p0.roles.x15]) (by kernel_rfl) (fun w' hh => exec_loadN (cs := [.int .i64 p0.roles.x0, .int .i64 p0.roles.x1, .int .i64 p0.roles.x2, .int .i64 p0.roles.x3, .int .i64 p0.roles.x4, .int .i64 p0.roles.x5, .int .i64 p0.roles.x6, .int .i64 p0.roles.x7, .int .i64 p0.roles.x8, .int .i64 p0.roles.x9, .int .i64 p0.roles.x10, .int .i64 p0.roles.x11, .int .i64 p0.roles.x12, .int .i64 p0.roles.x13, .int .i64 p0.roles.x14, .int .i64 p0.roles.x15]) rfl rfl (by kernel_rfl) (by kernel_rfl) (fun j u hj => (hh.box_at (i := 1) (cs := ((.slice A1 p0.run.length c1) :: (DA16.cells p0.roles ++ (DA16.cells p0.fed)))) (by rfl) 1 j).trans (seg_at (n := 16) (by rfl) hj))) ?_
   refine T.pure (.pointer (some ⟨b2, 1, none⟩)) (by kernel_rfl) (fun _ => by kernel_rfl) ?_
   refine T.look (.agg #[.int .i64 p1.roles.x0, .int .i64 p1.roles.x1, .int .i64 p1.roles.x2, .int .i64 p1.roles.x3, .int .i64 p1.roles.x4, .int .i64 p1.roles.x5, .int .i64 p1.roles.x6, .int .i64 p1.roles.x7, .int .i64 p1.roles.x8, .int .i64 p1.roles.x9, .int .i64 p1.roles.x10, .int .i64 p1.roles.x11, .int .i64 p1.roles.x12, .int .i64 p1.roles.x13, .int .i64 p1.roles.x14, .int .i64 p1.roles.x15]) (by kernel_rfl) (fun w' hh => exec_loadN (cs := [.int .i64 p1.roles.x0, .int .i64 p1.roles.x1, .int .i64 p1.roles.x2, .int .i64 p1.roles.x3, .int .i64 p1.roles.x4, .int .i64 p1.roles.x5, .int .i64 p1.roles.x6, .int .i64 p1.roles.x7, .int .i64 p1.roles.x8, .int .i64 p1.roles.x9, .int .i64 p1.roles.x10, .int .i64 p1.roles.x11, .int .i64 p1.roles.x12, .int .i64 p1.roles.x13, .int .i64 p1.roles.x14, .int .i64 p1.roles.x15]) rfl rfl (by kernel_rfl) (by kernel_rfl) (fun j u hj => (hh.box_at (i := 0) (cs := ((.slice A2 p1.run.length c2) :: (DA16.cells p1.roles ++ (DA16.cells p1.fed)))) (by rfl) 1 j).trans (seg_at (n := 16) (by rfl) hj))) ?_
   refine T.look (.bool (p0.roles == p1.roles)) (by kernel_rfl) (fun w' hh => exec_eql_DA16 p0.roles p1.roles w' rfl rfl rfl) ?_
   refine T.pure (.bool (p0.roles == p1.roles)) (by kernel_rfl) (fun _ => by kernel_rfl) ?_
   refine T.pure (.bool (p0.roles == p1.roles)) (by kernel_rfl) (fun _ => by kernel_rfl) ?_
   cases hg2 : (p0.roles == p1.roles)
   ·
    skip
    rw [hg2, cond_false] at hX1
    refine T.pass (by kernel_rfl) (by kernel_rfl) ?_
    refine T.pass (by kernel_rfl) (by kernel_rfl) ?_
    refine T.pass (by kernel_rfl) (by kernel_rfl) ?_
    refine T.pass (by kernel_rfl) (by kernel_rfl) ?_
    refine T.pass (by kernel_rfl) (by kernel_rfl) ?_
    refine T.pure (.bool false) (by kernel_rfl) (fun _ => by kernel_rfl) ?_
    refine T.pure (.bool false) (by kernel_rfl) (fun _ => by kernel_rfl) ?_
    refine T.nil ?_
    cases hX1
    exact fun a w' hf hh => Exists.intro V2 (And.intro hV2 (And.intro ((Fr.nil hf).pick hf 4 rfl) (hh.sub (.cons _ (.cons _ List.Sublist.slnil)))))
   ·
    skip
    rw [hg2, cond_true] at hX1
    refine T.pure (.pointer (some ⟨b1, 17, none⟩)) (by kernel_rfl) (fun _ => by kernel_rfl) ?_
    refine T.look (.agg #[.int .i64 p0.fed.x0, .int .i64 p0.fed.x1, .int .i64 p0.fed.x2, .int .i64 p0.fed.x3, .int .i64 p0.fed.x4, .int .i64 p0.fed.x5, .int .i64 p0.fed.x6, .int .i64 p0.fed.x7, .int .i64 p0.fed.x8, .int .i64 p0.fed.x9, .int .i64 p0.fed.x10, .int .i64 p0.fed.x11, .int .i64 p0.fed.x12, .int .i64 p0.fed.x13, .int .i64 p0.fed.x14, .int .i64 p0.fed.x15]) (by kernel_rfl) (fun w' hh => exec_loadN (cs := [.int .i64 p0.fed.x0, .int .i64 p0.fed.x1, .int .i64 p0.fed.x2, .int .i64 p0.fed.x3, .int .i64 p0.fed.x4, .int .i64 p0.fed.x5, .int .i64 p0.fed.x6, .int .i64 p0.fed.x7, .int .i64 p0.fed.x8, .int .i64 p0.fed.x9, .int .i64 p0.fed.x10, .int .i64 p0.fed.x11, .int .i64 p0.fed.x12, .int .i64 p0.fed.x13, .int .i64 p0.fed.x14, .int .i64 p0.fed.x15]) rfl rfl (by kernel_rfl) (by kernel_rfl) (fun j u hj => (hh.box_at (i := 1) (cs := ((.slice A1 p0.run.length c1) :: (DA16.cells p0.roles ++ (DA16.cells p0.fed)))) (by rfl) 17 j).trans (seg_at (n := 16) (by rfl) hj))) ?_
    refine T.pure (.pointer (some ⟨b2, 17, none⟩)) (by kernel_rfl) (fun _ => by kernel_rfl) ?_
    refine T.look (.agg #[.int .i64 p1.fed.x0, .int .i64 p1.fed.x1, .int .i64 p1.fed.x2, .int .i64 p1.fed.x3, .int .i64 p1.fed.x4, .int .i64 p1.fed.x5, .int .i64 p1.fed.x6, .int .i64 p1.fed.x7, .int .i64 p1.fed.x8, .int .i64 p1.fed.x9, .int .i64 p1.fed.x10, .int .i64 p1.fed.x11, .int .i64 p1.fed.x12, .int .i64 p1.fed.x13, .int .i64 p1.fed.x14, .int .i64 p1.fed.x15]) (by kernel_rfl) (fun w' hh => exec_loadN (cs := [.int .i64 p1.fed.x0, .int .i64 p1.fed.x1, .int .i64 p1.fed.x2, .int .i64 p1.fed.x3, .int .i64 p1.fed.x4, .int .i64 p1.fed.x5, .int .i64 p1.fed.x6, .int .i64 p1.fed.x7, .int .i64 p1.fed.x8, .int .i64 p1.fed.x9, .int .i64 p1.fed.x10, .int .i64 p1.fed.x11, .int .i64 p1.fed.x12, .int .i64 p1.fed.x13, .int .i64 p1.fed.x14, .int .i64 p1.fed.x15]) rfl rfl (by kernel_rfl) (by kernel_rfl) (fun j u hj => (hh.box_at (i := 0) (cs := ((.slice A2 p1.run.length c2) :: (DA16.cells p1.roles ++ (DA16.cells p1.fed)))) (by rfl) 17 j).trans (seg_at (n := 16) (by rfl) hj))) ?_
    refine T.look (.bool (p0.fed == p1.fed)) (by kernel_rfl) (fun w' hh => exec_eql_DA16 p0.fed p1.fed w' rfl rfl rfl) ?_
    refine T.pure (.bool (p0.fed == p1.fed)) (by kernel_rfl) (fun _ => by kernel_rfl) ?_
    refine T.pure (.bool (p0.fed == p1.fed)) (by kernel_rfl) (fun _ => by kernel_rfl) ?_
    refine T.nil ?_
    cases hX1
    exact fun a w' hf hh => Exists.intro V2 (And.intro hV2 (And.intro ((Fr.nil hf).pick hf 4 rfl) (hh.sub (.cons _ (.cons _ List.Sublist.slnil)))))
 ·
  rintro a w' ⟨V1, hV1, hf, hh⟩
  refine (?_ : T 24 w V1 [] [(4, .bool z1)] _) a w' hf hh
  clear hf hh
  cases hF
  refine T.ret rfl ?_
  exact T.ret1 rfl (ResIs.tmp rfl) fun w' hh => ⟨_, rfl, hh.below, (show _ from rfl)⟩
end Go.Proofs.Ytfbjmeehmanjnaa
