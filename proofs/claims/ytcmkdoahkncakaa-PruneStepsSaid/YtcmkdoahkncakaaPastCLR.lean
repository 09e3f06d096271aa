/- The Go functions of group PastC compute the pure functions of that group: written by walkgen.py. Condition of each: the pure function yields a result. -/
import Derived.Test.YtcmkdoahkncakaaSh2R
import Derived.Test.YtcmkdoahkncakaaTreeLR
import Derived.Test.YtcmkdoahkncakaaRunLR
import Derived.Test.YtcmkdoahkncakaaPastCFR
import Derived.Test.YtcmkdoahkncakaaEqLR
namespace Go.Proofs.Ytcmkdoahkncakaa
set_option linter.unusedVariables false
set_option maxRecDepth 100000 in
set_option maxHeartbeats 4000000 in
theorem past_Check_l (F : Nat) (p0 : DTree) (r : Int) (hF : past_Check F p0 = some r) (w : World) (A1 : Option Addr) (c1 : Nat) (hs1 : SlOk (vw w) eNode A1 c1 p0.nodes) :
 Calls Try.prog 53 #[.agg #[.int .i64 p0.root, .slice A1 p0.nodes.length c1]] w (Post (vSc eInt) r w) := by
 unfold past_Check at hF
 let a2_ : Value := .agg #[vi p0.root, .slice A1 p0.nodes.length c1]
 refine T.start (l := [a2_]) Try.func53 rfl rfl rfl ?_
 refine T.seq (T.region ?_)
 let v1_ : List Value := [vi p0.root, .slice A1 p0.nodes.length c1]
 refine T.step (W1.np 24 v1_ (fun _ => by kernel_rfl) (fun b1 => ?_))
 refine T.pk (vi 0) (fun _ => by kernel_rfl) (T.nil (T.seq (T.region (T.look a2_ (by kernel_rfl) (ldN 0 rfl rfl (fun _ => by kernel_rfl) (by rfl) rfl) ?_))))
 obtain ⟨r1, hb1, hF⟩ := ob hF
 refine T.step (W1.call (vT2 (vSc (eList eElem)) (vSc eInt)) r1 17 #[a2_] (by kernel_rfl) (fun _ => by kernel_rfl) (fun w' hh => tree_All_l F p0 r1 hb1 w' A1 c1 (SlOk.mono hs1 hh.view)) ?_)
 intro u V1 hV1 hu
 obtain ⟨u1, u2, rfl, hu1, hu2⟩ := vT2_elim hu
 obtain ⟨A2, c2, rfl, hs2⟩ := vlist_elim hu1
 obtain rfl := sureInt _ _ _ hu2
 refine T.p5 (.tuple #[.slice A2 r1.1.length c2, vi r1.2]) (.slice A2 r1.1.length c2) (vi r1.2) (.slice A2 r1.1.length c2) (vi r1.2) (fun _ => by kernel_rfl) (T.nil (T.seq (T.seq (T.region (T.p2 (vi r1.2) (.bool (r1.2 != 0)) (fun _ => by kernel_rfl) (T.nil ?_))))))
 refine T.cond (r1.2 != 0) (by kernel_rfl) (by kernel_rfl) (fun hc1 => ?_) (fun hc1 => ?_)
 ·
  rw [hc1, cond_true] at hF
  refine T.seq (T.region (T.p2 (vi r1.2) (vi r1.2) (fun _ => by kernel_rfl) (T.nil ?_)))
  cases hF
  refine T.ret rfl ?_
  exact T.ret1 rfl (ResIs.tmp rfl) fun w' hh => ⟨_, rfl, hh.below, (show _ from rfl)⟩
 rw [hc1, cond_false] at hF
 refine T.skip_code ?_
 refine T.seq (T.region (T.pk (.slice A2 r1.1.length c2) (fun _ => by kernel_rfl) ?_))
 obtain ⟨r2, hb2, hF⟩ := ob hF
 refine T.step (W1.call (vSc eInt) r2 35 #[.slice A2 r1.1.length c2] (by kernel_rfl) (fun _ => by kernel_rfl) (fun w' hh => run_Check_l F r1.1 r2 hb2 w' A2 c2 (SlOk.mono (SlOk.mono hs2 (vt (made_le _ _) vr)) hh.view)) ?_)
 intro u V2 hV2 hu
 obtain rfl := sureInt _ _ _ hu
 refine T.pk (vi r2) (fun _ => by kernel_rfl) (T.nil ?_)
 cases hF
 refine T.ret rfl ?_
 exact T.ret1 rfl (ResIs.tmp rfl) fun w' hh => ⟨_, rfl, hh.below, (show _ from rfl)⟩
end Go.Proofs.Ytcmkdoahkncakaa
