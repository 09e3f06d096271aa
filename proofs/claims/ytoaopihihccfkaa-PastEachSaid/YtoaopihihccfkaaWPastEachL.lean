/- The Go functions of group WPastEach compute the pure functions of that group: written by walkgen.py. Condition of each: the pure function yields a result. -/
import Derived.Test.YtoaopihihccfkaaPastAL
import Derived.Test.YtoaopihihccfkaaBuildL
import Derived.Test.YtoaopihihccfkaaWPastEachF
import Derived.Test.YtoaopihihccfkaaEqL
namespace Go.Proofs.Ytoaopihihccfkaa
set_option linter.unusedVariables false

set_option maxRecDepth 100000 in
set_option maxHeartbeats 4000000 in
theorem annalkeep_PastEach_l (F : Nat) (p0 : DTree) (p1 : Int) (r : Bool) (hF : annalkeep_PastEach F p0 p1 = some r) (w : World) (A1 : Option Addr) (c1 : Nat) (hs1 : SlOk (vw w) eNode A1 c1 p0.nodes) :
    Calls Try.prog 9 #[.agg #[.int .i64 p0.root, .slice A1 p0.nodes.length c1], .int .i64 p1] w (Post (vSc eBool) r w) := by
 unfold annalkeep_PastEach at hF
 refine T.start (l := [.agg #[.int .i64 p0.root, .slice A1 p0.nodes.length c1], .int .i64 p1]) Try.func9 rfl rfl rfl ?_
 refine T.seq ?_
 refine T.region ?_
 refine T.step (W1.new 24 [.int .i64 p0.root, .slice A1 p0.nodes.length c1] (fun b => .pointer (some ⟨b, 0, none⟩)) (by kernel_rfl) (fun _ => by kernel_rfl) (fun b1 => ?_))
 refine T.pure (.bool false) (by kernel_rfl) (fun _ => by kernel_rfl) ?_
 refine T.nil ?_
 refine T.seq ?_
 refine T.region ?_
 refine T.pure (.agg #[.int .i64 0, .int .i64 0, .int .i64 1]) (by kernel_rfl) (fun _ => by kernel_rfl) ?_
 refine T.pure (.agg #[.int .i64 0, .int .i64 0, .int .i64 1, .int .i64 1, .int .i64 3, .string (ByteArray.mk #[])]) (by kernel_rfl) (fun _ => by kernel_rfl) ?_
 refine T.step (W1.new 39 [.int .i64 0, .int .i64 0, .int .i64 0, .int .i64 0, .int .i64 0, .string (ByteArray.mk #[])] (fun b => .pointer (some ⟨b, 0, none⟩)) (by kernel_rfl) (fun _ => by kernel_rfl) (fun b2 => ?_))
 refine T.step (W1.store 0 [.int .i64 0, .int .i64 0, .int .i64 1, .int .i64 1, .int .i64 3, .string (ByteArray.mk #[])] [box b2 39 [.int .i64 0, .int .i64 0, .int .i64 1, .int .i64 1, .int .i64 3, .string (ByteArray.mk #[])], box b1 24 [.int .i64 p0.root, .slice A1 p0.nodes.length c1]] (by rfl) rfl (by kernel_rfl) (fun w' hw => exec_store (vs := [.int .i64 0, .int .i64 0, .int .i64 1, .int .i64 1, .int .i64 3, .string (ByteArray.mk #[])]) rfl rfl rfl rfl (by kernel_rfl) (one_of rfl) (by simp) rfl hw) ?_)
 refine T.nil ?_
 refine T.seq ?_
 refine T.seq ?_
 obtain ⟨r1, hb1, hF⟩ := Option.bind_eq_some_iff.1 hF
 obtain ⟨r2, hb2, hF⟩ := Option.bind_eq_some_iff.1 hF
 refine T.mid (fun a w' => ∃ (b4 : Nat) (V3 : View), View.le (vw w) V3 ∧ Fr 95 [(1, .int .i64 p1), (2, .pointer (some ⟨b1, 0, none⟩)), (5, .pointer (some ⟨b2, 0, none⟩)), (6, .pointer (some ⟨b4, 0, none⟩)), (7, .int .i64 r2.2)] a ∧ Hp w V3 [box b4 39 [.int .i64 r2.1.key.pfs, .int .i64 r2.1.key.obj, .int .i64 r2.1.key.off, .int .i64 r2.1.made, .int .i64 r2.1.gone, .string r2.1.val], box b2 39 [.int .i64 0, .int .i64 0, .int .i64 1, .int .i64 1, .int .i64 3, .string (ByteArray.mk #[])], box b1 24 [.int .i64 p0.root, .slice A1 p0.nodes.length c1]] w') ?_ ?_
 ·
  refine T.held [box b2 39 [.int .i64 0, .int .i64 0, .int .i64 1, .int .i64 1, .int .i64 3, .string (ByteArray.mk #[])], box b1 24 [.int .i64 p0.root, .slice A1 p0.nodes.length c1]] (by kernel_rfl) ?_
  refine TA.take 0 (.agg #[.int .i64 0, .int .i64 0, .int .i64 1, .int .i64 1, .int .i64 3, .string (ByteArray.mk #[])]) rfl (by kernel_rfl) (by kernel_rfl) (by kernel_rfl) (fun _ _ _ h => h) (Hp.old (View.le_refl _) (View.le_refl _) (.cons_cons _ (.cons_cons _ List.Sublist.slnil)) (OldAll.box (OldAll.box OldAll.nil))) (by kernel_rfl) (fun w' hh => exec_loadN (cs := [.int .i64 0, .int .i64 0, .int .i64 1, .int .i64 1, .int .i64 3, .string (ByteArray.mk #[])]) rfl rfl (by kernel_rfl) (by kernel_rfl) (fun j u hj => (hh.box_at (i := 0) (cs := [.int .i64 0, .int .i64 0, .int .i64 1, .int .i64 1, .int .i64 3, .string (ByteArray.mk #[])]) (by rfl) 0 j).trans (seg_at (n := 6) (by rfl) hj))) ?_
  refine TA.take 3 (.pointer (some ⟨b2, 0, none⟩)) rfl (by kernel_rfl) (by kernel_rfl) (by kernel_rfl) (fun _ _ _ h => h) (Hp.old (View.le_refl _) (View.le_refl _) (.cons_cons _ (.cons_cons _ List.Sublist.slnil)) (OldAll.box (OldAll.box OldAll.nil))) (by kernel_rfl) (fun _ _ => by kernel_rfl) ?_
  refine TA.take 4 (.agg #[.int .i64 0, .int .i64 0, .int .i64 1]) rfl (by kernel_rfl) (by kernel_rfl) (by kernel_rfl) (fun _ _ _ h => h) (Hp.old (View.le_refl _) (View.le_refl _) (.cons_cons _ (.cons_cons _ List.Sublist.slnil)) (OldAll.box (OldAll.box OldAll.nil))) (by kernel_rfl) (fun w' hh => exec_loadN (cs := [.int .i64 0, .int .i64 0, .int .i64 1]) rfl rfl (by kernel_rfl) (by kernel_rfl) (fun j u hj => (hh.box_at (i := 0) (cs := [.int .i64 0, .int .i64 0, .int .i64 1, .int .i64 1, .int .i64 3, .string (ByteArray.mk #[])]) (by rfl) 0 j).trans (seg_at (n := 3) (by rfl) hj))) ?_
  refine TA.all [1, 9] (by kernel_rfl) rfl ⟨?_, ?_, trivial⟩
  ·
   refine TA.br rfl (W1.new 39 [.int .i64 0, .int .i64 0, .int .i64 1, .int .i64 1, .int .i64 3, .string (ByteArray.mk #[])] (fun b => .slice (some ⟨b, 0, none⟩) 1 1) (by kernel_rfl) (fun _ => by kernel_rfl) (fun b3 => ?_))
   refine TA.on (Hp.old (View.le_refl _) (View.le_refl _) (.cons _ (.cons_cons _ (.cons_cons _ List.Sublist.slnil))) (OldAll.box (OldAll.box OldAll.nil))) ?_
   refine TA.all [2, 9] (by kernel_rfl) rfl ⟨?_, ?_, trivial⟩
   ·
    refine TA.br rfl (W1.call (vAg eTree) r1 16 #[.slice (some ⟨b3, 0, none⟩) 1 1] (by kernel_rfl) (fun _ => by kernel_rfl) (fun w' hh => annalkeep_of_l F [(DElem.mk (DKey.mk 0 0 1) 1 3 (ByteArray.mk #[]))] r1 hb1 w' (some ⟨b3, 0, none⟩) 1 (slok_lit (E := eElem) (f := DElem.cells) [(DElem.mk (DKey.mk 0 0 1) 1 3 (ByteArray.mk #[]))] (fun _ _ => rfl) (Nat.le_of_ble_eq_true (by rfl)) (fun j => hh.cellBox (i := 0) (by rfl) j))) ?_)
    intro u V1 hV1 hu
    obtain ⟨cs1, rfl, hr1⟩ := vagg_elim hu
    obtain ⟨A2, c2, rfl, hs2⟩ := hr1
    refine TA.on (Hp.old hV1 (View.le_refl _) (.cons _ (.cons_cons _ (.cons_cons _ List.Sublist.slnil))) (OldAll.box (OldAll.box OldAll.nil))) ?_
    refine TA.all [5, 9] (by kernel_rfl) rfl ⟨?_, ?_, trivial⟩
    ·
     refine TA.br rfl (W1.call (vT2 (vAg eElem) (vSc eInt)) r2 30 #[.agg #[.int .i64 r1.root, .slice A2 r1.nodes.length c2], .agg #[.int .i64 0, .int .i64 0, .int .i64 1], .int .i64 2] (by kernel_rfl) (fun _ => by kernel_rfl) (fun w' hh => past_At_l F r1 (DKey.mk 0 0 1) 2 r2 hb2 w' A2 c2 (SlOk.mono (SlOk.mono hs2 (View.le_trans (made_le _ _) (View.le_refl _))) hh.view)) ?_)
     intro u V2 hV2 hu
     obtain rfl := (Sure.t2 sureElem sureInt) _ _ _ hu
     refine TA.on (Hp.old (View.le_trans hV1 hV2) (View.le_refl _) (.cons _ (.cons_cons _ (.cons_cons _ List.Sublist.slnil))) (OldAll.box (OldAll.box OldAll.nil))) ?_
     refine TA.take 6 (.tuple #[.agg #[.int .i64 r2.1.key.pfs, .int .i64 r2.1.key.obj, .int .i64 r2.1.key.off, .int .i64 r2.1.made, .int .i64 r2.1.gone, .string r2.1.val], .int .i64 r2.2]) rfl (by kernel_rfl) (by kernel_rfl) (by kernel_rfl) (fun _ _ _ h => h) (Hp.old (View.le_trans hV1 hV2) (View.le_refl _) (.cons _ (.cons_cons _ (.cons_cons _ List.Sublist.slnil))) (OldAll.box (OldAll.box OldAll.nil))) (by kernel_rfl) (fun _ _ => by kernel_rfl) ?_
     refine TA.take 7 (.agg #[.int .i64 r2.1.key.pfs, .int .i64 r2.1.key.obj, .int .i64 r2.1.key.off, .int .i64 r2.1.made, .int .i64 r2.1.gone, .string r2.1.val]) rfl (by kernel_rfl) (by kernel_rfl) (by kernel_rfl) (fun _ _ _ h => h) (Hp.old (View.le_trans hV1 hV2) (View.le_refl _) (.cons _ (.cons_cons _ (.cons_cons _ List.Sublist.slnil))) (OldAll.box (OldAll.box OldAll.nil))) (by kernel_rfl) (fun _ _ => by kernel_rfl) ?_
     refine TA.take 8 (.int .i64 r2.2) rfl (by kernel_rfl) (by kernel_rfl) (by kernel_rfl) (fun _ _ _ h => h) (Hp.old (View.le_trans hV1 hV2) (View.le_refl _) (.cons _ (.cons_cons _ (.cons_cons _ List.Sublist.slnil))) (OldAll.box (OldAll.box OldAll.nil))) (by kernel_rfl) (fun _ _ => by kernel_rfl) ?_
     refine TA.all [9] (by kernel_rfl) rfl ⟨?_, trivial⟩
     refine TA.br rfl (W1.new 39 [.int .i64 0, .int .i64 0, .int .i64 0, .int .i64 0, .int .i64 0, .string (ByteArray.mk #[])] (fun b => .pointer (some ⟨b, 0, none⟩)) (by kernel_rfl) (fun _ => by kernel_rfl) (fun b4 => ?_))
     refine TA.on (Hp.old (View.le_trans hV1 hV2) (View.le_refl _) (.cons _ (.cons _ (.cons_cons _ (.cons_cons _ List.Sublist.slnil)))) (OldAll.box (OldAll.box OldAll.nil))) ?_
     refine TA.all [10] (by kernel_rfl) rfl ⟨?_, trivial⟩
     refine TA.br rfl (W1.store 0 [.int .i64 r2.1.key.pfs, .int .i64 r2.1.key.obj, .int .i64 r2.1.key.off, .int .i64 r2.1.made, .int .i64 r2.1.gone, .string r2.1.val] [box b4 39 [.int .i64 r2.1.key.pfs, .int .i64 r2.1.key.obj, .int .i64 r2.1.key.off, .int .i64 r2.1.made, .int .i64 r2.1.gone, .string r2.1.val], box b3 39 [.int .i64 0, .int .i64 0, .int .i64 1, .int .i64 1, .int .i64 3, .string (ByteArray.mk #[])], box b2 39 [.int .i64 0, .int .i64 0, .int .i64 1, .int .i64 1, .int .i64 3, .string (ByteArray.mk #[])], box b1 24 [.int .i64 p0.root, .slice A1 p0.nodes.length c1]] (by rfl) rfl (by kernel_rfl) (fun w' hw => exec_store (vs := [.int .i64 r2.1.key.pfs, .int .i64 r2.1.key.obj, .int .i64 r2.1.key.off, .int .i64 r2.1.made, .int .i64 r2.1.gone, .string r2.1.val]) rfl rfl rfl rfl (by kernel_rfl) (one_of rfl) (by simp) rfl hw) ?_)
     refine TA.on (Hp.old (View.le_trans hV1 hV2) (View.le_refl _) (.cons _ (.cons _ (.cons_cons _ (.cons_cons _ List.Sublist.slnil)))) (OldAll.box (OldAll.box OldAll.nil))) ?_
     refine TA.take 11 (.int .i64 r2.2) rfl (by kernel_rfl) (by kernel_rfl) (by kernel_rfl) (fun _ _ _ h => h) (Hp.old (View.le_trans hV1 hV2) (View.le_refl _) (.cons _ (.cons _ (.cons_cons _ (.cons_cons _ List.Sublist.slnil)))) (OldAll.box (OldAll.box OldAll.nil))) (by kernel_rfl) (fun _ _ => by kernel_rfl) ?_
     refine TA.done (by kernel_rfl) ?_
     exact fun a w' hf hh => Exists.intro b4 (Exists.intro V2 (And.intro (View.le_trans hV1 hV2) (And.intro ((((((Fr.nil hf).pick hf 7 rfl).pick hf 6 rfl).pick hf 5 rfl).pick hf 2 rfl).pick hf 1 rfl) (hh.sub (.cons_cons _ (.cons _ (.cons_cons _ (.cons_cons _ List.Sublist.slnil))))))))
    ·
     refine TA.br rfl (W1.new 39 [.int .i64 0, .int .i64 0, .int .i64 0, .int .i64 0, .int .i64 0, .string (ByteArray.mk #[])] (fun b => .pointer (some ⟨b, 0, none⟩)) (by kernel_rfl) (fun _ => by kernel_rfl) (fun b4 => ?_))
     refine TA.on (Hp.old hV1 (View.le_refl _) (.cons _ (.cons _ (.cons_cons _ (.cons_cons _ List.Sublist.slnil)))) (OldAll.box (OldAll.box OldAll.nil))) ?_
     refine TA.all [5] (by kernel_rfl) rfl ⟨?_, trivial⟩
     refine TA.br rfl (W1.call (vT2 (vAg eElem) (vSc eInt)) r2 30 #[.agg #[.int .i64 r1.root, .slice A2 r1.nodes.length c2], .agg #[.int .i64 0, .int .i64 0, .int .i64 1], .int .i64 2] (by kernel_rfl) (fun _ => by kernel_rfl) (fun w' hh => past_At_l F r1 (DKey.mk 0 0 1) 2 r2 hb2 w' A2 c2 (SlOk.mono (SlOk.mono hs2 (View.le_trans (made_le _ _) (View.le_refl _))) hh.view)) ?_)
     intro u V2 hV2 hu
     obtain rfl := (Sure.t2 sureElem sureInt) _ _ _ hu
     refine TA.on (Hp.old (View.le_trans hV1 hV2) (View.le_refl _) (.cons _ (.cons _ (.cons_cons _ (.cons_cons _ List.Sublist.slnil)))) (OldAll.box (OldAll.box OldAll.nil))) ?_
     refine TA.take 6 (.tuple #[.agg #[.int .i64 r2.1.key.pfs, .int .i64 r2.1.key.obj, .int .i64 r2.1.key.off, .int .i64 r2.1.made, .int .i64 r2.1.gone, .string r2.1.val], .int .i64 r2.2]) rfl (by kernel_rfl) (by kernel_rfl) (by kernel_rfl) (fun _ _ _ h => h) (Hp.old (View.le_trans hV1 hV2) (View.le_refl _) (.cons _ (.cons _ (.cons_cons _ (.cons_cons _ List.Sublist.slnil)))) (OldAll.box (OldAll.box OldAll.nil))) (by kernel_rfl) (fun _ _ => by kernel_rfl) ?_
     refine TA.take 7 (.agg #[.int .i64 r2.1.key.pfs, .int .i64 r2.1.key.obj, .int .i64 r2.1.key.off, .int .i64 r2.1.made, .int .i64 r2.1.gone, .string r2.1.val]) rfl (by kernel_rfl) (by kernel_rfl) (by kernel_rfl) (fun _ _ _ h => h) (Hp.old (View.le_trans hV1 hV2) (View.le_refl _) (.cons _ (.cons _ (.cons_cons _ (.cons_cons _ List.Sublist.slnil)))) (OldAll.box (OldAll.box OldAll.nil))) (by kernel_rfl) (fun _ _ => by kernel_rfl) ?_
     refine TA.take 8 (.int .i64 r2.2) rfl (by kernel_rfl) (by kernel_rfl) (by kernel_rfl) (fun _ _ _ h => h) (Hp.old (View.le_trans hV1 hV2) (View.le_refl _) (.cons _ (.cons _ (.cons_cons _ (.cons_cons _ List.Sublist.slnil)))) (OldAll.box (OldAll.box OldAll.nil))) (by kernel_rfl) (fun _ _ => by kernel_rfl) ?_
     refine TA.all [10] (by kernel_rfl) rfl ⟨?_, trivial⟩
     refine TA.br rfl (W1.store 0 [.int .i64 r2.1.key.pfs, .int .i64 r2.1.key.obj, .int .i64 r2.1.key.off, .int .i64 r2.1.made, .int .i64 r2.1.gone, .string r2.1.val] [box b4 39 [.int .i64 r2.1.key.pfs, .int .i64 r2.1.key.obj, .int .i64 r2.1.key.off, .int .i64 r2.1.made, .int .i64 r2.1.gone, .string r2.1.val], box b3 39 [.int .i64 0, .int .i64 0, .int .i64 1, .int .i64 1, .int .i64 3, .string (ByteArray.mk #[])], box b2 39 [.int .i64 0, .int .i64 0, .int .i64 1, .int .i64 1, .int .i64 3, .string (ByteArray.mk #[])], box b1 24 [.int .i64 p0.root, .slice A1 p0.nodes.length c1]] (by rfl) rfl (by kernel_rfl) (fun w' hw => exec_store (vs := [.int .i64 r2.1.key.pfs, .int .i64 r2.1.key.obj, .int .i64 r2.1.key.off, .int .i64 r2.1.made, .int .i64 r2.1.gone, .string r2.1.val]) rfl rfl rfl rfl (by kernel_rfl) (one_of rfl) (by simp) rfl hw) ?_)
     refine TA.on (Hp.old (View.le_trans hV1 hV2) (View.le_refl _) (.cons _ (.cons _ (.cons_cons _ (.cons_cons _ List.Sublist.slnil)))) (OldAll.box (OldAll.box OldAll.nil))) ?_
     refine TA.take 11 (.int .i64 r2.2) rfl (by kernel_rfl) (by kernel_rfl) (by kernel_rfl) (fun _ _ _ h => h) (Hp.old (View.le_trans hV1 hV2) (View.le_refl _) (.cons _ (.cons _ (.cons_cons _ (.cons_cons _ List.Sublist.slnil)))) (OldAll.box (OldAll.box OldAll.nil))) (by kernel_rfl) (fun _ _ => by kernel_rfl) ?_
     refine TA.done (by kernel_rfl) ?_
     exact fun a w' hf hh => Exists.intro b4 (Exists.intro V2 (And.intro (View.le_trans hV1 hV2) (And.intro ((((((Fr.nil hf).pick hf 7 rfl).pick hf 6 rfl).pick hf 5 rfl).pick hf 2 rfl).pick hf 1 rfl) (hh.sub (.cons_cons _ (.cons _ (.cons_cons _ (.cons_cons _ List.Sublist.slnil))))))))
   ·
    refine TA.br rfl (W1.new 39 [.int .i64 0, .int .i64 0, .int .i64 0, .int .i64 0, .int .i64 0, .string (ByteArray.mk #[])] (fun b => .pointer (some ⟨b, 0, none⟩)) (by kernel_rfl) (fun _ => by kernel_rfl) (fun b4 => ?_))
    refine TA.on (Hp.old (View.le_refl _) (View.le_refl _) (.cons _ (.cons _ (.cons_cons _ (.cons_cons _ List.Sublist.slnil)))) (OldAll.box (OldAll.box OldAll.nil))) ?_
    refine TA.all [2] (by kernel_rfl) rfl ⟨?_, trivial⟩
    refine TA.br rfl (W1.call (vAg eTree) r1 16 #[.slice (some ⟨b3, 0, none⟩) 1 1] (by kernel_rfl) (fun _ => by kernel_rfl) (fun w' hh => annalkeep_of_l F [(DElem.mk (DKey.mk 0 0 1) 1 3 (ByteArray.mk #[]))] r1 hb1 w' (some ⟨b3, 0, none⟩) 1 (slok_lit (E := eElem) (f := DElem.cells) [(DElem.mk (DKey.mk 0 0 1) 1 3 (ByteArray.mk #[]))] (fun _ _ => rfl) (Nat.le_of_ble_eq_true (by rfl)) (fun j => hh.cellBox (i := 1) (by rfl) j))) ?_)
    intro u V1 hV1 hu
    obtain ⟨cs1, rfl, hr1⟩ := vagg_elim hu
    obtain ⟨A2, c2, rfl, hs2⟩ := hr1
    refine TA.on (Hp.old hV1 (View.le_refl _) (.cons _ (.cons _ (.cons_cons _ (.cons_cons _ List.Sublist.slnil)))) (OldAll.box (OldAll.box OldAll.nil))) ?_
    refine TA.all [5] (by kernel_rfl) rfl ⟨?_, trivial⟩
    refine TA.br rfl (W1.call (vT2 (vAg eElem) (vSc eInt)) r2 30 #[.agg #[.int .i64 r1.root, .slice A2 r1.nodes.length c2], .agg #[.int .i64 0, .int .i64 0, .int .i64 1], .int .i64 2] (by kernel_rfl) (fun _ => by kernel_rfl) (fun w' hh => past_At_l F r1 (DKey.mk 0 0 1) 2 r2 hb2 w' A2 c2 (SlOk.mono (SlOk.mono hs2 (View.le_trans (made_le _ _) (View.le_refl _))) hh.view)) ?_)
    intro u V2 hV2 hu
    obtain rfl := (Sure.t2 sureElem sureInt) _ _ _ hu
    refine TA.on (Hp.old (View.le_trans hV1 hV2) (View.le_refl _) (.cons _ (.cons _ (.cons_cons _ (.cons_cons _ List.Sublist.slnil)))) (OldAll.box (OldAll.box OldAll.nil))) ?_
    refine TA.take 6 (.tuple #[.agg #[.int .i64 r2.1.key.pfs, .int .i64 r2.1.key.obj, .int .i64 r2.1.key.off, .int .i64 r2.1.made, .int .i64 r2.1.gone, .string r2.1.val], .int .i64 r2.2]) rfl (by kernel_rfl) (by kernel_rfl) (by kernel_rfl) (fun _ _ _ h => h) (Hp.old (View.le_trans hV1 hV2) (View.le_refl _) (.cons _ (.cons _ (.cons_cons _ (.cons_cons _ List.Sublist.slnil)))) (OldAll.box (OldAll.box OldAll.nil))) (by kernel_rfl) (fun _ _ => by kernel_rfl) ?_
    refine TA.take 7 (.agg #[.int .i64 r2.1.key.pfs, .int .i64 r2.1.key.obj, .int .i64 r2.1.key.off, .int .i64 r2.1.made, .int .i64 r2.1.gone, .string r2.1.val]) rfl (by kernel_rfl) (by kernel_rfl) (by kernel_rfl) (fun _ _ _ h => h) (Hp.old (View.le_trans hV1 hV2) (View.le_refl _) (.cons _ (.cons _ (.cons_cons _ (.cons_cons _ List.Sublist.slnil)))) (OldAll.box (OldAll.box OldAll.nil))) (by kernel_rfl) (fun _ _ => by kernel_rfl) ?_
    refine TA.take 8 (.int .i64 r2.2) rfl (by kernel_rfl) (by kernel_rfl) (by kernel_rfl) (fun _ _ _ h => h) (Hp.old (View.le_trans hV1 hV2) (View.le_refl _) (.cons _ (.cons _ (.cons_cons _ (.cons_cons _ List.Sublist.slnil)))) (OldAll.box (OldAll.box OldAll.nil))) (by kernel_rfl) (fun _ _ => by kernel_rfl) ?_
    refine TA.all [10] (by kernel_rfl) rfl ⟨?_, trivial⟩
    refine TA.br rfl (W1.store 0 [.int .i64 r2.1.key.pfs, .int .i64 r2.1.key.obj, .int .i64 r2.1.key.off, .int .i64 r2.1.made, .int .i64 r2.1.gone, .string r2.1.val] [box b4 39 [.int .i64 r2.1.key.pfs, .int .i64 r2.1.key.obj, .int .i64 r2.1.key.off, .int .i64 r2.1.made, .int .i64 r2.1.gone, .string r2.1.val], box b3 39 [.int .i64 0, .int .i64 0, .int .i64 1, .int .i64 1, .int .i64 3, .string (ByteArray.mk #[])], box b2 39 [.int .i64 0, .int .i64 0, .int .i64 1, .int .i64 1, .int .i64 3, .string (ByteArray.mk #[])], box b1 24 [.int .i64 p0.root, .slice A1 p0.nodes.length c1]] (by rfl) rfl (by kernel_rfl) (fun w' hw => exec_store (vs := [.int .i64 r2.1.key.pfs, .int .i64 r2.1.key.obj, .int .i64 r2.1.key.off, .int .i64 r2.1.made, .int .i64 r2.1.gone, .string r2.1.val]) rfl rfl rfl rfl (by kernel_rfl) (one_of rfl) (by simp) rfl hw) ?_)
    refine TA.on (Hp.old (View.le_trans hV1 hV2) (View.le_refl _) (.cons _ (.cons _ (.cons_cons _ (.cons_cons _ List.Sublist.slnil)))) (OldAll.box (OldAll.box OldAll.nil))) ?_
    refine TA.take 11 (.int .i64 r2.2) rfl (by kernel_rfl) (by kernel_rfl) (by kernel_rfl) (fun _ _ _ h => h) (Hp.old (View.le_trans hV1 hV2) (View.le_refl _) (.cons _ (.cons _ (.cons_cons _ (.cons_cons _ List.Sublist.slnil)))) (OldAll.box (OldAll.box OldAll.nil))) (by kernel_rfl) (fun _ _ => by kernel_rfl) ?_
    refine TA.done (by kernel_rfl) ?_
    exact fun a w' hf hh => Exists.intro b4 (Exists.intro V2 (And.intro (View.le_trans hV1 hV2) (And.intro ((((((Fr.nil hf).pick hf 7 rfl).pick hf 6 rfl).pick hf 5 rfl).pick hf 2 rfl).pick hf 1 rfl) (hh.sub (.cons_cons _ (.cons _ (.cons_cons _ (.cons_cons _ List.Sublist.slnil))))))))
  ·
   refine TA.br rfl (W1.new 39 [.int .i64 0, .int .i64 0, .int .i64 0, .int .i64 0, .int .i64 0, .string (ByteArray.mk #[])] (fun b => .pointer (some ⟨b, 0, none⟩)) (by kernel_rfl) (fun _ => by kernel_rfl) (fun b4 => ?_))
   refine TA.on (Hp.old (View.le_refl _) (View.le_refl _) (.cons _ (.cons_cons _ (.cons_cons _ List.Sublist.slnil))) (OldAll.box (OldAll.box OldAll.nil))) ?_
   refine TA.all [1] (by kernel_rfl) rfl ⟨?_, trivial⟩
   refine TA.br rfl (W1.new 39 [.int .i64 0, .int .i64 0, .int .i64 1, .int .i64 1, .int .i64 3, .string (ByteArray.mk #[])] (fun b => .slice (some ⟨b, 0, none⟩) 1 1) (by kernel_rfl) (fun _ => by kernel_rfl) (fun b3 => ?_))
   refine TA.on (Hp.old (View.le_refl _) (View.le_refl _) (.cons _ (.cons _ (.cons_cons _ (.cons_cons _ List.Sublist.slnil)))) (OldAll.box (OldAll.box OldAll.nil))) ?_
   refine TA.all [2] (by kernel_rfl) rfl ⟨?_, trivial⟩
   refine TA.br rfl (W1.call (vAg eTree) r1 16 #[.slice (some ⟨b3, 0, none⟩) 1 1] (by kernel_rfl) (fun _ => by kernel_rfl) (fun w' hh => annalkeep_of_l F [(DElem.mk (DKey.mk 0 0 1) 1 3 (ByteArray.mk #[]))] r1 hb1 w' (some ⟨b3, 0, none⟩) 1 (slok_lit (E := eElem) (f := DElem.cells) [(DElem.mk (DKey.mk 0 0 1) 1 3 (ByteArray.mk #[]))] (fun _ _ => rfl) (Nat.le_of_ble_eq_true (by rfl)) (fun j => hh.cellBox (i := 0) (by rfl) j))) ?_)
   intro u V1 hV1 hu
   obtain ⟨cs1, rfl, hr1⟩ := vagg_elim hu
   obtain ⟨A2, c2, rfl, hs2⟩ := hr1
   refine TA.on (Hp.old hV1 (View.le_refl _) (.cons _ (.cons _ (.cons_cons _ (.cons_cons _ List.Sublist.slnil)))) (OldAll.box (OldAll.box OldAll.nil))) ?_
   refine TA.all [5] (by kernel_rfl) rfl ⟨?_, trivial⟩
   refine TA.br rfl (W1.call (vT2 (vAg eElem) (vSc eInt)) r2 30 #[.agg #[.int .i64 r1.root, .slice A2 r1.nodes.length c2], .agg #[.int .i64 0, .int .i64 0, .int .i64 1], .int .i64 2] (by kernel_rfl) (fun _ => by kernel_rfl) (fun w' hh => past_At_l F r1 (DKey.mk 0 0 1) 2 r2 hb2 w' A2 c2 (SlOk.mono (SlOk.mono hs2 (View.le_trans (made_le _ _) (View.le_refl _))) hh.view)) ?_)
   intro u V2 hV2 hu
   obtain rfl := (Sure.t2 sureElem sureInt) _ _ _ hu
   refine TA.on (Hp.old (View.le_trans hV1 hV2) (View.le_refl _) (.cons _ (.cons _ (.cons_cons _ (.cons_cons _ List.Sublist.slnil)))) (OldAll.box (OldAll.box OldAll.nil))) ?_
   refine TA.take 6 (.tuple #[.agg #[.int .i64 r2.1.key.pfs, .int .i64 r2.1.key.obj, .int .i64 r2.1.key.off, .int .i64 r2.1.made, .int .i64 r2.1.gone, .string r2.1.val], .int .i64 r2.2]) rfl (by kernel_rfl) (by kernel_rfl) (by kernel_rfl) (fun _ _ _ h => h) (Hp.old (View.le_trans hV1 hV2) (View.le_refl _) (.cons _ (.cons _ (.cons_cons _ (.cons_cons _ List.Sublist.slnil)))) (OldAll.box (OldAll.box OldAll.nil))) (by kernel_rfl) (fun _ _ => by kernel_rfl) ?_
   refine TA.take 7 (.agg #[.int .i64 r2.1.key.pfs, .int .i64 r2.1.key.obj, .int .i64 r2.1.key.off, .int .i64 r2.1.made, .int .i64 r2.1.gone, .string r2.1.val]) rfl (by kernel_rfl) (by kernel_rfl) (by kernel_rfl) (fun _ _ _ h => h) (Hp.old (View.le_trans hV1 hV2) (View.le_refl _) (.cons _ (.cons _ (.cons_cons _ (.cons_cons _ List.Sublist.slnil)))) (OldAll.box (OldAll.box OldAll.nil))) (by kernel_rfl) (fun _ _ => by kernel_rfl) ?_
   refine TA.take 8 (.int .i64 r2.2) rfl (by kernel_rfl) (by kernel_rfl) (by kernel_rfl) (fun _ _ _ h => h) (Hp.old (View.le_trans hV1 hV2) (View.le_refl _) (.cons _ (.cons _ (.cons_cons _ (.cons_cons _ List.Sublist.slnil)))) (OldAll.box (OldAll.box OldAll.nil))) (by kernel_rfl) (fun _ _ => by kernel_rfl) ?_
   refine TA.all [10] (by kernel_rfl) rfl ⟨?_, trivial⟩
   refine TA.br rfl (W1.store 1 [.int .i64 r2.1.key.pfs, .int .i64 r2.1.key.obj, .int .i64 r2.1.key.off, .int .i64 r2.1.made, .int .i64 r2.1.gone, .string r2.1.val] [box b3 39 [.int .i64 0, .int .i64 0, .int .i64 1, .int .i64 1, .int .i64 3, .string (ByteArray.mk #[])], box b4 39 [.int .i64 r2.1.key.pfs, .int .i64 r2.1.key.obj, .int .i64 r2.1.key.off, .int .i64 r2.1.made, .int .i64 r2.1.gone, .string r2.1.val], box b2 39 [.int .i64 0, .int .i64 0, .int .i64 1, .int .i64 1, .int .i64 3, .string (ByteArray.mk #[])], box b1 24 [.int .i64 p0.root, .slice A1 p0.nodes.length c1]] (by rfl) rfl (by kernel_rfl) (fun w' hw => exec_store (vs := [.int .i64 r2.1.key.pfs, .int .i64 r2.1.key.obj, .int .i64 r2.1.key.off, .int .i64 r2.1.made, .int .i64 r2.1.gone, .string r2.1.val]) rfl rfl rfl rfl (by kernel_rfl) (one_of rfl) (by simp) rfl hw) ?_)
   refine TA.on (Hp.old (View.le_trans hV1 hV2) (View.le_refl _) (.cons _ (.cons _ (.cons_cons _ (.cons_cons _ List.Sublist.slnil)))) (OldAll.box (OldAll.box OldAll.nil))) ?_
   refine TA.take 11 (.int .i64 r2.2) rfl (by kernel_rfl) (by kernel_rfl) (by kernel_rfl) (fun _ _ _ h => h) (Hp.old (View.le_trans hV1 hV2) (View.le_refl _) (.cons _ (.cons _ (.cons_cons _ (.cons_cons _ List.Sublist.slnil)))) (OldAll.box (OldAll.box OldAll.nil))) (by kernel_rfl) (fun _ _ => by kernel_rfl) ?_
   refine TA.done (by kernel_rfl) ?_
   exact fun a w' hf hh => Exists.intro b4 (Exists.intro V2 (And.intro (View.le_trans hV1 hV2) (And.intro ((((((Fr.nil hf).pick hf 7 rfl).pick hf 6 rfl).pick hf 5 rfl).pick hf 2 rfl).pick hf 1 rfl) (hh.sub (.cons _ (.cons_cons _ (.cons_cons _ (.cons_cons _ List.Sublist.slnil))))))))
 ·
  rintro a w' ⟨b4, V3, hV3, hf, hh⟩
  refine (?_ : T 95 w V3 [box b4 39 [.int .i64 r2.1.key.pfs, .int .i64 r2.1.key.obj, .int .i64 r2.1.key.off, .int .i64 r2.1.made, .int .i64 r2.1.gone, .string r2.1.val], box b2 39 [.int .i64 0, .int .i64 0, .int .i64 1, .int .i64 1, .int .i64 3, .string (ByteArray.mk #[])], box b1 24 [.int .i64 p0.root, .slice A1 p0.nodes.length c1]] [(1, .int .i64 p1), (2, .pointer (some ⟨b1, 0, none⟩)), (5, .pointer (some ⟨b2, 0, none⟩)), (6, .pointer (some ⟨b4, 0, none⟩)), (7, .int .i64 r2.2)] _) a w' hf hh
  clear hf hh
  refine T.cut (fun a w' => Fr 95 [(1, .int .i64 p1), (2, .pointer (some ⟨b1, 0, none⟩)), (31, .bool ((r2.2 != 0) || (!(r2.1 == (DElem.mk (DKey.mk 0 0 1) 1 3 (ByteArray.mk #[]))))))] a ∧ Hp w V3 [box b1 24 [.int .i64 p0.root, .slice A1 p0.nodes.length c1]] w') ?_ ?_
  ·
   refine T.region ?_
   refine T.pure (.int .i64 r2.2) (by kernel_rfl) (fun _ => by kernel_rfl) ?_
   refine T.pure (.bool (r2.2 != 0)) (by kernel_rfl) (fun _ => by kernel_rfl) ?_
   refine T.pure (.bool (r2.2 != 0)) (by kernel_rfl) (fun _ => by kernel_rfl) ?_
   cases hg1 : (r2.2 != 0)
   ·
    skip
    refine T.look (.agg #[.int .i64 r2.1.key.pfs, .int .i64 r2.1.key.obj, .int .i64 r2.1.key.off, .int .i64 r2.1.made, .int .i64 r2.1.gone, .string r2.1.val]) (by kernel_rfl) (fun w' hh => exec_loadN (cs := [.int .i64 r2.1.key.pfs, .int .i64 r2.1.key.obj, .int .i64 r2.1.key.off, .int .i64 r2.1.made, .int .i64 r2.1.gone, .string r2.1.val]) rfl rfl (by kernel_rfl) (by kernel_rfl) (fun j u hj => (hh.box_at (i := 0) (cs := [.int .i64 r2.1.key.pfs, .int .i64 r2.1.key.obj, .int .i64 r2.1.key.off, .int .i64 r2.1.made, .int .i64 r2.1.gone, .string r2.1.val]) (by rfl) 0 j).trans (seg_at (n := 6) (by rfl) hj))) ?_
    refine T.look (.agg #[.int .i64 0, .int .i64 0, .int .i64 1, .int .i64 1, .int .i64 3, .string (ByteArray.mk #[])]) (by kernel_rfl) (fun w' hh => exec_loadN (cs := [.int .i64 0, .int .i64 0, .int .i64 1, .int .i64 1, .int .i64 3, .string (ByteArray.mk #[])]) rfl rfl (by kernel_rfl) (by kernel_rfl) (fun j u hj => (hh.box_at (i := 1) (cs := [.int .i64 0, .int .i64 0, .int .i64 1, .int .i64 1, .int .i64 3, .string (ByteArray.mk #[])]) (by rfl) 0 j).trans (seg_at (n := 6) (by rfl) hj))) ?_
    refine T.look (.bool (!(r2.1 == (DElem.mk (DKey.mk 0 0 1) 1 3 (ByteArray.mk #[]))))) (by kernel_rfl) (fun w' hh => exec_neq_DElem r2.1 (DElem.mk (DKey.mk 0 0 1) 1 3 (ByteArray.mk #[])) w' rfl rfl rfl) ?_
    refine T.pure (.bool (!(r2.1 == (DElem.mk (DKey.mk 0 0 1) 1 3 (ByteArray.mk #[]))))) (by kernel_rfl) (fun _ => by kernel_rfl) ?_
    refine T.nil ?_
    exact fun a w' hf hh => And.intro ((((Fr.nil hf).pick hf 31 rfl).pick hf 2 rfl).pick hf 1 rfl) (hh.sub (.cons _ (.cons _ (.cons_cons _ List.Sublist.slnil))))
   ·
    skip
    refine T.pass (by kernel_rfl) (by kernel_rfl) ?_
    refine T.pass (by kernel_rfl) (by kernel_rfl) ?_
    refine T.pass (by kernel_rfl) (by kernel_rfl) ?_
    refine T.pure (.bool true) (by kernel_rfl) (fun _ => by kernel_rfl) ?_
    refine T.nil ?_
    exact fun a w' hf hh => And.intro ((((Fr.nil hf).pick hf 31 rfl).pick hf 2 rfl).pick hf 1 rfl) (hh.sub (.cons _ (.cons _ (.cons_cons _ List.Sublist.slnil))))
  ·
   rintro a w' ⟨hf, hh⟩
   refine (?_ : T 95 w V3 [box b1 24 [.int .i64 p0.root, .slice A1 p0.nodes.length c1]] [(1, .int .i64 p1), (2, .pointer (some ⟨b1, 0, none⟩)), (31, .bool ((r2.2 != 0) || (!(r2.1 == (DElem.mk (DKey.mk 0 0 1) 1 3 (ByteArray.mk #[]))))))] _) a w' hf hh
   clear hf hh
   refine T.cond ((r2.2 != 0) || (!(r2.1 == (DElem.mk (DKey.mk 0 0 1) 1 3 (ByteArray.mk #[]))))) (by kernel_rfl) (by kernel_rfl) (fun hc1 => ?_) (fun hc1 => ?_)
   ·
    rw [hc1, cond_true] at hF
    refine T.seq ?_
    refine T.region ?_
    refine T.pure (.bool false) (by kernel_rfl) (fun _ => by kernel_rfl) ?_
    refine T.nil ?_
    cases hF
    refine T.ret rfl ?_
    exact T.ret1 rfl (ResIs.tmp rfl) fun w' hh => ⟨_, rfl, hh.below, (show _ from rfl)⟩
   ·
    rw [hc1, cond_false] at hF
    refine T.skip_code ?_
    refine T.seq ?_
    refine T.region ?_
    refine T.look (.agg #[.int .i64 p0.root, .slice A1 p0.nodes.length c1]) (by kernel_rfl) (fun w' hh => exec_loadN (cs := [.int .i64 p0.root, .slice A1 p0.nodes.length c1]) rfl rfl (by kernel_rfl) (by kernel_rfl) (fun j u hj => (hh.box_at (i := 0) (cs := [.int .i64 p0.root, .slice A1 p0.nodes.length c1]) (by rfl) 0 j).trans (seg_at (n := 2) (by rfl) hj))) ?_
    obtain ⟨r3, hb3, hF⟩ := Option.bind_eq_some_iff.1 hF
    refine T.step (W1.call (vT2 (vSc (eList eElem)) (vSc eInt)) r3 13 #[.agg #[.int .i64 p0.root, .slice A1 p0.nodes.length c1]] (by kernel_rfl) (fun _ => by kernel_rfl) (fun w' hh => tree_All_l F p0 r3 hb3 w' A1 c1 (SlOk.mono (SlOk.mono hs1 hV3) hh.view)) ?_)
    intro u V4 hV4 hu
    obtain ⟨u1, u2, rfl, hu1, hu2⟩ := vT2_elim hu
    obtain ⟨A3, c3, rfl, hs3⟩ := vlist_elim hu1
    obtain rfl := sureInt _ _ _ hu2
    refine T.pure (.tuple #[.slice A3 r3.1.length c3, .int .i64 r3.2]) (by kernel_rfl) (fun _ => by kernel_rfl) ?_
    refine T.pure (.slice A3 r3.1.length c3) (by kernel_rfl) (fun _ => by kernel_rfl) ?_
    refine T.pure (.int .i64 r3.2) (by kernel_rfl) (fun _ => by kernel_rfl) ?_
    refine T.pure (.slice A3 r3.1.length c3) (by kernel_rfl) (fun _ => by kernel_rfl) ?_
    refine T.pure (.int .i64 r3.2) (by kernel_rfl) (fun _ => by kernel_rfl) ?_
    refine T.nil ?_
    refine T.seq ?_
    obtain ⟨z1, hX1, hF⟩ := Option.bind_eq_some_iff.1 hF
    refine T.cut (fun a w' => ∃ (V5 : View), View.le V4 V5 ∧ Fr 95 [(1, .int .i64 p1), (2, .pointer (some ⟨b1, 0, none⟩)), (8, .slice A3 r3.1.length c3), (48, .bool z1)] a ∧ Hp w V5 [box b1 24 [.int .i64 p0.root, .slice A1 p0.nodes.length c1]] w') ?_ ?_
    ·
     refine T.region ?_
     refine T.pure (.int .i64 r3.2) (by kernel_rfl) (fun _ => by kernel_rfl) ?_
     refine T.pure (.bool (r3.2 != 0)) (by kernel_rfl) (fun _ => by kernel_rfl) ?_
     refine T.pure (.bool (r3.2 != 0)) (by kernel_rfl) (fun _ => by kernel_rfl) ?_
     cases hg2 : (r3.2 != 0)
     ·
      skip
      rw [hg2, cond_false] at hX1
      refine T.look (.agg #[.int .i64 p0.root, .slice A1 p0.nodes.length c1]) (by kernel_rfl) (fun w' hh => exec_loadN (cs := [.int .i64 p0.root, .slice A1 p0.nodes.length c1]) rfl rfl (by kernel_rfl) (by kernel_rfl) (fun j u hj => (hh.box_at (i := 0) (cs := [.int .i64 p0.root, .slice A1 p0.nodes.length c1]) (by rfl) 0 j).trans (seg_at (n := 2) (by rfl) hj))) ?_
      obtain ⟨r4, hb4, hX1⟩ := Option.bind_eq_some_iff.1 hX1
      refine T.step (W1.call (vSc eInt) r4 31 #[.agg #[.int .i64 p0.root, .slice A1 p0.nodes.length c1]] (by kernel_rfl) (fun _ => by kernel_rfl) (fun w' hh => past_Check_l F p0 r4 hb4 w' A1 c1 (SlOk.mono (SlOk.mono hs1 (View.le_trans hV3 hV4)) hh.view)) ?_)
      intro u V6 hV6 hu
      obtain rfl := sureInt _ _ _ hu
      refine T.pure (.bool (r4 != 0)) (by kernel_rfl) (fun _ => by kernel_rfl) ?_
      refine T.pure (.bool (r4 != 0)) (by kernel_rfl) (fun _ => by kernel_rfl) ?_
      refine T.pure (.bool (r4 != 0)) (by kernel_rfl) (fun _ => by kernel_rfl) ?_
      cases hg3 : (r4 != 0)
      ·
       skip
       rw [hg3, cond_false] at hX1
       refine T.pure (.slice A3 r3.1.length c3) (by kernel_rfl) (fun _ => by kernel_rfl) ?_
       refine T.pure (.int .i64 (r3.1.length : Int)) (by kernel_rfl) (fun _ => by kernel_rfl) ?_
       refine T.pure (.bool ((r3.1.length : Int) == 0)) (by kernel_rfl) (fun _ => by kernel_rfl) ?_
       refine T.pure (.bool ((r3.1.length : Int) == 0)) (by kernel_rfl) (fun _ => by kernel_rfl) ?_
       refine T.nil ?_
       cases hX1
       exact fun a w' hf hh => Exists.intro V6 (And.intro hV6 (And.intro (((((Fr.nil hf).pick hf 48 rfl).pick hf 8 rfl).pick hf 2 rfl).pick hf 1 rfl) (hh.sub (.cons_cons _ List.Sublist.slnil))))
      ·
       skip
       rw [hg3, cond_true] at hX1
       refine T.pass (by kernel_rfl) (by kernel_rfl) ?_
       refine T.pass (by kernel_rfl) (by kernel_rfl) ?_
       refine T.pass (by kernel_rfl) (by kernel_rfl) ?_
       refine T.pure (.bool true) (by kernel_rfl) (fun _ => by kernel_rfl) ?_
       refine T.nil ?_
       cases hX1
       exact fun a w' hf hh => Exists.intro V6 (And.intro hV6 (And.intro (((((Fr.nil hf).pick hf 48 rfl).pick hf 8 rfl).pick hf 2 rfl).pick hf 1 rfl) (hh.sub (.cons_cons _ List.Sublist.slnil))))
     ·
      skip
      rw [hg2, cond_true] at hX1
      refine T.pass (by kernel_rfl) (by kernel_rfl) ?_
      refine T.pass (by kernel_rfl) (by kernel_rfl) ?_
      refine T.pass (by kernel_rfl) (by kernel_rfl) ?_
      refine T.pure (.bool true) (by kernel_rfl) (fun _ => by kernel_rfl) ?_
      refine T.pure (.bool true) (by kernel_rfl) (fun _ => by kernel_rfl) ?_
      refine T.pass (by kernel_rfl) (by kernel_rfl) ?_
      refine T.pass (by kernel_rfl) (by kernel_rfl) ?_
      refine T.pass (by kernel_rfl) (by kernel_rfl) ?_
      refine T.pure (.bool true) (by kernel_rfl) (fun _ => by kernel_rfl) ?_
      refine T.nil ?_
      cases hX1
      exact fun a w' hf hh => Exists.intro V4 (And.intro (View.le_refl _) (And.intro (((((Fr.nil hf).pick hf 48 rfl).pick hf 8 rfl).pick hf 2 rfl).pick hf 1 rfl) (hh.sub (.cons_cons _ List.Sublist.slnil))))
    ·
     rintro a w' ⟨V5, hV5, hf, hh⟩
     refine (?_ : T 95 w V5 [box b1 24 [.int .i64 p0.root, .slice A1 p0.nodes.length c1]] [(1, .int .i64 p1), (2, .pointer (some ⟨b1, 0, none⟩)), (8, .slice A3 r3.1.length c3), (48, .bool z1)] _) a w' hf hh
     clear hf hh
     refine T.cond z1 (by kernel_rfl) (by kernel_rfl) (fun hc2 => ?_) (fun hc2 => ?_)
     ·
      rw [hc2, cond_true] at hF
      refine T.seq ?_
      refine T.region ?_
      refine T.pure (.bool true) (by kernel_rfl) (fun _ => by kernel_rfl) ?_
      refine T.nil ?_
      cases hF
      refine T.ret rfl ?_
      exact T.ret1 rfl (ResIs.tmp rfl) fun w' hh => ⟨_, rfl, hh.below, (show _ from rfl)⟩
     ·
      rw [hc2, cond_false] at hF
      refine T.skip_code ?_
      refine T.seq ?_
      refine T.region ?_
      refine T.pure (.slice A3 r3.1.length c3) (by kernel_rfl) (fun _ => by kernel_rfl) ?_
      refine T.pure (.int .i64 p1) (by kernel_rfl) (fun _ => by kernel_rfl) ?_
      refine T.pure (.slice A3 r3.1.length c3) (by kernel_rfl) (fun _ => by kernel_rfl) ?_
      refine T.pure (.int .i64 (r3.1.length : Int)) (by kernel_rfl) (fun _ => by kernel_rfl) ?_
      obtain ⟨r5, hb5, hF⟩ := Option.bind_eq_some_iff.1 hF
      refine T.step (W1.call (vSc eInt) r5 29 #[.int .i64 p1, .int .i64 (r3.1.length : Int)] (by kernel_rfl) (fun _ => by kernel_rfl) (fun w' hh => annalkeep_Within_l p1 (r3.1.length : Int) r5 hb5 w' ) ?_)
      intro u V7 hV7 hu
      obtain rfl := sureInt _ _ _ hu
      obtain ⟨e1, hb6, hF⟩ := Option.bind_eq_some_iff.1 hF
      obtain ⟨hi1, hi2, hi3⟩ := idx_some hb6
      refine T.look (.pointer (some ((sadr A3).add (r5.toNat * 6)))) (by kernel_rfl) (fun w' hh => exec_indexAddr (e := 39) (s := 6) rfl rfl rfl (by kernel_rfl) (by kernel_rfl) hi1 hi2 ((SlOk.mono hs3 (View.le_trans (made_le _ _) (View.le_trans hV5 hV7))).some_ hi3 (by decide))) ?_
      refine T.look (.agg #[.int .i64 e1.key.pfs, .int .i64 e1.key.obj, .int .i64 e1.key.off, .int .i64 e1.made, .int .i64 e1.gone, .string e1.val]) (by kernel_rfl) (fun w' hh => exec_loadN (cs := [.int .i64 e1.key.pfs, .int .i64 e1.key.obj, .int .i64 e1.key.off, .int .i64 e1.made, .int .i64 e1.gone, .string e1.val]) rfl rfl (by kernel_rfl) (by kernel_rfl) (fun j u hj => (hh.cell_view (SlOk.cellF (E := eElem) (SlOk.mono hs3 (View.le_trans (made_le _ _) (View.le_trans hV5 hV7))) hi3 j (fun _ _ _ h => h) hj)))) ?_
      refine T.step (W1.new 39 [.int .i64 0, .int .i64 0, .int .i64 0, .int .i64 0, .int .i64 0, .string (ByteArray.mk #[])] (fun b => .pointer (some ⟨b, 0, none⟩)) (by kernel_rfl) (fun _ => by kernel_rfl) (fun b5 => ?_))
      refine T.step (W1.store 0 [.int .i64 e1.key.pfs, .int .i64 e1.key.obj, .int .i64 e1.key.off, .int .i64 e1.made, .int .i64 e1.gone, .string e1.val] [box b5 39 [.int .i64 e1.key.pfs, .int .i64 e1.key.obj, .int .i64 e1.key.off, .int .i64 e1.made, .int .i64 e1.gone, .string e1.val], box b1 24 [.int .i64 p0.root, .slice A1 p0.nodes.length c1]] (by rfl) rfl (by kernel_rfl) (fun w' hw => exec_store (vs := [.int .i64 e1.key.pfs, .int .i64 e1.key.obj, .int .i64 e1.key.off, .int .i64 e1.made, .int .i64 e1.gone, .string e1.val]) rfl rfl rfl rfl (by kernel_rfl) (one_of rfl) (by simp) rfl hw) ?_)
      refine T.nil ?_
      refine T.seq ?_
      refine T.region ?_
      refine T.look (.agg #[.int .i64 p0.root, .slice A1 p0.nodes.length c1]) (by kernel_rfl) (fun w' hh => exec_loadN (cs := [.int .i64 p0.root, .slice A1 p0.nodes.length c1]) rfl rfl (by kernel_rfl) (by kernel_rfl) (fun j u hj => (hh.box_at (i := 1) (cs := [.int .i64 p0.root, .slice A1 p0.nodes.length c1]) (by rfl) 0 j).trans (seg_at (n := 2) (by rfl) hj))) ?_
      refine T.pure (.pointer (some ⟨b5, 0, none⟩)) (by kernel_rfl) (fun _ => by kernel_rfl) ?_
      refine T.look (.agg #[.int .i64 e1.key.pfs, .int .i64 e1.key.obj, .int .i64 e1.key.off]) (by kernel_rfl) (fun w' hh => exec_loadN (cs := [.int .i64 e1.key.pfs, .int .i64 e1.key.obj, .int .i64 e1.key.off]) rfl rfl (by kernel_rfl) (by kernel_rfl) (fun j u hj => (hh.box_at (i := 0) (cs := [.int .i64 e1.key.pfs, .int .i64 e1.key.obj, .int .i64 e1.key.off, .int .i64 e1.made, .int .i64 e1.gone, .string e1.val]) (by rfl) 0 j).trans (seg_at (n := 3) (by rfl) hj))) ?_
      refine T.pure (.pointer (some ⟨b5, 3, none⟩)) (by kernel_rfl) (fun _ => by kernel_rfl) ?_
      refine T.look (.int .i64 e1.made) (by kernel_rfl) (fun w' hh => exec_load1 rfl rfl (by kernel_rfl) (hh.cellBox (i := 0) (by rfl) 3)) ?_
      obtain ⟨r6, hb7, hF⟩ := Option.bind_eq_some_iff.1 hF
      refine T.step (W1.call (vT2 (vAg eElem) (vSc eInt)) r6 30 #[.agg #[.int .i64 p0.root, .slice A1 p0.nodes.length c1], .agg #[.int .i64 e1.key.pfs, .int .i64 e1.key.obj, .int .i64 e1.key.off], .int .i64 e1.made] (by kernel_rfl) (fun _ => by kernel_rfl) (fun w' hh => past_At_l F p0 e1.key e1.made r6 hb7 w' A1 c1 (SlOk.mono (SlOk.mono hs1 (View.le_trans (View.le_trans (View.le_trans hV3 hV4) hV5) hV7)) hh.view)) ?_)
      intro u V8 hV8 hu
      obtain rfl := (Sure.t2 sureElem sureInt) _ _ _ hu
      refine T.pure (.tuple #[.agg #[.int .i64 r6.1.key.pfs, .int .i64 r6.1.key.obj, .int .i64 r6.1.key.off, .int .i64 r6.1.made, .int .i64 r6.1.gone, .string r6.1.val], .int .i64 r6.2]) (by kernel_rfl) (fun _ => by kernel_rfl) ?_
      refine T.pure (.agg #[.int .i64 r6.1.key.pfs, .int .i64 r6.1.key.obj, .int .i64 r6.1.key.off, .int .i64 r6.1.made, .int .i64 r6.1.gone, .string r6.1.val]) (by kernel_rfl) (fun _ => by kernel_rfl) ?_
      refine T.pure (.int .i64 r6.2) (by kernel_rfl) (fun _ => by kernel_rfl) ?_
      refine T.step (W1.new 39 [.int .i64 0, .int .i64 0, .int .i64 0, .int .i64 0, .int .i64 0, .string (ByteArray.mk #[])] (fun b => .pointer (some ⟨b, 0, none⟩)) (by kernel_rfl) (fun _ => by kernel_rfl) (fun b6 => ?_))
      refine T.step (W1.store 0 [.int .i64 r6.1.key.pfs, .int .i64 r6.1.key.obj, .int .i64 r6.1.key.off, .int .i64 r6.1.made, .int .i64 r6.1.gone, .string r6.1.val] [box b6 39 [.int .i64 r6.1.key.pfs, .int .i64 r6.1.key.obj, .int .i64 r6.1.key.off, .int .i64 r6.1.made, .int .i64 r6.1.gone, .string r6.1.val], box b5 39 [.int .i64 e1.key.pfs, .int .i64 e1.key.obj, .int .i64 e1.key.off, .int .i64 e1.made, .int .i64 e1.gone, .string e1.val], box b1 24 [.int .i64 p0.root, .slice A1 p0.nodes.length c1]] (by rfl) rfl (by kernel_rfl) (fun w' hw => exec_store (vs := [.int .i64 r6.1.key.pfs, .int .i64 r6.1.key.obj, .int .i64 r6.1.key.off, .int .i64 r6.1.made, .int .i64 r6.1.gone, .string r6.1.val]) rfl rfl rfl rfl (by kernel_rfl) (one_of rfl) (by simp) rfl hw) ?_)
      refine T.pure (.int .i64 r6.2) (by kernel_rfl) (fun _ => by kernel_rfl) ?_
      refine T.nil ?_
      refine T.seq ?_
      refine T.region ?_
      refine T.look (.agg #[.int .i64 p0.root, .slice A1 p0.nodes.length c1]) (by kernel_rfl) (fun w' hh => exec_loadN (cs := [.int .i64 p0.root, .slice A1 p0.nodes.length c1]) rfl rfl (by kernel_rfl) (by kernel_rfl) (fun j u hj => (hh.box_at (i := 2) (cs := [.int .i64 p0.root, .slice A1 p0.nodes.length c1]) (by rfl) 0 j).trans (seg_at (n := 2) (by rfl) hj))) ?_
      refine T.pure (.pointer (some ⟨b5, 0, none⟩)) (by kernel_rfl) (fun _ => by kernel_rfl) ?_
      refine T.look (.agg #[.int .i64 e1.key.pfs, .int .i64 e1.key.obj, .int .i64 e1.key.off]) (by kernel_rfl) (fun w' hh => exec_loadN (cs := [.int .i64 e1.key.pfs, .int .i64 e1.key.obj, .int .i64 e1.key.off]) rfl rfl (by kernel_rfl) (by kernel_rfl) (fun j u hj => (hh.box_at (i := 1) (cs := [.int .i64 e1.key.pfs, .int .i64 e1.key.obj, .int .i64 e1.key.off, .int .i64 e1.made, .int .i64 e1.gone, .string e1.val]) (by rfl) 0 j).trans (seg_at (n := 3) (by rfl) hj))) ?_
      refine T.pure (.pointer (some ⟨b5, 4, none⟩)) (by kernel_rfl) (fun _ => by kernel_rfl) ?_
      refine T.look (.int .i64 e1.gone) (by kernel_rfl) (fun w' hh => exec_load1 rfl rfl (by kernel_rfl) (hh.cellBox (i := 1) (by rfl) 4)) ?_
      obtain ⟨r7, hb8, hF⟩ := Option.bind_eq_some_iff.1 hF
      refine T.step (W1.call (vT2 (vAg eElem) (vSc eInt)) r7 30 #[.agg #[.int .i64 p0.root, .slice A1 p0.nodes.length c1], .agg #[.int .i64 e1.key.pfs, .int .i64 e1.key.obj, .int .i64 e1.key.off], .int .i64 e1.gone] (by kernel_rfl) (fun _ => by kernel_rfl) (fun w' hh => past_At_l F p0 e1.key e1.gone r7 hb8 w' A1 c1 (SlOk.mono (SlOk.mono hs1 (View.le_trans (View.le_trans (View.le_trans (View.le_trans hV3 hV4) hV5) hV7) hV8)) hh.view)) ?_)
      intro u V9 hV9 hu
      obtain rfl := (Sure.t2 sureElem sureInt) _ _ _ hu
      refine T.pure (.tuple #[.agg #[.int .i64 r7.1.key.pfs, .int .i64 r7.1.key.obj, .int .i64 r7.1.key.off, .int .i64 r7.1.made, .int .i64 r7.1.gone, .string r7.1.val], .int .i64 r7.2]) (by kernel_rfl) (fun _ => by kernel_rfl) ?_
      refine T.pure (.agg #[.int .i64 r7.1.key.pfs, .int .i64 r7.1.key.obj, .int .i64 r7.1.key.off, .int .i64 r7.1.made, .int .i64 r7.1.gone, .string r7.1.val]) (by kernel_rfl) (fun _ => by kernel_rfl) ?_
      refine T.pure (.int .i64 r7.2) (by kernel_rfl) (fun _ => by kernel_rfl) ?_
      refine T.step (W1.new 39 [.int .i64 0, .int .i64 0, .int .i64 0, .int .i64 0, .int .i64 0, .string (ByteArray.mk #[])] (fun b => .pointer (some ⟨b, 0, none⟩)) (by kernel_rfl) (fun _ => by kernel_rfl) (fun b7 => ?_))
      refine T.step (W1.store 0 [.int .i64 r7.1.key.pfs, .int .i64 r7.1.key.obj, .int .i64 r7.1.key.off, .int .i64 r7.1.made, .int .i64 r7.1.gone, .string r7.1.val] [box b7 39 [.int .i64 r7.1.key.pfs, .int .i64 r7.1.key.obj, .int .i64 r7.1.key.off, .int .i64 r7.1.made, .int .i64 r7.1.gone, .string r7.1.val], box b6 39 [.int .i64 r6.1.key.pfs, .int .i64 r6.1.key.obj, .int .i64 r6.1.key.off, .int .i64 r6.1.made, .int .i64 r6.1.gone, .string r6.1.val], box b5 39 [.int .i64 e1.key.pfs, .int .i64 e1.key.obj, .int .i64 e1.key.off, .int .i64 e1.made, .int .i64 e1.gone, .string e1.val], box b1 24 [.int .i64 p0.root, .slice A1 p0.nodes.length c1]] (by rfl) rfl (by kernel_rfl) (fun w' hw => exec_store (vs := [.int .i64 r7.1.key.pfs, .int .i64 r7.1.key.obj, .int .i64 r7.1.key.off, .int .i64 r7.1.made, .int .i64 r7.1.gone, .string r7.1.val]) rfl rfl rfl rfl (by kernel_rfl) (one_of rfl) (by simp) rfl hw) ?_)
      refine T.pure (.int .i64 r7.2) (by kernel_rfl) (fun _ => by kernel_rfl) ?_
      refine T.nil ?_
      refine T.cut (fun a w' => Fr 95 [(4, .bool ((r6.2 == 0) && ((r6.1 == e1) && ((e1.gone == 0) || ((r7.2 != 0) || (!(r7.1 == e1)))))))] a ∧ Hp w V9 [] w') ?_ ?_
      ·
       refine T.region ?_
       refine T.pure (.int .i64 r6.2) (by kernel_rfl) (fun _ => by kernel_rfl) ?_
       refine T.pure (.bool (r6.2 == 0)) (by kernel_rfl) (fun _ => by kernel_rfl) ?_
       refine T.pure (.bool (r6.2 == 0)) (by kernel_rfl) (fun _ => by kernel_rfl) ?_
       cases hg4 : (r6.2 == 0)
       ·
        skip
        refine T.pass (by kernel_rfl) (by kernel_rfl) ?_
        refine T.pass (by kernel_rfl) (by kernel_rfl) ?_
        refine T.pass (by kernel_rfl) (by kernel_rfl) ?_
        refine T.pure (.bool false) (by kernel_rfl) (fun _ => by kernel_rfl) ?_
        refine T.pure (.bool false) (by kernel_rfl) (fun _ => by kernel_rfl) ?_
        refine T.pass (by kernel_rfl) (by kernel_rfl) ?_
        refine T.pass (by kernel_rfl) (by kernel_rfl) ?_
        refine T.pass (by kernel_rfl) (by kernel_rfl) ?_
        refine T.pass (by kernel_rfl) (by kernel_rfl) ?_
        refine T.pass (by kernel_rfl) (by kernel_rfl) ?_
        refine T.pass (by kernel_rfl) (by kernel_rfl) ?_
        refine T.pass (by kernel_rfl) (by kernel_rfl) ?_
        refine T.pass (by kernel_rfl) (by kernel_rfl) ?_
        refine T.pass (by kernel_rfl) (by kernel_rfl) ?_
        refine T.pass (by kernel_rfl) (by kernel_rfl) ?_
        refine T.pass (by kernel_rfl) (by kernel_rfl) ?_
        refine T.pass (by kernel_rfl) (by kernel_rfl) ?_
        refine T.pure (.bool false) (by kernel_rfl) (fun _ => by kernel_rfl) ?_
        refine T.pure (.bool false) (by kernel_rfl) (fun _ => by kernel_rfl) ?_
        refine T.nil ?_
        exact fun a w' hf hh => And.intro ((Fr.nil hf).pick hf 4 rfl) (hh.sub (.cons _ (.cons _ (.cons _ (.cons _ List.Sublist.slnil)))))
       ·
        skip
        refine T.look (.agg #[.int .i64 r6.1.key.pfs, .int .i64 r6.1.key.obj, .int .i64 r6.1.key.off, .int .i64 r6.1.made, .int .i64 r6.1.gone, .string r6.1.val]) (by kernel_rfl) (fun w' hh => exec_loadN (cs := [.int .i64 r6.1.key.pfs, .int .i64 r6.1.key.obj, .int .i64 r6.1.key.off, .int .i64 r6.1.made, .int .i64 r6.1.gone, .string r6.1.val]) rfl rfl (by kernel_rfl) (by kernel_rfl) (fun j u hj => (hh.box_at (i := 1) (cs := [.int .i64 r6.1.key.pfs, .int .i64 r6.1.key.obj, .int .i64 r6.1.key.off, .int .i64 r6.1.made, .int .i64 r6.1.gone, .string r6.1.val]) (by rfl) 0 j).trans (seg_at (n := 6) (by rfl) hj))) ?_
        refine T.look (.agg #[.int .i64 e1.key.pfs, .int .i64 e1.key.obj, .int .i64 e1.key.off, .int .i64 e1.made, .int .i64 e1.gone, .string e1.val]) (by kernel_rfl) (fun w' hh => exec_loadN (cs := [.int .i64 e1.key.pfs, .int .i64 e1.key.obj, .int .i64 e1.key.off, .int .i64 e1.made, .int .i64 e1.gone, .string e1.val]) rfl rfl (by kernel_rfl) (by kernel_rfl) (fun j u hj => (hh.box_at (i := 2) (cs := [.int .i64 e1.key.pfs, .int .i64 e1.key.obj, .int .i64 e1.key.off, .int .i64 e1.made, .int .i64 e1.gone, .string e1.val]) (by rfl) 0 j).trans (seg_at (n := 6) (by rfl) hj))) ?_
        refine T.look (.bool (r6.1 == e1)) (by kernel_rfl) (fun w' hh => exec_eql_DElem r6.1 e1 w' rfl rfl rfl) ?_
        refine T.pure (.bool (r6.1 == e1)) (by kernel_rfl) (fun _ => by kernel_rfl) ?_
        refine T.pure (.bool (r6.1 == e1)) (by kernel_rfl) (fun _ => by kernel_rfl) ?_
        cases hg5 : (r6.1 == e1)
        ·
         skip
         refine T.pass (by kernel_rfl) (by kernel_rfl) ?_
         refine T.pass (by kernel_rfl) (by kernel_rfl) ?_
         refine T.pass (by kernel_rfl) (by kernel_rfl) ?_
         refine T.pass (by kernel_rfl) (by kernel_rfl) ?_
         refine T.pass (by kernel_rfl) (by kernel_rfl) ?_
         refine T.pass (by kernel_rfl) (by kernel_rfl) ?_
         refine T.pass (by kernel_rfl) (by kernel_rfl) ?_
         refine T.pass (by kernel_rfl) (by kernel_rfl) ?_
         refine T.pass (by kernel_rfl) (by kernel_rfl) ?_
         refine T.pass (by kernel_rfl) (by kernel_rfl) ?_
         refine T.pass (by kernel_rfl) (by kernel_rfl) ?_
         refine T.pass (by kernel_rfl) (by kernel_rfl) ?_
         refine T.pure (.bool false) (by kernel_rfl) (fun _ => by kernel_rfl) ?_
         refine T.pure (.bool false) (by kernel_rfl) (fun _ => by kernel_rfl) ?_
         refine T.nil ?_
         exact fun a w' hf hh => And.intro ((Fr.nil hf).pick hf 4 rfl) (hh.sub (.cons _ (.cons _ (.cons _ (.cons _ List.Sublist.slnil)))))
        ·
         skip
         refine T.pure (.pointer (some ⟨b5, 4, none⟩)) (by kernel_rfl) (fun _ => by kernel_rfl) ?_
         refine T.look (.int .i64 e1.gone) (by kernel_rfl) (fun w' hh => exec_load1 rfl rfl (by kernel_rfl) (hh.cellBox (i := 2) (by rfl) 4)) ?_
         refine T.pure (.bool (e1.gone == 0)) (by kernel_rfl) (fun _ => by kernel_rfl) ?_
         refine T.pure (.bool (e1.gone == 0)) (by kernel_rfl) (fun _ => by kernel_rfl) ?_
         cases hg6 : (e1.gone == 0)
         ·
          skip
          refine T.pure (.int .i64 r7.2) (by kernel_rfl) (fun _ => by kernel_rfl) ?_
          refine T.pure (.bool (r7.2 != 0)) (by kernel_rfl) (fun _ => by kernel_rfl) ?_
          refine T.pure (.bool (r7.2 != 0)) (by kernel_rfl) (fun _ => by kernel_rfl) ?_
          refine T.pure (.bool (r7.2 != 0)) (by kernel_rfl) (fun _ => by kernel_rfl) ?_
          cases hg7 : (r7.2 != 0)
          ·
           skip
           refine T.look (.agg #[.int .i64 r7.1.key.pfs, .int .i64 r7.1.key.obj, .int .i64 r7.1.key.off, .int .i64 r7.1.made, .int .i64 r7.1.gone, .string r7.1.val]) (by kernel_rfl) (fun w' hh => exec_loadN (cs := [.int .i64 r7.1.key.pfs, .int .i64 r7.1.key.obj, .int .i64 r7.1.key.off, .int .i64 r7.1.made, .int .i64 r7.1.gone, .string r7.1.val]) rfl rfl (by kernel_rfl) (by kernel_rfl) (fun j u hj => (hh.box_at (i := 0) (cs := [.int .i64 r7.1.key.pfs, .int .i64 r7.1.key.obj, .int .i64 r7.1.key.off, .int .i64 r7.1.made, .int .i64 r7.1.gone, .string r7.1.val]) (by rfl) 0 j).trans (seg_at (n := 6) (by rfl) hj))) ?_
           refine T.look (.agg #[.int .i64 e1.key.pfs, .int .i64 e1.key.obj, .int .i64 e1.key.off, .int .i64 e1.made, .int .i64 e1.gone, .string e1.val]) (by kernel_rfl) (fun w' hh => exec_loadN (cs := [.int .i64 e1.key.pfs, .int .i64 e1.key.obj, .int .i64 e1.key.off, .int .i64 e1.made, .int .i64 e1.gone, .string e1.val]) rfl rfl (by kernel_rfl) (by kernel_rfl) (fun j u hj => (hh.box_at (i := 2) (cs := [.int .i64 e1.key.pfs, .int .i64 e1.key.obj, .int .i64 e1.key.off, .int .i64 e1.made, .int .i64 e1.gone, .string e1.val]) (by rfl) 0 j).trans (seg_at (n := 6) (by rfl) hj))) ?_
           refine T.look (.bool (!(r7.1 == e1))) (by kernel_rfl) (fun w' hh => exec_neq_DElem r7.1 e1 w' rfl rfl rfl) ?_
           refine T.pure (.bool (!(r7.1 == e1))) (by kernel_rfl) (fun _ => by kernel_rfl) ?_
           refine T.pure (.bool (!(r7.1 == e1))) (by kernel_rfl) (fun _ => by kernel_rfl) ?_
           refine T.pure (.bool (!(r7.1 == e1))) (by kernel_rfl) (fun _ => by kernel_rfl) ?_
           refine T.nil ?_
           exact fun a w' hf hh => And.intro ((Fr.nil hf).pick hf 4 rfl) (hh.sub (.cons _ (.cons _ (.cons _ (.cons _ List.Sublist.slnil)))))
          ·
           skip
           refine T.pass (by kernel_rfl) (by kernel_rfl) ?_
           refine T.pass (by kernel_rfl) (by kernel_rfl) ?_
           refine T.pass (by kernel_rfl) (by kernel_rfl) ?_
           refine T.pure (.bool true) (by kernel_rfl) (fun _ => by kernel_rfl) ?_
           refine T.pure (.bool true) (by kernel_rfl) (fun _ => by kernel_rfl) ?_
           refine T.pure (.bool true) (by kernel_rfl) (fun _ => by kernel_rfl) ?_
           refine T.nil ?_
           exact fun a w' hf hh => And.intro ((Fr.nil hf).pick hf 4 rfl) (hh.sub (.cons _ (.cons _ (.cons _ (.cons _ List.Sublist.slnil)))))
         ·
          skip
          refine T.pass (by kernel_rfl) (by kernel_rfl) ?_
          refine T.pass (by kernel_rfl) (by kernel_rfl) ?_
          refine T.pure (.bool true) (by kernel_rfl) (fun _ => by kernel_rfl) ?_
          refine T.pure (.bool true) (by kernel_rfl) (fun _ => by kernel_rfl) ?_
          refine T.pass (by kernel_rfl) (by kernel_rfl) ?_
          refine T.pass (by kernel_rfl) (by kernel_rfl) ?_
          refine T.pass (by kernel_rfl) (by kernel_rfl) ?_
          refine T.pure (.bool true) (by kernel_rfl) (fun _ => by kernel_rfl) ?_
          refine T.pure (.bool true) (by kernel_rfl) (fun _ => by kernel_rfl) ?_
          refine T.pure (.bool true) (by kernel_rfl) (fun _ => by kernel_rfl) ?_
          refine T.nil ?_
          exact fun a w' hf hh => And.intro ((Fr.nil hf).pick hf 4 rfl) (hh.sub (.cons _ (.cons _ (.cons _ (.cons _ List.Sublist.slnil)))))
      ·
       rintro a w' ⟨hf, hh⟩
       refine (?_ : T 95 w V9 [] [(4, .bool ((r6.2 == 0) && ((r6.1 == e1) && ((e1.gone == 0) || ((r7.2 != 0) || (!(r7.1 == e1)))))))] _) a w' hf hh
       clear hf hh
       cases hF
       refine T.ret rfl ?_
       exact T.ret1 rfl (ResIs.tmp rfl) fun w' hh => ⟨_, rfl, hh.below, (show _ from rfl)⟩

end Go.Proofs.Ytoaopihihccfkaa
