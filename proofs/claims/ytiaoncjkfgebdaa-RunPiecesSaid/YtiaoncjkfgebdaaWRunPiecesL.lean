/- The Go functions of group WRunPieces compute the pure functions of that group: written by walkgen.py. Condition of each: the pure function yields a result. -/
import Derived.Test.YtiaoncjkfgebdaaRunL
import Derived.Test.YtiaoncjkfgebdaaEqsL
import Derived.Test.YtiaoncjkfgebdaaClear
import Derived.Test.YtiaoncjkfgebdaaWRunPiecesF
import Derived.Test.YtiaoncjkfgebdaaEqL
namespace Go.Proofs.Ytiaoncjkfgebdaa
set_option linter.unusedVariables false

set_option maxRecDepth 100000 in
set_option maxHeartbeats 4000000 in
theorem annalkeep_RunPieces_l (F : Nat) (p0 : (List DElem)) (p1 : Int) (p2 : Int) (p3 : DKey) (r : Bool) (hF : annalkeep_RunPieces F p0 p1 p2 p3 = some r) (w : World) (A1 : Option Addr) (c1 : Nat) (hs1 : SlOk (vw w) eElem A1 c1 p0) :
    Calls Try.prog 4 #[.slice A1 p0.length c1, .int .i64 p1, .int .i64 p2, .agg #[.int .i64 p3.pfs, .int .i64 p3.obj, .int .i64 p3.off]] w (Post (vSc eBool) r w) := by
  unfold annalkeep_RunPieces at hF
  refine T.start (l := [.slice A1 p0.length c1, .int .i64 p1, .int .i64 p2, .agg #[.int .i64 p3.pfs, .int .i64 p3.obj, .int .i64 p3.off]]) Try.func4 rfl rfl rfl ?_
  refine T.seq ?_
  refine T.region ?_
  refine T.step (W1.new 24 [.int .i64 p3.pfs, .int .i64 p3.obj, .int .i64 p3.off] (fun b => .pointer (some ⟨b, 0, none⟩)) (by kernel_rfl) (fun _ => by kernel_rfl) (fun b1 => ?_))
  refine T.pure (.bool false) (by kernel_rfl) (fun _ => by kernel_rfl) ?_
  refine T.nil ?_
  refine T.seq ?_
  obtain ⟨z1, hX1, hF⟩ := Option.bind_eq_some_iff.1 hF
  refine T.cut (fun a w' => ∃ (V1 : View), View.le (vw w) V1 ∧ Fr 73 [(0, .slice A1 p0.length c1), (1, .int .i64 p1), (2, .int .i64 p2), (7, .pointer (some ⟨b1, 0, none⟩)), (22, .bool z1)] a ∧ Hp w V1 [box b1 24 [.int .i64 p3.pfs, .int .i64 p3.obj, .int .i64 p3.off]] w') ?_ ?_
  ·
    refine T.region ?_
    obtain ⟨r1, hb1, hX1⟩ := Option.bind_eq_some_iff.1 hX1
    refine T.step (W1.call (vAg eElem) r1 31 #[.int .i64 1, .string (ByteArray.mk #[97])] (by kernel_rfl) (fun _ => by kernel_rfl) (fun w' hh => annalkeep_at1_l 1 (ByteArray.mk #[97]) r1 hb1 w' ) ?_)
    intro u V2 hV2 hu
    obtain rfl := sureElem _ _ _ hu
    obtain ⟨r2, hb2, hX1⟩ := Option.bind_eq_some_iff.1 hX1
    refine T.step (W1.call (vAg eElem) r2 31 #[.int .i64 1, .string (ByteArray.mk #[98])] (by kernel_rfl) (fun _ => by kernel_rfl) (fun w' hh => annalkeep_at1_l 1 (ByteArray.mk #[98]) r2 hb2 w' ) ?_)
    intro u V3 hV3 hu
    obtain rfl := sureElem _ _ _ hu
    refine T.step (W1.new 26 [.int .i64 r1.key.pfs, .int .i64 r1.key.obj, .int .i64 r1.key.off, .int .i64 r1.made, .int .i64 r1.gone, .string r1.val, .int .i64 r2.key.pfs, .int .i64 r2.key.obj, .int .i64 r2.key.off, .int .i64 r2.made, .int .i64 r2.gone, .string r2.val] (fun b => .slice (some ⟨b, 0, none⟩) 2 2) (by kernel_rfl) (fun _ => by kernel_rfl) (fun b2 => ?_))
    obtain ⟨r3, hb3, hX1⟩ := Option.bind_eq_some_iff.1 hX1
    refine T.step (W1.call (vSc eInt) r3 30 #[.slice (some ⟨b2, 0, none⟩) 2 2] (by kernel_rfl) (fun _ => by kernel_rfl) (fun w' hh => run_Check_l F [r1, r2] r3 hb3 w' (some ⟨b2, 0, none⟩) 2 (slok_lit (E := eElem) (f := DElem.cells) [r1, r2] (fun _ _ => rfl) (Nat.le_of_ble_eq_true (by rfl)) (fun j => hh.cellBox (i := 0) (by rfl) j))) ?_)
    intro u V4 hV4 hu
    obtain rfl := sureInt _ _ _ hu
    refine T.pure (.bool (r3 != 3)) (by kernel_rfl) (fun _ => by kernel_rfl) ?_
    refine T.pure (.bool (r3 != 3)) (by kernel_rfl) (fun _ => by kernel_rfl) ?_
    cases hg1 : (r3 != 3)
    ·
      skip
      rw [hg1, cond_false] at hX1
      obtain ⟨r4, hb4, hX1⟩ := Option.bind_eq_some_iff.1 hX1
      refine T.step (W1.call (vSc eInt) r4 30 #[.slice none 0 0] (by kernel_rfl) (fun _ => by kernel_rfl) (fun w' hh => run_Check_l F ([] : List DElem) r4 hb4 w' none 0 (SlOk.nil _ _)) ?_)
      intro u V5 hV5 hu
      obtain rfl := sureInt _ _ _ hu
      refine T.pure (.bool (r4 != 0)) (by kernel_rfl) (fun _ => by kernel_rfl) ?_
      refine T.pure (.bool (r4 != 0)) (by kernel_rfl) (fun _ => by kernel_rfl) ?_
      refine T.nil ?_
      cases hX1
      exact fun a w' hf hh => Exists.intro V5 (And.intro (View.le_trans (View.le_trans (View.le_trans hV2 hV3) hV4) hV5) (And.intro ((((((Fr.nil hf).pick hf 22 rfl).pick hf 7 rfl).pick hf 2 rfl).pick hf 1 rfl).pick hf 0 rfl) (hh.sub (.cons _ (.cons_cons _ List.Sublist.slnil)))))
    ·
      skip
      rw [hg1, cond_true] at hX1
      refine T.pass (by kernel_rfl) (by kernel_rfl) ?_
      refine T.pass (by kernel_rfl) (by kernel_rfl) ?_
      refine T.pure (.bool true) (by kernel_rfl) (fun _ => by kernel_rfl) ?_
      refine T.nil ?_
      cases hX1
      exact fun a w' hf hh => Exists.intro V4 (And.intro (View.le_trans (View.le_trans hV2 hV3) hV4) (And.intro ((((((Fr.nil hf).pick hf 22 rfl).pick hf 7 rfl).pick hf 2 rfl).pick hf 1 rfl).pick hf 0 rfl) (hh.sub (.cons _ (.cons_cons _ List.Sublist.slnil)))))
  ·
    rintro a w' ⟨V1, hV1, hf, hh⟩
    refine (?_ : T 73 w V1 [box b1 24 [.int .i64 p3.pfs, .int .i64 p3.obj, .int .i64 p3.off]] [(0, .slice A1 p0.length c1), (1, .int .i64 p1), (2, .int .i64 p2), (7, .pointer (some ⟨b1, 0, none⟩)), (22, .bool z1)] _) a w' hf hh
    clear hf hh
    refine T.cond z1 (by kernel_rfl) (by kernel_rfl) (fun hc1 => ?_) (fun hc1 => ?_)
    ·
      rw [hc1, cond_true] at hF
      refine T.seq ?_
      refine T.region ?_
      refine T.pure (.bool false) (by kernel_rfl) (fun _ => by kernel_rfl) ?_
      refine T.nil ?_
      cases hF
      refine T.ret rfl ?_
      exact T.ret1 rfl (ResIs.tmp rfl) fun w' hh => ⟨_, rfl, hh.below, (show _ from rfl)⟩
    ·
      rw [hc1, cond_false] at hF
      refine T.skip_code ?_
      refine T.seq ?_
      refine T.seq ?_
      refine T.region ?_
      refine T.pure (.slice A1 p0.length c1) (by kernel_rfl) (fun _ => by kernel_rfl) ?_
      obtain ⟨r5, hb5, hF⟩ := Option.bind_eq_some_iff.1 hF
      refine T.step (W1.call (vSc eInt) r5 30 #[.slice A1 p0.length c1] (by kernel_rfl) (fun _ => by kernel_rfl) (fun w' hh => run_Check_l F p0 r5 hb5 w' A1 c1 (SlOk.mono (SlOk.mono hs1 hV1) hh.view)) ?_)
      intro u V6 hV6 hu
      obtain rfl := sureInt _ _ _ hu
      refine T.pure (.bool (r5 != 0)) (by kernel_rfl) (fun _ => by kernel_rfl) ?_
      refine T.nil ?_
      refine T.cond (r5 != 0) (by kernel_rfl) (by kernel_rfl) (fun hc2 => ?_) (fun hc2 => ?_)
      ·
        rw [hc2, cond_true] at hF
        refine T.seq ?_
        refine T.region ?_
        refine T.pure (.bool true) (by kernel_rfl) (fun _ => by kernel_rfl) ?_
        refine T.nil ?_
        cases hF
        refine T.ret rfl ?_
        exact T.ret1 rfl (ResIs.tmp rfl) fun w' hh => ⟨_, rfl, hh.below, (show _ from rfl)⟩
      ·
        rw [hc2, cond_false] at hF
        refine T.skip_code ?_
        refine T.seq ?_
        refine T.region ?_
        refine T.pure (.int .i64 p1) (by kernel_rfl) (fun _ => by kernel_rfl) ?_
        refine T.pure (.slice A1 p0.length c1) (by kernel_rfl) (fun _ => by kernel_rfl) ?_
        refine T.pure (.int .i64 (p0.length : Int)) (by kernel_rfl) (fun _ => by kernel_rfl) ?_
        refine T.pure (.int .i64 (IntKind.i64.wrap ((p0.length : Int) + 1))) (by kernel_rfl) (fun _ => by kernel_rfl) ?_
        obtain ⟨r6, hb6, hF⟩ := Option.bind_eq_some_iff.1 hF
        refine T.step (W1.call (vSc eInt) r6 32 #[.int .i64 p1, .int .i64 (IntKind.i64.wrap ((p0.length : Int) + 1))] (by kernel_rfl) (fun _ => by kernel_rfl) (fun w' hh => annalkeep_Within_l p1 (IntKind.i64.wrap ((p0.length : Int) + 1)) r6 hb6 w' ) ?_)
        intro u V7 hV7 hu
        obtain rfl := sureInt _ _ _ hu
        refine T.pure (.int .i64 p2) (by kernel_rfl) (fun _ => by kernel_rfl) ?_
        refine T.pure (.slice A1 p0.length c1) (by kernel_rfl) (fun _ => by kernel_rfl) ?_
        refine T.pure (.int .i64 (p0.length : Int)) (by kernel_rfl) (fun _ => by kernel_rfl) ?_
        refine T.pure (.int .i64 (IntKind.i64.wrap ((p0.length : Int) + 1))) (by kernel_rfl) (fun _ => by kernel_rfl) ?_
        obtain ⟨r7, hb7, hF⟩ := Option.bind_eq_some_iff.1 hF
        refine T.step (W1.call (vSc eInt) r7 32 #[.int .i64 p2, .int .i64 (IntKind.i64.wrap ((p0.length : Int) + 1))] (by kernel_rfl) (fun _ => by kernel_rfl) (fun w' hh => annalkeep_Within_l p2 (IntKind.i64.wrap ((p0.length : Int) + 1)) r7 hb7 w' ) ?_)
        intro u V8 hV8 hu
        obtain rfl := sureInt _ _ _ hu
        refine T.pure (.int .i64 r6) (by kernel_rfl) (fun _ => by kernel_rfl) ?_
        refine T.pure (.int .i64 r7) (by kernel_rfl) (fun _ => by kernel_rfl) ?_
        refine T.nil ?_
        refine T.seq ?_
        refine T.region ?_
        refine T.pure (.slice A1 p0.length c1) (by kernel_rfl) (fun _ => by kernel_rfl) ?_
        obtain ⟨z2, hX2, hF⟩ := Option.bind_eq_some_iff.1 hF
        refine T.step (W1.within 34 [.slice A1 p0.length c1] (fun v w' => ∃ (A2 : Option Addr) (c2 : Nat), v = .slice A2 z2.length c2 ∧ Hp w V8 [row 26 eElem A2 c2 z2, box b1 24 [.int .i64 p3.pfs, .int .i64 p3.obj, .int .i64 p3.off]] w') Try.func34 rfl rfl (by kernel_rfl) (fun _ => by kernel_rfl) rfl ?_ ?_)
        ·
          rcases A1 with _ | a1
          ·
            have hn1 : p0 = [] := by
              cases hc : p0 with
              | nil => rfl
              | cons q _ => exact absurd (SlOk.some_ (SlOk.mono hs1 (View.le_trans (View.le_trans (View.le_trans hV1 hV6) hV7) hV8)) (k := 0) (x := q) (by rw [hc]; rfl) (by decide)) (by decide)
            obtain ⟨_, _, hq1⟩ := Option.bind_eq_some_iff.1 hX2
            rw [hn1] at hq1
            refine T.seq ?_
            refine T.region ?_
            refine T.pure (.slice none 0 0) (by kernel_rfl) (fun _ => by kernel_rfl) ?_
            refine T.nil ?_
            refine T.seq ?_
            refine T.seq ?_
            refine T.region ?_
            refine T.pure (.slice none p0.length c1) (by kernel_rfl) (fun _ => by kernel_rfl) ?_
            refine T.pure (.bool true) (by kernel_rfl) (fun _ => by kernel_rfl) ?_
            refine T.nil ?_
            refine T.cond true (by kernel_rfl) (by kernel_rfl) (fun _ => ?_) (fun h => Bool.noConfusion h)
            refine T.seq ?_
            refine T.region ?_
            refine T.pure (.slice none 0 0) (by kernel_rfl) (fun _ => by kernel_rfl) ?_
            refine T.nil ?_
            refine T.rownil 26 eElem ?_
            cases hq1
            refine T.ret rfl ?_
            repeat first | refine T.unthen ?_ | refine T.unblock ?_
            exact T.ret1 rfl (ResIs.tmp rfl) fun w' hh => ⟨_, rfl, Exists.intro none (Exists.intro 0 (And.intro rfl (hh.sub (.cons_cons _ (.cons_cons _ List.Sublist.slnil)))))⟩
          ·
            refine T.seq ?_
            refine T.region ?_
            refine T.pure (.slice none 0 0) (by kernel_rfl) (fun _ => by kernel_rfl) ?_
            refine T.nil ?_
            refine T.seq ?_
            refine T.seq ?_
            refine T.region ?_
            refine T.pure (.slice (some a1) p0.length c1) (by kernel_rfl) (fun _ => by kernel_rfl) ?_
            refine T.pure (.bool false) (by kernel_rfl) (fun _ => by kernel_rfl) ?_
            refine T.nil ?_
            refine T.cond false (by kernel_rfl) (by kernel_rfl) (fun h => Bool.noConfusion h) (fun _ => ?_)
            refine T.skip_code ?_
            refine T.seq ?_
            refine T.region ?_
            refine T.step (W1.new 26 [] (fun b => .slice (some ⟨b, 0, none⟩) 0 0) (by kernel_rfl) (fun _ => by kernel_rfl) (fun b3 => ?_))
            refine T.pure (.slice (some a1) p0.length c1) (by kernel_rfl) (fun _ => by kernel_rfl) ?_
            refine (fun (h : T _ _ _ ((row 26 eElem (some ⟨b3, 0, none⟩) 0 ([] : List DElem)) :: _) _ _) => (fun a w' hf hh => h a w' hf (hh.fresh_obj (row 26 eElem (some ⟨b3, 0, none⟩) 0 ([] : List DElem)) ⟨rfl, rfl, rfl, Nat.le_refl _, fun _ _ _ => rfl⟩ ⟨Nat.le_refl _, by decide, .inl rfl⟩ (fun b hb => by cases hb)) : T _ _ _ _ _ _)) ?_
            obtain ⟨y1, hb8, hX2⟩ := Option.bind_eq_some_iff.1 hX2
            obtain ⟨hb8_r, hb8_m, rfl⟩ := grow_some hb8
            obtain ⟨ti, hti, hz1, hz2, hz3⟩ := info_parts (P := Try.prog) (e := 26) (z := .agg #[.int .i64 0, .int .i64 0, .int .i64 0, .int .i64 0, .int .i64 0, .string (ByteArray.mk #[])]) (size := 6) (bytes := 56) (by kernel_rfl)
            refine T.step (W1.append (E := eElem) (l := ([] : List DElem)) (m := p0) 0 _ _ 56 ti _ (by rfl) (by kernel_rfl) rfl (by kernel_rfl) hti hz1 hz2 hz3 rfl (by decide) rfl rfl (fun w' hh => (SlOk.srcF (SlOk.mono (SlOk.mono hs1 (View.le_trans (View.le_trans (View.le_trans hV1 hV6) hV7) hV8)) hh.view) (fun _ _ _ _ h => h))) hb8_r hb8_m (fun A3 c3 => ?_))
            refine T.pure (.slice A3 ((([] : List DElem) ++ p0).length) c3) (by kernel_rfl) (fun _ => by kernel_rfl) ?_
            refine T.nil ?_
            cases hX2
            refine T.ret rfl ?_
            repeat first | refine T.unthen ?_ | refine T.unblock ?_
            exact T.ret1 rfl (ResIs.tmp rfl) fun w' hh => ⟨_, rfl, Exists.intro A3 (Exists.intro c3 (And.intro rfl (hh.sub (.cons_cons _ (.cons _ (.cons_cons _ List.Sublist.slnil))))))⟩
        ·
          rintro v w' ⟨A2, c2, rfl, hh⟩
          refine ⟨V8, [row 26 eElem A2 c2 z2, box b1 24 [.int .i64 p3.pfs, .int .i64 p3.obj, .int .i64 p3.off]], hh, ?_⟩
          clear hh
          refine T.pure (.func (.func 35) #[] #[.pointer (some ⟨b1, 0, none⟩)]) (by kernel_rfl) (fun _ => by kernel_rfl) ?_
          obtain ⟨z3, hX3, hF⟩ := Option.bind_eq_some_iff.1 hF
          refine T.step (W1.within 33 [.slice A2 z2.length c2, .func (.func 35) #[] #[.pointer (some ⟨b1, 0, none⟩)]] (fun v w' => ∃ (A4 : Option Addr) (c4 : Nat), v = .slice A4 z3.length c4 ∧ Hp w V8 [row 26 eElem A4 c4 z3, box b1 24 [.int .i64 p3.pfs, .int .i64 p3.obj, .int .i64 p3.off]] w') Try.func33 rfl rfl (by kernel_rfl) (fun _ => by kernel_rfl) rfl ?_ ?_)
          ·
            refine T.seq ?_
            refine T.region ?_
            refine T.pure (.slice none 0 0) (by kernel_rfl) (fun _ => by kernel_rfl) ?_
            refine T.nil ?_
            refine T.seq ?_
            refine T.region ?_
            refine T.pure (.slice A2 z2.length c2) (by kernel_rfl) (fun _ => by kernel_rfl) ?_
            refine T.pure (.func (.func 35) #[] #[.pointer (some ⟨b1, 0, none⟩)]) (by kernel_rfl) (fun _ => by kernel_rfl) ?_
            obtain ⟨z4, hX4, hX3⟩ := Option.bind_eq_some_iff.1 hX3
            refine T.step (W1.within 75 [.slice A2 z2.length c2, .func (.func 35) #[] #[.pointer (some ⟨b1, 0, none⟩)]] (fun v w' => v = .int .i64 z4 ∧ Hp w V8 [row 26 eElem A2 c2 z2, box b1 24 [.int .i64 p3.pfs, .int .i64 p3.obj, .int .i64 p3.off]] w') Try.func75 rfl rfl (by kernel_rfl) (fun _ => by kernel_rfl) rfl ?_ ?_)
            ·
              refine T.seq ?_
              refine T.region ?_
              refine T.pure (.int .i64 0) (by kernel_rfl) (fun _ => by kernel_rfl) ?_
              refine T.nil ?_
              refine T.seq ?_
              refine T.seq ?_
              refine T.region ?_
              refine T.pure (.slice A2 z2.length c2) (by kernel_rfl) (fun _ => by kernel_rfl) ?_
              refine T.pure (.int .i64 (z2.length : Int)) (by kernel_rfl) (fun _ => by kernel_rfl) ?_
              refine T.pure (.int .i64 0) (by kernel_rfl) (fun _ => by kernel_rfl) ?_
              refine T.nil ?_
              obtain ⟨q1, hz1, hX4⟩ := Option.bind_eq_some_iff.1 hX4
              refine T.mid (fun a w' => q1 = Sum.inl () ∧ Fr 19 [] a ∧ Hp w V8 [row 26 eElem A2 c2 z2, box b1 24 [.int .i64 p3.pfs, .int .i64 p3.obj, .int .i64 p3.off]] w') ?_ ?_
              ·
                refine T.block ?_
                refine T.iter (fun x1 a w' => Fr 19 [(0, .slice A2 z2.length c2), (1, .func (.func 35) #[] #[.pointer (some ⟨b1, 0, none⟩)]), (7, .int .i64 (z2.length : Int)), (8, .int .i64 x1)] a ∧ Hp w V8 [row 26 eElem A2 c2 z2, box b1 24 [.int .i64 p3.pfs, .int .i64 p3.obj, .int .i64 p3.off]] w') hz1 ?_ ?_
                ·
                  exact fun a w' hf hh => And.intro (((((Fr.nil hf).pick hf 8 rfl).pick hf 7 rfl).pick hf 1 rfl).pick hf 0 rfl) (hh.sub (.cons_cons _ (.cons_cons _ List.Sublist.slnil)))
                ·
                  rintro x1 y2 hY1 hr1 a w' ⟨hf, hh⟩
                  refine (?_ : T 19 w V8 [row 26 eElem A2 c2 z2, box b1 24 [.int .i64 p3.pfs, .int .i64 p3.obj, .int .i64 p3.off]] [(0, .slice A2 z2.length c2), (1, .func (.func 35) #[] #[.pointer (some ⟨b1, 0, none⟩)]), (7, .int .i64 (z2.length : Int)), (8, .int .i64 x1)] _) a w' hf hh
                  clear hf hh
                  try dsimp only at hY1
                  refine T.seq ?_
                  refine T.region ?_
                  refine T.pure (.bool (decide (x1 < (z2.length : Int)))) (by kernel_rfl) (fun _ => by kernel_rfl) ?_
                  refine T.nil ?_
                  refine T.seq ?_
                  refine T.cond (decide (x1 < (z2.length : Int))) (by kernel_rfl) (by kernel_rfl) (fun hc3 => ?_) (fun hc3 => ?_)
                  ·
                    rw [hc3, cond_true] at hY1
                    refine T.skip_code ?_
                    refine T.seq ?_
                    refine T.block ?_
                    refine T.seq ?_
                    refine T.region ?_
                    refine T.pure (.int .i64 x1) (by kernel_rfl) (fun _ => by kernel_rfl) ?_
                    refine T.pure (.int .i64 x1) (by kernel_rfl) (fun _ => by kernel_rfl) ?_
                    refine T.nil ?_
                    refine T.seq ?_
                    refine T.region ?_
                    refine T.pure (.func (.func 35) #[] #[.pointer (some ⟨b1, 0, none⟩)]) (by kernel_rfl) (fun _ => by kernel_rfl) ?_
                    refine T.pure (.slice A2 z2.length c2) (by kernel_rfl) (fun _ => by kernel_rfl) ?_
                    refine T.pure (.int .i64 x1) (by kernel_rfl) (fun _ => by kernel_rfl) ?_
                    obtain ⟨e1, hb9, hY1⟩ := Option.bind_eq_some_iff.1 hY1
                    obtain ⟨hi1, hi2, hi3⟩ := idx_some hb9
                    refine T.look (.pointer (some ((sadr A2).add (x1.toNat * 6)))) (by kernel_rfl) (fun w' hh => exec_indexAddr (e := 26) (s := 6) rfl rfl rfl (by kernel_rfl) (by kernel_rfl) hi1 hi2 ((hh.row_slOk (i := 0) (by rfl)).some_ hi3 (by decide))) ?_
                    refine T.look (.agg #[.int .i64 e1.key.pfs, .int .i64 e1.key.obj, .int .i64 e1.key.off, .int .i64 e1.made, .int .i64 e1.gone, .string e1.val]) (by kernel_rfl) (fun w' hh => exec_loadN (cs := [.int .i64 e1.key.pfs, .int .i64 e1.key.obj, .int .i64 e1.key.off, .int .i64 e1.made, .int .i64 e1.gone, .string e1.val]) rfl rfl (by kernel_rfl) (by kernel_rfl) (fun j u hj => (SlOk.wcellF (E := eElem) (hh.row_slOk (i := 0) (by rfl)) hi3 j (fun _ _ _ h => h) hj))) ?_
                    refine T.step (W1.within 35 [.agg #[.int .i64 e1.key.pfs, .int .i64 e1.key.obj, .int .i64 e1.key.off, .int .i64 e1.made, .int .i64 e1.gone, .string e1.val], .pointer (some ⟨b1, 0, none⟩)] (fun v w' => v = .bool (e1.key == p3) ∧ Hp w V8 [row 26 eElem A2 c2 z2, box b1 24 [.int .i64 p3.pfs, .int .i64 p3.obj, .int .i64 p3.off]] w') Try.func35 rfl rfl (by kernel_rfl) (fun _ => by kernel_rfl) rfl ?_ ?_)
                    ·
                      refine T.seq ?_
                      refine T.region ?_
                      refine T.step (W1.new 26 [.int .i64 e1.key.pfs, .int .i64 e1.key.obj, .int .i64 e1.key.off, .int .i64 e1.made, .int .i64 e1.gone, .string e1.val] (fun b => .pointer (some ⟨b, 0, none⟩)) (by kernel_rfl) (fun _ => by kernel_rfl) (fun b4 => ?_))
                      refine T.pure (.bool false) (by kernel_rfl) (fun _ => by kernel_rfl) ?_
                      refine T.nil ?_
                      refine T.seq ?_
                      refine T.region ?_
                      refine T.pure (.pointer (some ⟨b4, 0, none⟩)) (by kernel_rfl) (fun _ => by kernel_rfl) ?_
                      refine T.look (.agg #[.int .i64 e1.key.pfs, .int .i64 e1.key.obj, .int .i64 e1.key.off]) (by kernel_rfl) (fun w' hh => exec_loadN (cs := [.int .i64 e1.key.pfs, .int .i64 e1.key.obj, .int .i64 e1.key.off]) rfl rfl (by kernel_rfl) (by kernel_rfl) (fun j u hj => (hh.box_at (i := 0) (cs := [.int .i64 e1.key.pfs, .int .i64 e1.key.obj, .int .i64 e1.key.off, .int .i64 e1.made, .int .i64 e1.gone, .string e1.val]) (by rfl) 0 j).trans (seg_at (n := 3) rfl hj))) ?_
                      refine T.look (.agg #[.int .i64 p3.pfs, .int .i64 p3.obj, .int .i64 p3.off]) (by kernel_rfl) (fun w' hh => exec_loadN (cs := [.int .i64 p3.pfs, .int .i64 p3.obj, .int .i64 p3.off]) rfl rfl (by kernel_rfl) (by kernel_rfl) (fun j u hj => (hh.box_at (i := 2) (cs := [.int .i64 p3.pfs, .int .i64 p3.obj, .int .i64 p3.off]) (by rfl) 0 j).trans (seg_at (n := 3) rfl hj))) ?_
                      refine T.look (.bool (e1.key == p3)) (by kernel_rfl) (fun w' hh => exec_eql_DKey e1.key p3 w' rfl rfl rfl) ?_
                      refine T.pure (.bool (e1.key == p3)) (by kernel_rfl) (fun _ => by kernel_rfl) ?_
                      refine T.nil ?_
                      refine T.ret rfl ?_
                      exact T.ret1 rfl (ResIs.tmp rfl) fun w' hh => ⟨_, rfl, And.intro rfl (hh.sub (.cons _ (.cons_cons _ (.cons_cons _ List.Sublist.slnil))))⟩
                    ·
                      rintro v w' ⟨rfl, hh⟩
                      refine ⟨V8, [row 26 eElem A2 c2 z2, box b1 24 [.int .i64 p3.pfs, .int .i64 p3.obj, .int .i64 p3.off]], hh, ?_⟩
                      clear hh
                      refine T.nil ?_
                      refine T.cond (e1.key == p3) (by kernel_rfl) (by kernel_rfl) (fun hc4 => ?_) (fun hc4 => ?_)
                      ·
                        rw [hc4, cond_true] at hY1
                        refine T.seq ?_
                        refine T.region ?_
                        refine T.pure (.int .i64 x1) (by kernel_rfl) (fun _ => by kernel_rfl) ?_
                        refine T.pure (.int .i64 x1) (by kernel_rfl) (fun _ => by kernel_rfl) ?_
                        refine T.nil ?_
                        cases hY1
                        cases (hr1 _ rfl)
                        try dsimp only at hX4
                        cases hX4
                        refine T.ret rfl ?_
                        repeat first | refine T.unthen ?_ | refine T.unblock ?_
                        exact T.ret1 rfl (ResIs.tmp rfl) fun w' hh => ⟨_, rfl, And.intro rfl (hh.sub (.cons_cons _ (.cons_cons _ List.Sublist.slnil)))⟩
                      ·
                        rw [hc4, cond_false] at hY1
                        refine T.skip_code ?_
                        refine T.region ?_
                        refine T.pure (.int .i64 (IntKind.i64.wrap (x1 + 1))) (by kernel_rfl) (fun _ => by kernel_rfl) ?_
                        refine T.pure (.int .i64 (IntKind.i64.wrap (x1 + 1))) (by kernel_rfl) (fun _ => by kernel_rfl) ?_
                        refine T.nil ?_
                        cases hY1
                        exact fun a w' hf hh => Exists.intro (IntKind.i64.wrap (x1 + 1)) (And.intro rfl (And.intro (((((Fr.nil hf).pick hf 8 rfl).pick hf 7 rfl).pick hf 1 rfl).pick hf 0 rfl) (hh.sub (.cons_cons _ (.cons_cons _ List.Sublist.slnil)))))
                  ·
                    rw [hc3, cond_false] at hY1
                    refine T.exit ?_
                    cases hY1
                    cases (hr1 _ rfl)
                    exact fun a w' hf hh => And.intro rfl (And.intro (Fr.nil hf) (hh.sub (.cons_cons _ (.cons_cons _ List.Sublist.slnil))))
              ·
                rintro a w' ⟨rfl, hf, hh⟩
                try dsimp only at hX4
                refine (?_ : T 19 w V8 [row 26 eElem A2 c2 z2, box b1 24 [.int .i64 p3.pfs, .int .i64 p3.obj, .int .i64 p3.off]] [] _) a w' hf hh
                clear hf hh
                refine T.seq ?_
                refine T.region ?_
                refine T.pure (.int .i64 (-1)) (by kernel_rfl) (fun _ => by kernel_rfl) ?_
                refine T.nil ?_
                cases hX4
                refine T.ret rfl ?_
                repeat first | refine T.unthen ?_ | refine T.unblock ?_
                exact T.ret1 rfl (ResIs.tmp rfl) fun w' hh => ⟨_, rfl, And.intro rfl (hh.sub (.cons_cons _ (.cons_cons _ List.Sublist.slnil)))⟩
            ·
              rintro v w' ⟨rfl, hh⟩
              refine ⟨V8, [row 26 eElem A2 c2 z2, box b1 24 [.int .i64 p3.pfs, .int .i64 p3.obj, .int .i64 p3.off]], hh, ?_⟩
              clear hh
              refine T.pure (.int .i64 z4) (by kernel_rfl) (fun _ => by kernel_rfl) ?_
              refine T.nil ?_
              refine T.seq ?_
              refine T.seq ?_
              refine T.region ?_
              refine T.pure (.int .i64 z4) (by kernel_rfl) (fun _ => by kernel_rfl) ?_
              refine T.pure (.bool (z4 == (-1))) (by kernel_rfl) (fun _ => by kernel_rfl) ?_
              refine T.nil ?_
              refine T.cond (z4 == (-1)) (by kernel_rfl) (by kernel_rfl) (fun hc5 => ?_) (fun hc5 => ?_)
              ·
                rw [hc5, cond_true] at hX3
                refine T.seq ?_
                refine T.region ?_
                refine T.pure (.slice A2 z2.length c2) (by kernel_rfl) (fun _ => by kernel_rfl) ?_
                refine T.pure (.slice A2 z2.length c2) (by kernel_rfl) (fun _ => by kernel_rfl) ?_
                refine T.nil ?_
                cases hX3
                refine T.ret rfl ?_
                repeat first | refine T.unthen ?_ | refine T.unblock ?_
                exact T.ret1 rfl (ResIs.tmp rfl) fun w' hh => ⟨_, rfl, Exists.intro A2 (Exists.intro c2 (And.intro rfl (hh.sub (.cons_cons _ (.cons_cons _ List.Sublist.slnil)))))⟩
              ·
                rw [hc5, cond_false] at hX3
                refine T.skip_code ?_
                refine T.seq ?_
                refine T.seq ?_
                refine T.region ?_
                refine T.pure (.int .i64 z4) (by kernel_rfl) (fun _ => by kernel_rfl) ?_
                refine T.pure (.int .i64 (IntKind.i64.wrap (z4 + 1))) (by kernel_rfl) (fun _ => by kernel_rfl) ?_
                refine T.pure (.int .i64 (IntKind.i64.wrap (z4 + 1))) (by kernel_rfl) (fun _ => by kernel_rfl) ?_
                refine T.nil ?_
                obtain ⟨q2, hz2, hX3⟩ := Option.bind_eq_some_iff.1 hX3
                refine T.mid (fun a w' => ∃ (z5 : List DElem) (z6 : Int), q2 = (z5, z6) ∧ ∃ (A6 : Option Addr) (c6 : Nat), Fr 42 [(0, .slice A6 z5.length c6), (5, .int .i64 z6)] a ∧ Hp w V8 [row 26 eElem A6 c6 z5, box b1 24 [.int .i64 p3.pfs, .int .i64 p3.obj, .int .i64 p3.off]] w') ?_ ?_
                ·
                  refine T.block ?_
                  refine T.iter (fun s1 a w' => ∃ (x2 : List DElem) (x3 : Int) (x4 : Int), s1 = (x2, x3, x4) ∧ ∃ (A5 : Option Addr) (c5 : Nat), Fr 42 [(0, .slice A5 x2.length c5), (1, .func (.func 35) #[] #[.pointer (some ⟨b1, 0, none⟩)]), (5, .int .i64 x3), (6, .int .i64 x4)] a ∧ Hp w V8 [row 26 eElem A5 c5 x2, box b1 24 [.int .i64 p3.pfs, .int .i64 p3.obj, .int .i64 p3.off]] w') hz2 ?_ ?_
                  ·
                    exact fun a w' hf hh => Exists.intro z2 (Exists.intro z4 (Exists.intro (IntKind.i64.wrap (z4 + 1)) (And.intro rfl (Exists.intro A2 (Exists.intro c2 (And.intro (((((Fr.nil hf).pick hf 6 rfl).pick hf 5 rfl).pick hf 1 rfl).pick hf 0 rfl) (hh.sub (.cons_cons _ (.cons_cons _ List.Sublist.slnil)))))))))
                  ·
                    rintro s1 y3 hY2 hr2 a w' ⟨x2, x3, x4, rfl, A5, c5, hf, hh⟩
                    refine (?_ : T 42 w V8 [row 26 eElem A5 c5 x2, box b1 24 [.int .i64 p3.pfs, .int .i64 p3.obj, .int .i64 p3.off]] [(0, .slice A5 x2.length c5), (1, .func (.func 35) #[] #[.pointer (some ⟨b1, 0, none⟩)]), (5, .int .i64 x3), (6, .int .i64 x4)] _) a w' hf hh
                    clear hf hh
                    try dsimp only at hY2
                    refine T.seq ?_
                    refine T.seq ?_
                    refine T.region ?_
                    refine T.pure (.int .i64 x4) (by kernel_rfl) (fun _ => by kernel_rfl) ?_
                    refine T.pure (.slice A5 x2.length c5) (by kernel_rfl) (fun _ => by kernel_rfl) ?_
                    refine T.pure (.int .i64 (x2.length : Int)) (by kernel_rfl) (fun _ => by kernel_rfl) ?_
                    refine T.pure (.bool (decide (x4 < (x2.length : Int)))) (by kernel_rfl) (fun _ => by kernel_rfl) ?_
                    refine T.nil ?_
                    refine T.cond (decide (x4 < (x2.length : Int))) (by kernel_rfl) (by kernel_rfl) (fun hc6 => ?_) (fun hc6 => ?_)
                    ·
                      rw [hc6, cond_true] at hY2
                      refine T.skip_code ?_
                      obtain ⟨q3, hX5, hY2⟩ := Option.bind_eq_some_iff.1 hY2
                      refine T.cut (fun a w' => ∃ (z7 : List DElem) (z8 : Int), q3 = (z7, z8) ∧ ∃ (A7 : Option Addr) (c7 : Nat), Fr 42 [(0, .slice A7 z7.length c7), (1, .func (.func 35) #[] #[.pointer (some ⟨b1, 0, none⟩)]), (5, .int .i64 z8), (6, .int .i64 x4)] a ∧ Hp w V8 [row 26 eElem A7 c7 z7, box b1 24 [.int .i64 p3.pfs, .int .i64 p3.obj, .int .i64 p3.off]] w') ?_ ?_
                      ·
                        refine T.block ?_
                        refine T.seq ?_
                        refine T.region ?_
                        refine T.pure (.slice A5 x2.length c5) (by kernel_rfl) (fun _ => by kernel_rfl) ?_
                        refine T.pure (.int .i64 x4) (by kernel_rfl) (fun _ => by kernel_rfl) ?_
                        obtain ⟨e2, hb10, hX5⟩ := Option.bind_eq_some_iff.1 hX5
                        obtain ⟨hi4, hi5, hi6⟩ := idx_some hb10
                        refine T.look (.pointer (some ((sadr A5).add (x4.toNat * 6)))) (by kernel_rfl) (fun w' hh => exec_indexAddr (e := 26) (s := 6) rfl rfl rfl (by kernel_rfl) (by kernel_rfl) hi4 hi5 ((hh.row_slOk (i := 0) (by rfl)).some_ hi6 (by decide))) ?_
                        refine T.look (.agg #[.int .i64 e2.key.pfs, .int .i64 e2.key.obj, .int .i64 e2.key.off, .int .i64 e2.made, .int .i64 e2.gone, .string e2.val]) (by kernel_rfl) (fun w' hh => exec_loadN (cs := [.int .i64 e2.key.pfs, .int .i64 e2.key.obj, .int .i64 e2.key.off, .int .i64 e2.made, .int .i64 e2.gone, .string e2.val]) rfl rfl (by kernel_rfl) (by kernel_rfl) (fun j u hj => (SlOk.wcellF (E := eElem) (hh.row_slOk (i := 0) (by rfl)) hi6 j (fun _ _ _ h => h) hj))) ?_
                        refine T.step (W1.new 26 [.int .i64 0, .int .i64 0, .int .i64 0, .int .i64 0, .int .i64 0, .string (ByteArray.mk #[])] (fun b => .pointer (some ⟨b, 0, none⟩)) (by kernel_rfl) (fun _ => by kernel_rfl) (fun b5 => ?_))
                        refine T.step (W1.store 0 [.int .i64 e2.key.pfs, .int .i64 e2.key.obj, .int .i64 e2.key.off, .int .i64 e2.made, .int .i64 e2.gone, .string e2.val] [box b5 26 [.int .i64 e2.key.pfs, .int .i64 e2.key.obj, .int .i64 e2.key.off, .int .i64 e2.made, .int .i64 e2.gone, .string e2.val], row 26 eElem A5 c5 x2, box b1 24 [.int .i64 p3.pfs, .int .i64 p3.obj, .int .i64 p3.off]] (by rfl) rfl (by kernel_rfl) (fun w' hw => exec_store (vs := [.int .i64 e2.key.pfs, .int .i64 e2.key.obj, .int .i64 e2.key.off, .int .i64 e2.made, .int .i64 e2.gone, .string e2.val]) rfl rfl rfl rfl (by kernel_rfl) (one_of rfl) (by simp) rfl hw) ?_)
                        refine T.nil ?_
                        refine T.seq ?_
                        refine T.region ?_
                        refine T.pure (.func (.func 35) #[] #[.pointer (some ⟨b1, 0, none⟩)]) (by kernel_rfl) (fun _ => by kernel_rfl) ?_
                        refine T.look (.agg #[.int .i64 e2.key.pfs, .int .i64 e2.key.obj, .int .i64 e2.key.off, .int .i64 e2.made, .int .i64 e2.gone, .string e2.val]) (by kernel_rfl) (fun w' hh => exec_loadN (cs := [.int .i64 e2.key.pfs, .int .i64 e2.key.obj, .int .i64 e2.key.off, .int .i64 e2.made, .int .i64 e2.gone, .string e2.val]) rfl rfl (by kernel_rfl) (by kernel_rfl) (fun j u hj => (hh.box_at (i := 0) (cs := [.int .i64 e2.key.pfs, .int .i64 e2.key.obj, .int .i64 e2.key.off, .int .i64 e2.made, .int .i64 e2.gone, .string e2.val]) (by rfl) 0 j).trans (seg_at (n := 6) rfl hj))) ?_
                        refine T.step (W1.within 35 [.agg #[.int .i64 e2.key.pfs, .int .i64 e2.key.obj, .int .i64 e2.key.off, .int .i64 e2.made, .int .i64 e2.gone, .string e2.val], .pointer (some ⟨b1, 0, none⟩)] (fun v w' => v = .bool (e2.key == p3) ∧ Hp w V8 [box b5 26 [.int .i64 e2.key.pfs, .int .i64 e2.key.obj, .int .i64 e2.key.off, .int .i64 e2.made, .int .i64 e2.gone, .string e2.val], row 26 eElem A5 c5 x2, box b1 24 [.int .i64 p3.pfs, .int .i64 p3.obj, .int .i64 p3.off]] w') Try.func35 rfl rfl (by kernel_rfl) (fun _ => by kernel_rfl) rfl ?_ ?_)
                        ·
                          refine T.seq ?_
                          refine T.region ?_
                          refine T.step (W1.new 26 [.int .i64 e2.key.pfs, .int .i64 e2.key.obj, .int .i64 e2.key.off, .int .i64 e2.made, .int .i64 e2.gone, .string e2.val] (fun b => .pointer (some ⟨b, 0, none⟩)) (by kernel_rfl) (fun _ => by kernel_rfl) (fun b6 => ?_))
                          refine T.pure (.bool false) (by kernel_rfl) (fun _ => by kernel_rfl) ?_
                          refine T.nil ?_
                          refine T.seq ?_
                          refine T.region ?_
                          refine T.pure (.pointer (some ⟨b6, 0, none⟩)) (by kernel_rfl) (fun _ => by kernel_rfl) ?_
                          refine T.look (.agg #[.int .i64 e2.key.pfs, .int .i64 e2.key.obj, .int .i64 e2.key.off]) (by kernel_rfl) (fun w' hh => exec_loadN (cs := [.int .i64 e2.key.pfs, .int .i64 e2.key.obj, .int .i64 e2.key.off]) rfl rfl (by kernel_rfl) (by kernel_rfl) (fun j u hj => (hh.box_at (i := 0) (cs := [.int .i64 e2.key.pfs, .int .i64 e2.key.obj, .int .i64 e2.key.off, .int .i64 e2.made, .int .i64 e2.gone, .string e2.val]) (by rfl) 0 j).trans (seg_at (n := 3) rfl hj))) ?_
                          refine T.look (.agg #[.int .i64 p3.pfs, .int .i64 p3.obj, .int .i64 p3.off]) (by kernel_rfl) (fun w' hh => exec_loadN (cs := [.int .i64 p3.pfs, .int .i64 p3.obj, .int .i64 p3.off]) rfl rfl (by kernel_rfl) (by kernel_rfl) (fun j u hj => (hh.box_at (i := 3) (cs := [.int .i64 p3.pfs, .int .i64 p3.obj, .int .i64 p3.off]) (by rfl) 0 j).trans (seg_at (n := 3) rfl hj))) ?_
                          refine T.look (.bool (e2.key == p3)) (by kernel_rfl) (fun w' hh => exec_eql_DKey e2.key p3 w' rfl rfl rfl) ?_
                          refine T.pure (.bool (e2.key == p3)) (by kernel_rfl) (fun _ => by kernel_rfl) ?_
                          refine T.nil ?_
                          refine T.ret rfl ?_
                          exact T.ret1 rfl (ResIs.tmp rfl) fun w' hh => ⟨_, rfl, And.intro rfl (hh.sub (.cons _ (.cons_cons _ (.cons_cons _ (.cons_cons _ List.Sublist.slnil)))))⟩
                        ·
                          rintro v w' ⟨rfl, hh⟩
                          refine ⟨V8, [box b5 26 [.int .i64 e2.key.pfs, .int .i64 e2.key.obj, .int .i64 e2.key.off, .int .i64 e2.made, .int .i64 e2.gone, .string e2.val], row 26 eElem A5 c5 x2, box b1 24 [.int .i64 p3.pfs, .int .i64 p3.obj, .int .i64 p3.off]], hh, ?_⟩
                          clear hh
                          refine T.pure (.bool (!(e2.key == p3))) (by kernel_rfl) (fun _ => by kernel_rfl) ?_
                          refine T.nil ?_
                          refine T.cond (!(e2.key == p3)) (by kernel_rfl) (by kernel_rfl) (fun hc7 => ?_) (fun hc7 => ?_)
                          ·
                            rw [hc7, cond_true] at hX5
                            refine T.seq ?_
                            refine T.region ?_
                            refine T.pure (.slice A5 x2.length c5) (by kernel_rfl) (fun _ => by kernel_rfl) ?_
                            refine T.pure (.int .i64 x3) (by kernel_rfl) (fun _ => by kernel_rfl) ?_
                            refine T.look (.agg #[.int .i64 e2.key.pfs, .int .i64 e2.key.obj, .int .i64 e2.key.off, .int .i64 e2.made, .int .i64 e2.gone, .string e2.val]) (by kernel_rfl) (fun w' hh => exec_loadN (cs := [.int .i64 e2.key.pfs, .int .i64 e2.key.obj, .int .i64 e2.key.off, .int .i64 e2.made, .int .i64 e2.gone, .string e2.val]) rfl rfl (by kernel_rfl) (by kernel_rfl) (fun j u hj => (hh.box_at (i := 0) (cs := [.int .i64 e2.key.pfs, .int .i64 e2.key.obj, .int .i64 e2.key.off, .int .i64 e2.made, .int .i64 e2.gone, .string e2.val]) (by rfl) 0 j).trans (seg_at (n := 6) rfl hj))) ?_
                            obtain ⟨e3, hb11, hX5⟩ := Option.bind_eq_some_iff.1 hX5
                            obtain ⟨hi7, hi8, hi9⟩ := idx_some hb11
                            refine T.look (.pointer (some ((sadr A5).add (x3.toNat * 6)))) (by kernel_rfl) (fun w' hh => exec_indexAddr (e := 26) (s := 6) rfl rfl rfl (by kernel_rfl) (by kernel_rfl) hi7 hi8 ((hh.row_slOk (i := 1) (by rfl)).some_ hi9 (by decide))) ?_
                            refine T.step (W1.storeRow (E := eElem) 1 (x3.toNat) 0 e3 e2 _ (vs := [.int .i64 e2.key.pfs, .int .i64 e2.key.obj, .int .i64 e2.key.off, .int .i64 e2.made, .int .i64 e2.gone, .string e2.val]) (by rfl) (by kernel_rfl) rfl rfl (addr_add0 _).symm rfl rfl (fun _ => by kernel_rfl) (one_of rfl) hi9 (Nat.le_of_ble_eq_true (by kernel_rfl)) (fun _ _ h => by cases h; rfl) ?_)
                            refine T.reslot 0 (.slice A5 ((x2.set x3.toNat e2).length) c5) rfl (by simp only [List.length_set]) ?_
                            refine T.reslot 17 (.slice A5 ((x2.set x3.toNat e2).length) c5) rfl (by simp only [List.length_set]) ?_
                            refine T.reslot 22 (.slice A5 ((x2.set x3.toNat e2).length) c5) rfl (by simp only [List.length_set]) ?_
                            refine T.reslot 30 (.slice A5 ((x2.set x3.toNat e2).length) c5) rfl (by simp only [List.length_set]) ?_
                            refine T.nil ?_
                            refine T.region ?_
                            refine T.pure (.int .i64 x3) (by kernel_rfl) (fun _ => by kernel_rfl) ?_
                            refine T.pure (.int .i64 (IntKind.i64.wrap (x3 + 1))) (by kernel_rfl) (fun _ => by kernel_rfl) ?_
                            refine T.pure (.int .i64 (IntKind.i64.wrap (x3 + 1))) (by kernel_rfl) (fun _ => by kernel_rfl) ?_
                            refine T.nil ?_
                            cases hX5
                            exact fun a w' hf hh => Exists.intro (x2.set x3.toNat e2) (Exists.intro (IntKind.i64.wrap (x3 + 1)) (And.intro rfl (Exists.intro A5 (Exists.intro c5 (And.intro (((((Fr.nil hf).pick hf 6 rfl).pick hf 5 rfl).pick hf 1 rfl).pick hf 0 rfl) (hh.sub (.cons _ (.cons_cons _ (.cons_cons _ List.Sublist.slnil)))))))))
                          ·
                            rw [hc7, cond_false] at hX5
                            refine T.skip_code ?_
                            cases hX5
                            exact fun a w' hf hh => Exists.intro x2 (Exists.intro x3 (And.intro rfl (Exists.intro A5 (Exists.intro c5 (And.intro (((((Fr.nil hf).pick hf 6 rfl).pick hf 5 rfl).pick hf 1 rfl).pick hf 0 rfl) (hh.sub (.cons _ (.cons_cons _ (.cons_cons _ List.Sublist.slnil)))))))))
                      ·
                        rintro a w' ⟨z7, z8, rfl, A7, c7, hf, hh⟩
                        try dsimp only at hY2
                        refine (?_ : T 42 w V8 [row 26 eElem A7 c7 z7, box b1 24 [.int .i64 p3.pfs, .int .i64 p3.obj, .int .i64 p3.off]] [(0, .slice A7 z7.length c7), (1, .func (.func 35) #[] #[.pointer (some ⟨b1, 0, none⟩)]), (5, .int .i64 z8), (6, .int .i64 x4)] _) a w' hf hh
                        clear hf hh
                        refine T.region ?_
                        refine T.pure (.int .i64 x4) (by kernel_rfl) (fun _ => by kernel_rfl) ?_
                        refine T.pure (.int .i64 (IntKind.i64.wrap (x4 + 1))) (by kernel_rfl) (fun _ => by kernel_rfl) ?_
                        refine T.pure (.int .i64 (IntKind.i64.wrap (x4 + 1))) (by kernel_rfl) (fun _ => by kernel_rfl) ?_
                        refine T.nil ?_
                        cases hY2
                        exact fun a w' hf hh => Exists.intro (z7, z8, IntKind.i64.wrap (x4 + 1)) (And.intro rfl (Exists.intro z7 (Exists.intro z8 (Exists.intro (IntKind.i64.wrap (x4 + 1)) (And.intro rfl (Exists.intro A7 (Exists.intro c7 (And.intro (((((Fr.nil hf).pick hf 6 rfl).pick hf 5 rfl).pick hf 1 rfl).pick hf 0 rfl) (hh.sub (.cons_cons _ (.cons_cons _ List.Sublist.slnil)))))))))))
                    ·
                      rw [hc6, cond_false] at hY2
                      refine T.exit ?_
                      cases hY2
                      cases (hr2 _ rfl)
                      exact fun a w' hf hh => Exists.intro x2 (Exists.intro x3 (And.intro rfl (Exists.intro A5 (Exists.intro c5 (And.intro (((Fr.nil hf).pick hf 5 rfl).pick hf 0 rfl) (hh.sub (.cons_cons _ (.cons_cons _ List.Sublist.slnil))))))))
                ·
                  rintro a w' ⟨z5, z6, rfl, A6, c6, hf, hh⟩
                  try dsimp only at hX3
                  refine (?_ : T 42 w V8 [row 26 eElem A6 c6 z5, box b1 24 [.int .i64 p3.pfs, .int .i64 p3.obj, .int .i64 p3.off]] [(0, .slice A6 z5.length c6), (5, .int .i64 z6)] _) a w' hf hh
                  clear hf hh
                  refine T.seq ?_
                  refine T.region ?_
                  refine T.pure (.slice A6 z5.length c6) (by kernel_rfl) (fun _ => by kernel_rfl) ?_
                  refine T.pure (.int .i64 z6) (by kernel_rfl) (fun _ => by kernel_rfl) ?_
                  obtain ⟨s2, hb12, hX3⟩ := Option.bind_eq_some_iff.1 hX3
                  refine T.look (.slice (cutA A6 c6 z6.toNat 6) s2.length (c6 - z6.toNat)) (by kernel_rfl) (fun w' hh => exec_slice_list (e := 26) (s := 6) (lx := (some _)) (hx := none) (k := .i64) (k' := .i64) rfl rfl (by kernel_rfl) (by kernel_rfl) ((hh.row_slOk (i := 0) (by rfl))).1 rfl rfl hb12) ?_
                  refine T.step (W1.clear (E := eElem) (l := z5) (x := ((DElem.mk (DKey.mk 0 0 0) 0 0 (ByteArray.mk #[])) : DElem)) (z := .agg #[.int .i64 0, .int .i64 0, .int .i64 0, .int .i64 0, .int .i64 0, .string (ByteArray.mk #[])]) 0 z6.toNat s2.length _ (by rfl) (by kernel_rfl) rfl (by kernel_rfl) (fun _ => by kernel_rfl) (fun _ => rfl) rfl (by decide) rfl (lslice_fit hb12) ?_)
                  have hl1 : (over z5 z6.toNat (List.replicate s2.length ((DElem.mk (DKey.mk 0 0 0) 0 0 (ByteArray.mk #[])) : DElem))).length = z5.length := (by exact over_length _ _ _ (by rw [List.length_replicate]; have := (lslice_fit hb12); omega))
                  refine T.reslot 0 (.slice A6 ((over z5 z6.toNat (List.replicate s2.length ((DElem.mk (DKey.mk 0 0 0) 0 0 (ByteArray.mk #[])) : DElem))).length) c6) rfl (by simp only [hl1]) ?_
                  refine T.reslot 36 (.slice A6 ((over z5 z6.toNat (List.replicate s2.length ((DElem.mk (DKey.mk 0 0 0) 0 0 (ByteArray.mk #[])) : DElem))).length) c6) rfl (by simp only [hl1]) ?_
                  refine T.nil ?_
                  refine T.seq ?_
                  refine T.region ?_
                  refine T.pure (.slice A6 ((over z5 z6.toNat (List.replicate s2.length ((DElem.mk (DKey.mk 0 0 0) 0 0 (ByteArray.mk #[])) : DElem))).length) c6) (by kernel_rfl) (fun _ => by kernel_rfl) ?_
                  refine T.pure (.int .i64 z6) (by kernel_rfl) (fun _ => by kernel_rfl) ?_
                  obtain ⟨s3, hb13, hX3⟩ := Option.bind_eq_some_iff.1 hX3
                  refine T.look (.slice A6 s3.length c6) (by kernel_rfl) (fun w' hh => exec_slice_list0 (e := 26) (s := 6) (lx := none) (hx := (some _)) (k := .i64) (k' := .i64) rfl rfl (by kernel_rfl) (by kernel_rfl) ((hh.row_slOk (i := 0) (by rfl))).1 rfl rfl hb13) ?_
                  refine T.pure (.slice A6 s3.length c6) (by kernel_rfl) (fun _ => by kernel_rfl) ?_
                  refine T.nil ?_
                  refine T.shrink (l := s3) 0 (by rfl) (lslice_prefix hb13) ?_
                  cases hX3
                  refine T.ret rfl ?_
                  repeat first | refine T.unthen ?_ | refine T.unblock ?_
                  exact T.ret1 rfl (ResIs.tmp rfl) fun w' hh => ⟨_, rfl, Exists.intro A6 (Exists.intro c6 (And.intro rfl (hh.sub (.cons_cons _ (.cons_cons _ List.Sublist.slnil)))))⟩
          ·
            rintro v w' ⟨A4, c4, rfl, hh⟩
            refine ⟨V8, [row 26 eElem A4 c4 z3, box b1 24 [.int .i64 p3.pfs, .int .i64 p3.obj, .int .i64 p3.off]], hh, ?_⟩
            clear hh
            refine T.pure (.slice A4 z3.length c4) (by kernel_rfl) (fun _ => by kernel_rfl) ?_
            refine T.nil ?_
            refine T.seq ?_
            refine T.region ?_
            refine T.pure (.slice A1 p0.length c1) (by kernel_rfl) (fun _ => by kernel_rfl) ?_
            refine T.pure (.int .i64 r6) (by kernel_rfl) (fun _ => by kernel_rfl) ?_
            refine T.pure (.int .i64 r7) (by kernel_rfl) (fun _ => by kernel_rfl) ?_
            refine T.pure (.int .i64 (if r7 < r6 then r7 else r6)) (by kernel_rfl) (fun _ => by kernel_rfl) ?_
            refine T.pure (.int .i64 r6) (by kernel_rfl) (fun _ => by kernel_rfl) ?_
            refine T.pure (.int .i64 r7) (by kernel_rfl) (fun _ => by kernel_rfl) ?_
            refine T.pure (.int .i64 (if r6 < r7 then r7 else r6)) (by kernel_rfl) (fun _ => by kernel_rfl) ?_
            obtain ⟨s4, hb14, hF⟩ := Option.bind_eq_some_iff.1 hF
            refine T.look (.slice (cutA A1 c1 (if r7 < r6 then r7 else r6).toNat 6) s4.length (c1 - (if r7 < r6 then r7 else r6).toNat)) (by kernel_rfl) (fun w' hh => exec_slice_list (e := 26) (s := 6) (lx := (some _)) (hx := (some _)) (k := .i64) (k' := .i64) rfl rfl (by kernel_rfl) (by kernel_rfl) ((SlOk.mono hs1 (View.le_trans (View.le_trans (View.le_trans hV1 hV6) hV7) hV8))).1 rfl rfl hb14) ?_
            obtain ⟨r10, hb15, hF⟩ := Option.bind_eq_some_iff.1 hF
            refine T.step (W1.call (vT2 (vSc eInt) (vSc eInt)) r10 27 #[.slice (cutA A1 c1 (if r7 < r6 then r7 else r6).toNat 6) s4.length (c1 - (if r7 < r6 then r7 else r6).toNat)] (by kernel_rfl) (fun _ => by kernel_rfl) (fun w' hh => run_Last_l F s4 r10 hb15 w' (cutA A1 c1 (if r7 < r6 then r7 else r6).toNat 6) (c1 - (if r7 < r6 then r7 else r6).toNat) (SlOk.cut (SlOk.mono (SlOk.mono hs1 (View.le_trans (View.le_trans (View.le_trans hV1 hV6) hV7) hV8)) hh.view) hb14)) ?_)
            intro u V9 hV9 hu
            obtain rfl := (Sure.t2 sureInt sureInt) _ _ _ hu
            refine T.pure (.tuple #[.int .i64 r10.1, .int .i64 r10.2]) (by kernel_rfl) (fun _ => by kernel_rfl) ?_
            refine T.pure (.int .i64 r10.1) (by kernel_rfl) (fun _ => by kernel_rfl) ?_
            refine T.pure (.int .i64 r10.2) (by kernel_rfl) (fun _ => by kernel_rfl) ?_
            refine T.pure (.int .i64 r10.1) (by kernel_rfl) (fun _ => by kernel_rfl) ?_
            refine T.pure (.int .i64 r10.2) (by kernel_rfl) (fun _ => by kernel_rfl) ?_
            refine T.nil ?_
            refine T.seq ?_
            refine T.region ?_
            refine T.pure (.slice A1 p0.length c1) (by kernel_rfl) (fun _ => by kernel_rfl) ?_
            obtain ⟨r11, hb16, hF⟩ := Option.bind_eq_some_iff.1 hF
            refine T.step (W1.call (vT2 (vSc eInt) (vSc eInt)) r11 27 #[.slice A1 p0.length c1] (by kernel_rfl) (fun _ => by kernel_rfl) (fun w' hh => run_Last_l F p0 r11 hb16 w' A1 c1 (SlOk.mono (SlOk.mono hs1 (View.le_trans (View.le_trans (View.le_trans (View.le_trans hV1 hV6) hV7) hV8) hV9)) hh.view)) ?_)
            intro u V10 hV10 hu
            obtain rfl := (Sure.t2 sureInt sureInt) _ _ _ hu
            refine T.pure (.tuple #[.int .i64 r11.1, .int .i64 r11.2]) (by kernel_rfl) (fun _ => by kernel_rfl) ?_
            refine T.pure (.int .i64 r11.1) (by kernel_rfl) (fun _ => by kernel_rfl) ?_
            refine T.pure (.int .i64 r11.2) (by kernel_rfl) (fun _ => by kernel_rfl) ?_
            refine T.pure (.int .i64 r11.1) (by kernel_rfl) (fun _ => by kernel_rfl) ?_
            refine T.pure (.int .i64 r11.2) (by kernel_rfl) (fun _ => by kernel_rfl) ?_
            refine T.nil ?_
            obtain ⟨z9, hX6, hF⟩ := Option.bind_eq_some_iff.1 hF
            refine T.cut (fun a w' => ∃ (V11 : View), View.le V10 V11 ∧ Fr 73 [(8, .bool z9)] a ∧ Hp w V11 [] w') ?_ ?_
            ·
              refine T.region ?_
              refine T.pure (.int .i64 r10.2) (by kernel_rfl) (fun _ => by kernel_rfl) ?_
              refine T.pure (.bool (r10.2 == 0)) (by kernel_rfl) (fun _ => by kernel_rfl) ?_
              refine T.pure (.bool (r10.2 == 0)) (by kernel_rfl) (fun _ => by kernel_rfl) ?_
              cases hg2 : (r10.2 == 0)
              ·
                skip
                rw [hg2, cond_false] at hX6
                refine T.pass (by kernel_rfl) (by kernel_rfl) ?_
                refine T.pass (by kernel_rfl) (by kernel_rfl) ?_
                refine T.pure (.bool false) (by kernel_rfl) (fun _ => by kernel_rfl) ?_
                refine T.pure (.bool false) (by kernel_rfl) (fun _ => by kernel_rfl) ?_
                refine T.pass (by kernel_rfl) (by kernel_rfl) ?_
                refine T.pass (by kernel_rfl) (by kernel_rfl) ?_
                refine T.pass (by kernel_rfl) (by kernel_rfl) ?_
                refine T.pure (.bool false) (by kernel_rfl) (fun _ => by kernel_rfl) ?_
                refine T.pure (.bool false) (by kernel_rfl) (fun _ => by kernel_rfl) ?_
                refine T.pass (by kernel_rfl) (by kernel_rfl) ?_
                refine T.pass (by kernel_rfl) (by kernel_rfl) ?_
                refine T.pass (by kernel_rfl) (by kernel_rfl) ?_
                refine T.pure (.bool false) (by kernel_rfl) (fun _ => by kernel_rfl) ?_
                refine T.pure (.bool false) (by kernel_rfl) (fun _ => by kernel_rfl) ?_
                refine T.nil ?_
                cases hX6
                exact fun a w' hf hh => Exists.intro V10 (And.intro (View.le_refl _) (And.intro ((Fr.nil hf).pick hf 8 rfl) (hh.sub (.cons _ (.cons _ List.Sublist.slnil)))))
              ·
                skip
                rw [hg2, cond_true] at hX6
                refine T.pure (.int .i64 r11.2) (by kernel_rfl) (fun _ => by kernel_rfl) ?_
                refine T.pure (.bool (r11.2 == 0)) (by kernel_rfl) (fun _ => by kernel_rfl) ?_
                refine T.pure (.bool (r11.2 == 0)) (by kernel_rfl) (fun _ => by kernel_rfl) ?_
                refine T.pure (.bool (r11.2 == 0)) (by kernel_rfl) (fun _ => by kernel_rfl) ?_
                cases hg3 : (r11.2 == 0)
                ·
                  skip
                  rw [hg3, cond_false] at hX6
                  refine T.pass (by kernel_rfl) (by kernel_rfl) ?_
                  refine T.pass (by kernel_rfl) (by kernel_rfl) ?_
                  refine T.pass (by kernel_rfl) (by kernel_rfl) ?_
                  refine T.pure (.bool false) (by kernel_rfl) (fun _ => by kernel_rfl) ?_
                  refine T.pure (.bool false) (by kernel_rfl) (fun _ => by kernel_rfl) ?_
                  refine T.pass (by kernel_rfl) (by kernel_rfl) ?_
                  refine T.pass (by kernel_rfl) (by kernel_rfl) ?_
                  refine T.pass (by kernel_rfl) (by kernel_rfl) ?_
                  refine T.pure (.bool false) (by kernel_rfl) (fun _ => by kernel_rfl) ?_
                  refine T.pure (.bool false) (by kernel_rfl) (fun _ => by kernel_rfl) ?_
                  refine T.nil ?_
                  cases hX6
                  exact fun a w' hf hh => Exists.intro V10 (And.intro (View.le_refl _) (And.intro ((Fr.nil hf).pick hf 8 rfl) (hh.sub (.cons _ (.cons _ List.Sublist.slnil)))))
                ·
                  skip
                  rw [hg3, cond_true] at hX6
                  refine T.pure (.int .i64 r10.1) (by kernel_rfl) (fun _ => by kernel_rfl) ?_
                  refine T.pure (.int .i64 r11.1) (by kernel_rfl) (fun _ => by kernel_rfl) ?_
                  refine T.pure (.bool (decide (r10.1 ≤ r11.1))) (by kernel_rfl) (fun _ => by kernel_rfl) ?_
                  refine T.pure (.bool (decide (r10.1 ≤ r11.1))) (by kernel_rfl) (fun _ => by kernel_rfl) ?_
                  refine T.pure (.bool (decide (r10.1 ≤ r11.1))) (by kernel_rfl) (fun _ => by kernel_rfl) ?_
                  cases hg4 : decide (r10.1 ≤ r11.1)
                  ·
                    skip
                    rw [hg4, cond_false] at hX6
                    refine T.pass (by kernel_rfl) (by kernel_rfl) ?_
                    refine T.pass (by kernel_rfl) (by kernel_rfl) ?_
                    refine T.pass (by kernel_rfl) (by kernel_rfl) ?_
                    refine T.pure (.bool false) (by kernel_rfl) (fun _ => by kernel_rfl) ?_
                    refine T.pure (.bool false) (by kernel_rfl) (fun _ => by kernel_rfl) ?_
                    refine T.nil ?_
                    cases hX6
                    exact fun a w' hf hh => Exists.intro V10 (And.intro (View.le_refl _) (And.intro ((Fr.nil hf).pick hf 8 rfl) (hh.sub (.cons _ (.cons _ List.Sublist.slnil)))))
                  ·
                    skip
                    rw [hg4, cond_true] at hX6
                    refine T.pure (.slice A4 z3.length c4) (by kernel_rfl) (fun _ => by kernel_rfl) ?_
                    obtain ⟨r12, hb17, hX6⟩ := Option.bind_eq_some_iff.1 hX6
                    refine T.step (W1.call (vSc eInt) r12 30 #[.slice A4 z3.length c4] (by kernel_rfl) (fun _ => by kernel_rfl) (fun w' hh => run_Check_l F z3 r12 hb17 w' A4 c4 (hh.row_slOk (i := 0) (by rfl))) ?_)
                    intro u V12 hV12 hu
                    obtain rfl := sureInt _ _ _ hu
                    refine T.pure (.bool (r12 == 0)) (by kernel_rfl) (fun _ => by kernel_rfl) ?_
                    refine T.pure (.bool (r12 == 0)) (by kernel_rfl) (fun _ => by kernel_rfl) ?_
                    refine T.pure (.bool (r12 == 0)) (by kernel_rfl) (fun _ => by kernel_rfl) ?_
                    refine T.nil ?_
                    cases hX6
                    exact fun a w' hf hh => Exists.intro V12 (And.intro hV12 (And.intro ((Fr.nil hf).pick hf 8 rfl) (hh.sub (.cons _ (.cons _ List.Sublist.slnil)))))
            ·
              rintro a w' ⟨V11, hV11, hf, hh⟩
              refine (?_ : T 73 w V11 [] [(8, .bool z9)] _) a w' hf hh
              clear hf hh
              cases hF
              refine T.ret rfl ?_
              exact T.ret1 rfl (ResIs.tmp rfl) fun w' hh => ⟨_, rfl, hh.below, (show _ from rfl)⟩

end Go.Proofs.Ytiaoncjkfgebdaa
