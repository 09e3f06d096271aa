/- What slices.Insert and slices.Delete do to rows of the call's own, written by ownlib.py. Conditions of each: the row is the call's own, the place lies within it, there is room for one more. -/
import Derived.Test.YtcmkdoahkncakaaSh2R
import Derived.Test.YtcmkdoahkncakaaEqLR
import Derived.Test.YtcmkdoahkncakaaInsR
import Derived.Test.YtcmkdoahkncakaaRecR
namespace Go.Proofs.Ytcmkdoahkncakaa
open Go.RowKit
set_option linter.unusedVariables false
set_option linter.defProp false
def ipOwnL_1 := info_parts (P := Try.prog) (e := 28) (z := .agg #[.int .i64 0, .int .i64 0, .int .i64 0, .int .i64 0, .int .i64 0, .string (ByteArray.mk #[])]) (size := 6) (bytes := 56) (by kernel_rfl)
def ipOwnL_2 := info_parts (P := Try.prog) (e := 43) (z := .agg #[.int .i64 0, .int .i64 0, .int .i64 0, .int .i64 0]) (size := 4) (bytes := 32) (by kernel_rfl)
def ipOwnL_3 := info_parts (P := Try.prog) (e := 3) (z := .int .i64 0) (size := 1) (bytes := 8) (by kernel_rfl)
set_option maxRecDepth 100000 in
set_option maxHeartbeats 4000000 in
theorem own_clone_Elem (w : World) (V : View) (H : List HObj) (w1 : World) (A : Option Addr) (c : Nat) (l : List DElem) (hs : ∀ w', Hp w V H w' → SlOk (vw w') eElem A c l) (hr : room l.length 56 = true) (hm : l.length ≤ maxLen)
 (hh : Hp w V H w1) : Calls Try.prog 36 #[.slice A l.length c] w1 (fun r w2 => ∃ A' c', r = .returned (.slice A' l.length c') ∧ Hp w V (row 28 eElem A' c' l :: H) w2) := by
 have hs1 := hs _ hh
 refine T.startI (l := [.slice A l.length c]) Try.func36 rfl rfl rfl ?_ hh
 clear hh
 refine T.seq (T.region (T.pk sN (fun _ => by kernel_rfl) (T.nil (T.seq (T.seq (T.region (T.pk (.slice A l.length c) (fun _ => by kernel_rfl) ?_)))))))
 cases A with
 | none =>
  refine T.pk (.bool true) (fun _ => by kernel_rfl) (T.nil ?_)
  refine T.cond true (by kernel_rfl) (by kernel_rfl) (fun _ => ?_) (fun h => Bool.noConfusion h)
  refine T.seq (T.region (T.pk sN (fun _ => by kernel_rfl) (T.nil ?_)))
  obtain rfl : l = [] := by
   cases l with
   | nil => rfl
   | cons x l => exact absurd (hs1.some_ (k := 0) rfl (by decide)) (by decide)
  refine T.rownil 28 eElem ?_
  refine T.ret rfl ?_
  repeat first | refine T.unthen ?_ | refine T.unblock ?_
  exact T.ret1 rfl (ResIs.tmp rfl) fun w' hh => ⟨none, 0, rfl, hh⟩
 | some a =>
  refine T.pk (.bool false) (fun _ => by kernel_rfl) (T.nil ?_)
  refine T.cond false (by kernel_rfl) (by kernel_rfl) (fun h => Bool.noConfusion h) (fun _ => ?_)
  refine T.skip_code ?_
  refine T.seq (T.region (T.step (W1.new 28 [] (fun b => .slice (some ⟨b, 0, none⟩) 0 0) (by kernel_rfl) (fun _ => by kernel_rfl) (fun b1 => ?_))))
  refine T.pk (.slice (some a) l.length c) (fun _ => by kernel_rfl) ?_
  refine (fun (h : T _ _ _ ((row 28 eElem (some ⟨b1, 0, none⟩) 0 ([] : List DElem)) :: _) _ _) => (fun a w' hf hh => h a w' hf (hh.fresh_obj _ ⟨rfl, rfl, rfl, Nat.le_refl _, fun _ _ _ => rfl⟩ ⟨Nat.le_refl _, by decide, .inl rfl⟩ (fun b hb => by cases hb)) : T _ _ _ _ _ _)) ?_
  obtain ⟨ti, hti, hz1, hz2, hz3⟩ := ipOwnL_1
  refine T.step (W1.append (E := eElem) (l := ([] : List DElem)) (m := l) 0 _ _ 56 ti _ (by rfl) (by kernel_rfl) rfl (by kernel_rfl) hti hz1 hz2 hz3 rfl (by decide) rfl rfl (fun w' hh => (SlOk.srcF (hs w' (hh.sub (dr1 (dr1 kpr)))) (fun _ _ _ _ h => h))) (by simpa +zetaDelta using hr) (by simpa +zetaDelta using hm) (fun A' c' => ?_))
  refine T.pk (.slice A' (([] : List DElem) ++ l).length c') (fun _ => by kernel_rfl) (T.nil ?_)
  refine T.ret rfl ?_
  repeat first | refine T.unthen ?_ | refine T.unblock ?_
  exact T.ret1 rfl (ResIs.tmp rfl) fun w' hh => ⟨A', c', rfl, hh.sub (kp1 (dr1 kpr))⟩
set_option maxRecDepth 100000 in
set_option maxHeartbeats 4000000 in
theorem own_clone_Spot (w : World) (V : View) (H : List HObj) (w1 : World) (A : Option Addr) (c : Nat) (l : List DSpot) (hs : ∀ w', Hp w V H w' → SlOk (vw w') eSpot A c l) (hr : room l.length 32 = true) (hm : l.length ≤ maxLen)
 (hh : Hp w V H w1) : Calls Try.prog 111 #[.slice A l.length c] w1 (fun r w2 => ∃ A' c', r = .returned (.slice A' l.length c') ∧ Hp w V (row 43 eSpot A' c' l :: H) w2) := by
 have hs1 := hs _ hh
 refine T.startI (l := [.slice A l.length c]) Try.func111 rfl rfl rfl ?_ hh
 clear hh
 refine T.seq (T.region (T.pk sN (fun _ => by kernel_rfl) (T.nil (T.seq (T.seq (T.region (T.pk (.slice A l.length c) (fun _ => by kernel_rfl) ?_)))))))
 cases A with
 | none =>
  refine T.pk (.bool true) (fun _ => by kernel_rfl) (T.nil ?_)
  refine T.cond true (by kernel_rfl) (by kernel_rfl) (fun _ => ?_) (fun h => Bool.noConfusion h)
  refine T.seq (T.region (T.pk sN (fun _ => by kernel_rfl) (T.nil ?_)))
  obtain rfl : l = [] := by
   cases l with
   | nil => rfl
   | cons x l => exact absurd (hs1.some_ (k := 0) rfl (by decide)) (by decide)
  refine T.rownil 43 eSpot ?_
  refine T.ret rfl ?_
  repeat first | refine T.unthen ?_ | refine T.unblock ?_
  exact T.ret1 rfl (ResIs.tmp rfl) fun w' hh => ⟨none, 0, rfl, hh⟩
 | some a =>
  refine T.pk (.bool false) (fun _ => by kernel_rfl) (T.nil ?_)
  refine T.cond false (by kernel_rfl) (by kernel_rfl) (fun h => Bool.noConfusion h) (fun _ => ?_)
  refine T.skip_code ?_
  refine T.seq (T.region (T.step (W1.new 43 [] (fun b => .slice (some ⟨b, 0, none⟩) 0 0) (by kernel_rfl) (fun _ => by kernel_rfl) (fun b1 => ?_))))
  refine T.pk (.slice (some a) l.length c) (fun _ => by kernel_rfl) ?_
  refine (fun (h : T _ _ _ ((row 43 eSpot (some ⟨b1, 0, none⟩) 0 ([] : List DSpot)) :: _) _ _) => (fun a w' hf hh => h a w' hf (hh.fresh_obj _ ⟨rfl, rfl, rfl, Nat.le_refl _, fun _ _ _ => rfl⟩ ⟨Nat.le_refl _, by decide, .inl rfl⟩ (fun b hb => by cases hb)) : T _ _ _ _ _ _)) ?_
  obtain ⟨ti, hti, hz1, hz2, hz3⟩ := ipOwnL_2
  refine T.step (W1.append (E := eSpot) (l := ([] : List DSpot)) (m := l) 0 _ _ 32 ti _ (by rfl) (by kernel_rfl) rfl (by kernel_rfl) hti hz1 hz2 hz3 rfl (by decide) rfl rfl (fun w' hh => (SlOk.srcF (hs w' (hh.sub (dr1 (dr1 kpr)))) (fun _ _ _ _ h => h))) (by simpa +zetaDelta using hr) (by simpa +zetaDelta using hm) (fun A' c' => ?_))
  refine T.pk (.slice A' (([] : List DSpot) ++ l).length c') (fun _ => by kernel_rfl) (T.nil ?_)
  refine T.ret rfl ?_
  repeat first | refine T.unthen ?_ | refine T.unblock ?_
  exact T.ret1 rfl (ResIs.tmp rfl) fun w' hh => ⟨A', c', rfl, hh.sub (kp1 (dr1 kpr))⟩
set_option maxRecDepth 100000 in
set_option maxHeartbeats 4000000 in
theorem own_clone_int (w : World) (V : View) (H : List HObj) (w1 : World) (A : Option Addr) (c : Nat) (l : List Int) (hs : ∀ w', Hp w V H w' → SlOk (vw w') eInt A c l) (hr : room l.length 8 = true) (hm : l.length ≤ maxLen)
 (hh : Hp w V H w1) : Calls Try.prog 110 #[.slice A l.length c] w1 (fun r w2 => ∃ A' c', r = .returned (.slice A' l.length c') ∧ Hp w V (row 3 eInt A' c' l :: H) w2) := by
 have hs1 := hs _ hh
 refine T.startI (l := [.slice A l.length c]) Try.func110 rfl rfl rfl ?_ hh
 clear hh
 refine T.seq (T.region (T.pk sN (fun _ => by kernel_rfl) (T.nil (T.seq (T.seq (T.region (T.pk (.slice A l.length c) (fun _ => by kernel_rfl) ?_)))))))
 cases A with
 | none =>
  refine T.pk (.bool true) (fun _ => by kernel_rfl) (T.nil ?_)
  refine T.cond true (by kernel_rfl) (by kernel_rfl) (fun _ => ?_) (fun h => Bool.noConfusion h)
  refine T.seq (T.region (T.pk sN (fun _ => by kernel_rfl) (T.nil ?_)))
  obtain rfl : l = [] := by
   cases l with
   | nil => rfl
   | cons x l => exact absurd (hs1.some_ (k := 0) rfl (by decide)) (by decide)
  refine T.rownil 3 eInt ?_
  refine T.ret rfl ?_
  repeat first | refine T.unthen ?_ | refine T.unblock ?_
  exact T.ret1 rfl (ResIs.tmp rfl) fun w' hh => ⟨none, 0, rfl, hh⟩
 | some a =>
  refine T.pk (.bool false) (fun _ => by kernel_rfl) (T.nil ?_)
  refine T.cond false (by kernel_rfl) (by kernel_rfl) (fun h => Bool.noConfusion h) (fun _ => ?_)
  refine T.skip_code ?_
  refine T.seq (T.region (T.step (W1.new 3 [] (fun b => .slice (some ⟨b, 0, none⟩) 0 0) (by kernel_rfl) (fun _ => by kernel_rfl) (fun b1 => ?_))))
  refine T.pk (.slice (some a) l.length c) (fun _ => by kernel_rfl) ?_
  refine (fun (h : T _ _ _ ((row 3 eInt (some ⟨b1, 0, none⟩) 0 ([] : List Int)) :: _) _ _) => (fun a w' hf hh => h a w' hf (hh.fresh_obj _ ⟨rfl, rfl, rfl, Nat.le_refl _, fun _ _ _ => rfl⟩ ⟨Nat.le_refl _, by decide, .inl rfl⟩ (fun b hb => by cases hb)) : T _ _ _ _ _ _)) ?_
  obtain ⟨ti, hti, hz1, hz2, hz3⟩ := ipOwnL_3
  refine T.step (W1.append (E := eInt) (l := ([] : List Int)) (m := l) 0 _ _ 8 ti _ (by rfl) (by kernel_rfl) rfl (by kernel_rfl) hti hz1 hz2 hz3 rfl (by decide) rfl rfl (fun w' hh => (SlOk.srcF (hs w' (hh.sub (dr1 (dr1 kpr)))) (fun _ _ _ _ h => h))) (by simpa +zetaDelta using hr) (by simpa +zetaDelta using hm) (fun A' c' => ?_))
  refine T.pk (.slice A' (([] : List Int) ++ l).length c') (fun _ => by kernel_rfl) (T.nil ?_)
  refine T.ret rfl ?_
  repeat first | refine T.unthen ?_ | refine T.unblock ?_
  exact T.ret1 rfl (ResIs.tmp rfl) fun w' hh => ⟨A', c', rfl, hh.sub (kp1 (dr1 kpr))⟩
set_option maxRecDepth 100000 in
set_option maxHeartbeats 4000000 in
theorem own_delete_Spot (w : World) (V : View) (G : List HObj) (w1 : World) (A : Option Addr) (c : Nat) (l : List DSpot) (i j : Nat) (hij : i < j) (hj : j ≤ l.length)
 (hh : Hp w V (row 43 eSpot A c l :: G) w1) : Calls Try.prog 103 #[.slice A l.length c, .int .i64 (i : Int), .int .i64 (j : Int)] w1 (fun r w2 => ∃ A' c', r = .returned (.slice A' (delAt l i j).length c') ∧ Hp w V (row 43 eSpot A' c' (delAt l i j) :: G) w2) := by
 have hVb := hh.base
 refine T.startI (l := [.slice A l.length c, vi (i : Int), vi (j : Int)]) Try.func103 rfl rfl rfl ?_ hh
 clear hh
 refine T.rowlen 0 rfl (fun hlc hcm => ?_)
 have hne : ((i : Int) == (j : Int)) = false := by rw [beq_eq_false_iff_ne]; omega
 have hld : (l.drop j).length = l.length - j := List.length_drop
 have hcut : lslice l (j : Int) (l.length : Int) = some (l.drop j) := by unfold lslice; rw [if_pos ⟨by omega, by omega, by omega⟩]; simp
 have hol : (over l i (l.drop j)).length = l.length := over_length _ _ _ (by rw [hld]; omega)
 refine T.seq (T.region (T.pk sN (fun _ => by kernel_rfl) (T.nil (T.seq (T.region (T.p5 (.slice A l.length c) (vi (i : Int)) (vi (j : Int)) (.slice A l.length c) (vi (l.length : Int)) (fun _ => by kernel_rfl) (T.step (W1.lookAny (by kernel_rfl) (fun w' hh => exec_slice3 (e := 43) (s := 4) (k := .i64) (k' := .i64) (k'' := .i64) rfl rfl (by kernel_rfl) (by kernel_rfl) rfl rfl rfl (by omega) (by omega) (by omega) (by omega)) (fun v9 => ?_)))))))))
 refine T.nil (T.seq (T.seq (T.region (T.p3 (vi (i : Int)) (vi (j : Int)) (.bool ((i : Int) == (j : Int))) (fun _ => by kernel_rfl) ?_))))
 refine T.reslot 16 (.bool false) rfl (by rw [hne]) ?_
 refine T.nil ?_
 refine T.cond false (by kernel_rfl) (by kernel_rfl) (fun h => Bool.noConfusion h) (fun _ => ?_)
 refine T.skip_code ?_
 refine T.seq (T.region (T.p3 (.slice A l.length c) (vi (l.length : Int)) (vi (l.length : Int)) (fun _ => by kernel_rfl) (T.nil (T.seq ?_))))
 refine T.held [] (by kernel_rfl) ?_
 refine TA.keep (Hp.old vr hVb kp0 ol0) fun o13_ => ?_
 refine TA.tp 0 (.slice A l.length c) rfl (fun _ => by kernel_rfl) (fun _ _ _ h => h) o13_ ?_
 refine TA.tp 1 (vi (i : Int)) rfl (fun _ => by kernel_rfl) (fun _ _ _ h => h) o13_ ?_
 refine TA.tk 2 (.slice (cutA A c 0 4) i c) rfl (by kernel_rfl) (fun _ _ _ h => h) o13_ (fun w' hh => exec_slice_cap (e := 43) (s := 4) (lx := none) (hx := (some _)) (lo := 0) (hi := (i : Int)) (k := .i64) (k' := .i64) rfl rfl (by kernel_rfl) (by kernel_rfl) rfl rfl (by omega) (by omega) (by omega)) ?_
 refine T.reslot 22 (.slice A i c) rfl (by rw [cutA_zero]) ?_
 refine TA.keep (Hp.old vr hVb kp0 ol0) fun o14_ => ?_
 refine TA.tp 3 (.slice A l.length c) rfl (fun _ => by kernel_rfl) (fun _ _ _ h => h) o14_ ?_
 refine TA.tp 4 (vi (j : Int)) rfl (fun _ => by kernel_rfl) (fun _ _ _ h => h) o14_ ?_
 refine TA.tk 5 (.slice (cutA A c j 4) (l.length - j) (c - j)) rfl (by kernel_rfl) (fun _ _ _ h => h) o14_ (fun w' hh => exec_slice_cap (e := 43) (s := 4) (lx := (some _)) (hx := none) (lo := (j : Int)) (hi := (l.length : Int)) (k := .i64) (k' := .i64) rfl rfl (by kernel_rfl) (by kernel_rfl) rfl rfl (by omega) (by omega) (by omega)) ?_
 refine T.reslot 25 (.slice (cutA A c j 4) (l.drop j).length (c - j)) rfl (by rw [hld]) ?_
 obtain ⟨ti, hti, hz1, hz2, hz3⟩ := ipOwnL_2
 refine TA.all [6] (by kernel_rfl) rfl ⟨?_, trivial⟩
 refine TA.br rfl (W1.appendIn (E := eSpot) (l := l) (m := l.drop j) 0 i _ _ ti (by rfl) (by rw [hld]; omega) (by kernel_rfl) rfl (by kernel_rfl) hti hz2 (by decide) rfl rfl (fun w' hh => (SlOk.srcF (SlOk.cut (hh.row_slOk (i := 0) (by rfl)) hcut) (fun _ _ _ _ h => h))) ?_)
 refine TA.onk (Hp.old vr hVb kp0 ol0) fun o15_ => ?_
 refine TA.tp 7 (.slice A (i + (l.drop j).length) c) rfl (fun _ => by kernel_rfl) (fun _ _ _ h => h) o15_ ?_
 refine TA.done (by kernel_rfl) ?_
 refine T.seq (T.region (T.p4 (.slice A (i + (l.drop j).length) c) (.slice A (i + (l.drop j).length) c) (vi (((i + (l.drop j).length) : Nat) : Int)) (vi (l.length : Int)) (fun _ => by kernel_rfl) (T.look (.slice (cutA A c (i + (l.drop j).length) 4) (l.length - (i + (l.drop j).length)) (c - (i + (l.drop j).length))) (by kernel_rfl) (fun w' hh => exec_slice_cap (e := 43) (s := 4) (lx := (some _)) (hx := (some _)) (lo := (((i + (l.drop j).length) : Nat) : Int)) (hi := (l.length : Int)) (k := .i64) (k' := .i64) rfl rfl (by kernel_rfl) (by kernel_rfl) rfl rfl (by omega) (by omega) (by omega)) ?_)))
 refine T.step (W1.clear (E := eSpot) (l := over l i (l.drop j)) (x := (DSpot.mk (DKey.mk 0 0 0) 0)) (z := .agg #[vi 0, vi 0, vi 0, vi 0]) 0 (i + (l.drop j).length) (l.length - (i + (l.drop j).length)) _ (by rfl) (by kernel_rfl) rfl (by kernel_rfl) (fun _ => by kernel_rfl) (fun _ => rfl) rfl (by decide) rfl (by rw [hol]; omega) ?_)
 refine T.nil ?_
 refine T.shrink (l := delAt l i j) 0 (by rfl) (over_del hij hj) ?_
 refine T.seq (T.region (T.p2 (.slice A (i + (l.drop j).length) c) (.slice A (i + (l.drop j).length) c) (fun _ => by kernel_rfl) (T.nil ?_)))
 refine T.ret rfl ?_
 repeat first | refine T.unthen ?_ | refine T.unblock ?_
 exact T.ret1 rfl (ResIs.tmp rfl) fun w' hh => ⟨A, c, by rw [delAt_length hij hj], hh⟩
set_option maxRecDepth 100000 in
set_option maxHeartbeats 4000000 in
theorem own_delete_int (w : World) (V : View) (G : List HObj) (w1 : World) (A : Option Addr) (c : Nat) (l : List Int) (i j : Nat) (hij : i < j) (hj : j ≤ l.length)
 (hh : Hp w V (row 3 eInt A c l :: G) w1) : Calls Try.prog 102 #[.slice A l.length c, .int .i64 (i : Int), .int .i64 (j : Int)] w1 (fun r w2 => ∃ A' c', r = .returned (.slice A' (delAt l i j).length c') ∧ Hp w V (row 3 eInt A' c' (delAt l i j) :: G) w2) := by
 have hVb := hh.base
 refine T.startI (l := [.slice A l.length c, vi (i : Int), vi (j : Int)]) Try.func102 rfl rfl rfl ?_ hh
 clear hh
 refine T.rowlen 0 rfl (fun hlc hcm => ?_)
 have hne : ((i : Int) == (j : Int)) = false := by rw [beq_eq_false_iff_ne]; omega
 have hld : (l.drop j).length = l.length - j := List.length_drop
 have hcut : lslice l (j : Int) (l.length : Int) = some (l.drop j) := by unfold lslice; rw [if_pos ⟨by omega, by omega, by omega⟩]; simp
 have hol : (over l i (l.drop j)).length = l.length := over_length _ _ _ (by rw [hld]; omega)
 refine T.seq (T.region (T.pk sN (fun _ => by kernel_rfl) (T.nil (T.seq (T.region (T.p5 (.slice A l.length c) (vi (i : Int)) (vi (j : Int)) (.slice A l.length c) (vi (l.length : Int)) (fun _ => by kernel_rfl) (T.step (W1.lookAny (by kernel_rfl) (fun w' hh => exec_slice3 (e := 3) (s := 1) (k := .i64) (k' := .i64) (k'' := .i64) rfl rfl (by kernel_rfl) (by kernel_rfl) rfl rfl rfl (by omega) (by omega) (by omega) (by omega)) (fun v9 => ?_)))))))))
 refine T.nil (T.seq (T.seq (T.region (T.p3 (vi (i : Int)) (vi (j : Int)) (.bool ((i : Int) == (j : Int))) (fun _ => by kernel_rfl) ?_))))
 refine T.reslot 16 (.bool false) rfl (by rw [hne]) ?_
 refine T.nil ?_
 refine T.cond false (by kernel_rfl) (by kernel_rfl) (fun h => Bool.noConfusion h) (fun _ => ?_)
 refine T.skip_code ?_
 refine T.seq (T.region (T.p3 (.slice A l.length c) (vi (l.length : Int)) (vi (l.length : Int)) (fun _ => by kernel_rfl) (T.nil (T.seq ?_))))
 refine T.held [] (by kernel_rfl) ?_
 refine TA.keep (Hp.old vr hVb kp0 ol0) fun o16_ => ?_
 refine TA.tp 0 (.slice A l.length c) rfl (fun _ => by kernel_rfl) (fun _ _ _ h => h) o16_ ?_
 refine TA.tp 1 (vi (i : Int)) rfl (fun _ => by kernel_rfl) (fun _ _ _ h => h) o16_ ?_
 refine TA.tk 2 (.slice (cutA A c 0 1) i c) rfl (by kernel_rfl) (fun _ _ _ h => h) o16_ (fun w' hh => exec_slice_cap (e := 3) (s := 1) (lx := none) (hx := (some _)) (lo := 0) (hi := (i : Int)) (k := .i64) (k' := .i64) rfl rfl (by kernel_rfl) (by kernel_rfl) rfl rfl (by omega) (by omega) (by omega)) ?_
 refine T.reslot 22 (.slice A i c) rfl (by rw [cutA_zero]) ?_
 refine TA.keep (Hp.old vr hVb kp0 ol0) fun o17_ => ?_
 refine TA.tp 3 (.slice A l.length c) rfl (fun _ => by kernel_rfl) (fun _ _ _ h => h) o17_ ?_
 refine TA.tp 4 (vi (j : Int)) rfl (fun _ => by kernel_rfl) (fun _ _ _ h => h) o17_ ?_
 refine TA.tk 5 (.slice (cutA A c j 1) (l.length - j) (c - j)) rfl (by kernel_rfl) (fun _ _ _ h => h) o17_ (fun w' hh => exec_slice_cap (e := 3) (s := 1) (lx := (some _)) (hx := none) (lo := (j : Int)) (hi := (l.length : Int)) (k := .i64) (k' := .i64) rfl rfl (by kernel_rfl) (by kernel_rfl) rfl rfl (by omega) (by omega) (by omega)) ?_
 refine T.reslot 25 (.slice (cutA A c j 1) (l.drop j).length (c - j)) rfl (by rw [hld]) ?_
 obtain ⟨ti, hti, hz1, hz2, hz3⟩ := ipOwnL_3
 refine TA.all [6] (by kernel_rfl) rfl ⟨?_, trivial⟩
 refine TA.br rfl (W1.appendIn (E := eInt) (l := l) (m := l.drop j) 0 i _ _ ti (by rfl) (by rw [hld]; omega) (by kernel_rfl) rfl (by kernel_rfl) hti hz2 (by decide) rfl rfl (fun w' hh => (SlOk.srcF (SlOk.cut (hh.row_slOk (i := 0) (by rfl)) hcut) (fun _ _ _ _ h => h))) ?_)
 refine TA.onk (Hp.old vr hVb kp0 ol0) fun o18_ => ?_
 refine TA.tp 7 (.slice A (i + (l.drop j).length) c) rfl (fun _ => by kernel_rfl) (fun _ _ _ h => h) o18_ ?_
 refine TA.done (by kernel_rfl) ?_
 refine T.seq (T.region (T.p4 (.slice A (i + (l.drop j).length) c) (.slice A (i + (l.drop j).length) c) (vi (((i + (l.drop j).length) : Nat) : Int)) (vi (l.length : Int)) (fun _ => by kernel_rfl) (T.look (.slice (cutA A c (i + (l.drop j).length) 1) (l.length - (i + (l.drop j).length)) (c - (i + (l.drop j).length))) (by kernel_rfl) (fun w' hh => exec_slice_cap (e := 3) (s := 1) (lx := (some _)) (hx := (some _)) (lo := (((i + (l.drop j).length) : Nat) : Int)) (hi := (l.length : Int)) (k := .i64) (k' := .i64) rfl rfl (by kernel_rfl) (by kernel_rfl) rfl rfl (by omega) (by omega) (by omega)) ?_)))
 refine T.step (W1.clear (E := eInt) (l := over l i (l.drop j)) (x := 0) (z := vi 0) 0 (i + (l.drop j).length) (l.length - (i + (l.drop j).length)) _ (by rfl) (by kernel_rfl) rfl (by kernel_rfl) (fun _ => by kernel_rfl) (fun _ => rfl) rfl (by decide) rfl (by rw [hol]; omega) ?_)
 refine T.nil ?_
 refine T.shrink (l := delAt l i j) 0 (by rfl) (over_del hij hj) ?_
 refine T.seq (T.region (T.p2 (.slice A (i + (l.drop j).length) c) (.slice A (i + (l.drop j).length) c) (fun _ => by kernel_rfl) (T.nil ?_)))
 refine T.ret rfl ?_
 repeat first | refine T.unthen ?_ | refine T.unblock ?_
 exact T.ret1 rfl (ResIs.tmp rfl) fun w' hh => ⟨A, c, by rw [delAt_length hij hj], hh⟩
end Go.Proofs.Ytcmkdoahkncakaa
