/- What slices.Insert and slices.Delete do to rows of the call's own, written by ownlib.py. Conditions of each: the row is the call's own, the place lies within it, there is room for one more. -/
import Derived.Test.YtcmkdoahkncakaaSh2Q
import Derived.Test.YtcmkdoahkncakaaEqLQ
import Derived.Test.YtcmkdoahkncakaaInsQ
import Derived.Test.YtcmkdoahkncakaaRecQ
namespace Go.Proofs.Ytcmkdoahkncakaa
open Go.RowKit
set_option linter.unusedVariables false
set_option linter.defProp false
def ipOwnL_1 := info_parts (P := Try.prog) (e := 28) (z := .agg #[.int .i64 0, .int .i64 0, .int .i64 0, .int .i64 0, .int .i64 0, .string (ByteArray.mk #[])]) (size := 6) (bytes := 56) (by kernel_rfl)
def ipOwnL_2 := info_parts (P := Try.prog) (e := 43) (z := .agg #[.int .i64 0, .int .i64 0, .int .i64 0, .int .i64 0]) (size := 4) (bytes := 32) (by kernel_rfl)
def ipOwnL_3 := info_parts (P := Try.prog) (e := 3) (z := .int .i64 0) (size := 1) (bytes := 8) (by kernel_rfl)
set_option maxRecDepth 100000 in
set_option maxHeartbeats 4000000 in
theorem own_clone_Elem (w : World) (V : View) (H : List HObj) (w1 : World) (A : Option Addr) (c : Nat) (l : List DElem) (hs : ∀ w', Hp w V H w' → SlOk (vw w') eElem A c l) (hr : room l.length 56 = true) (hm : l.length ≤ maxLen)
 (hh : Hp w V H w1) : Calls Try.prog 36 #[.slice A l.length c] w1 (fun r w2 => ∃ A' c', r = .returned (.slice A' l.length c') ∧ Hp w V (row 28 eElem A' c' l :: H) w2) := by
 have hs1 := hs _ hh
 refine T.startI (l := [.slice A l.length c]) Try.func36 rfl rfl rfl ?_ hh
 clear hh
 refine T.seq (T.region (T.pk sN (fun _ => by kernel_rfl) (T.nil (T.seq (T.seq (T.region (T.pk (.slice A l.length c) (fun _ => by kernel_rfl) ?_)))))))
 cases A with
 | none =>
  refine T.pk (.bool true) (fun _ => by kernel_rfl) (T.nil ?_)
  refine T.cond true (by kernel_rfl) (by kernel_rfl) (fun _ => ?_) (fun h => Bool.noConfusion h)
  refine T.seq (T.region (T.pk sN (fun _ => by kernel_rfl) (T.nil ?_)))
  obtain rfl : l = [] := by
   cases l with
   | nil => rfl
   | cons x l => exact absurd (hs1.some_ (k := 0) rfl (by decide)) (by decide)
  refine T.rownil 28 eElem ?_
  refine T.ret rfl ?_
  repeat first | refine T.unthen ?_ | refine T.unblock ?_
  exact T.ret1 rfl (ResIs.tmp rfl) fun w' hh => ⟨none, 0, rfl, hh⟩
 | some a =>
  refine T.pk (.bool false) (fun _ => by kernel_rfl) (T.nil ?_)
  refine T.cond false (by kernel_rfl) (by kernel_rfl) (fun h => Bool.noConfusion h) (fun _ => ?_)
  refine T.skip_code ?_
  refine T.seq (T.region (T.step (W1.new 28 [] (fun b => .slice (some ⟨b, 0, none⟩) 0 0) (by kernel_rfl) (fun _ => by kernel_rfl) (fun b1 => ?_))))
  refine T.pk (.slice (some a) l.length c) (fun _ => by kernel_rfl) ?_
  refine (fun (h : T _ _ _ ((row 28 eElem (some ⟨b1, 0, none⟩) 0 ([] : List DElem)) :: _) _ _) => (fun a w' hf hh => h a w' hf (hh.fresh_obj _ ⟨rfl, rfl, rfl, Nat.le_refl _, fun _ _ _ => rfl⟩ ⟨Nat.le_refl _, by decide, .inl rfl⟩ (fun b hb => by cases hb)) : T _ _ _ _ _ _)) ?_
  obtain ⟨ti, hti, hz1, hz2, hz3⟩ := ipOwnL_1
  refine T.step (W1.append (E := eElem) (l := ([] : List DElem)) (m := l) 0 _ _ 56 ti _ (by rfl) (by kernel_rfl) rfl (by kernel_rfl) hti hz1 hz2 hz3 rfl (by decide) rfl rfl (fun w' hh => (SlOk.srcF (hs w' (hh.sub (dr1 (dr1 kpr)))) (fun _ _ _ _ h => h))) (by simpa +zetaDelta using hr) (by simpa +zetaDelta using hm) (fun A' c' => ?_))
  refine T.pk (.slice A' (([] : List DElem) ++ l).length c') (fun _ => by kernel_rfl) (T.nil ?_)
  refine T.ret rfl ?_
  repeat first | refine T.unthen ?_ | refine T.unblock ?_
  exact T.ret1 rfl (ResIs.tmp rfl) fun w' hh => ⟨A', c', rfl, hh.sub (kp1 (dr1 kpr))⟩
set_option maxRecDepth 100000 in
set_option maxHeartbeats 4000000 in
theorem own_clone_Spot (w : World) (V : View) (H : List HObj) (w1 : World) (A : Option Addr) (c : Nat) (l : List DSpot) (hs : ∀ w', Hp w V H w' → SlOk (vw w') eSpot A c l) (hr : room l.length 32 = true) (hm : l.length ≤ maxLen)
 (hh : Hp w V H w1) : Calls Try.prog 111 #[.slice A l.length c] w1 (fun r w2 => ∃ A' c', r = .returned (.slice A' l.length c') ∧ Hp w V (row 43 eSpot A' c' l :: H) w2) := by
 have hs1 := hs _ hh
 refine T.startI (l := [.slice A l.length c]) Try.func111 rfl rfl rfl ?_ hh
 clear hh
 refine T.seq (T.region (T.pk sN (fun _ => by kernel_rfl) (T.nil (T.seq (T.seq (T.region (T.pk (.slice A l.length c) (fun _ => by kernel_rfl) ?_)))))))
 cases A with
 | none =>
  refine T.pk (.bool true) (fun _ => by kernel_rfl) (T.nil ?_)
  refine T.cond true (by kernel_rfl) (by kernel_rfl) (fun _ => ?_) (fun h => Bool.noConfusion h)
  refine T.seq (T.region (T.pk sN (fun _ => by kernel_rfl) (T.nil ?_)))
  obtain rfl : l = [] := by
   cases l with
   | nil => rfl
   | cons x l => exact absurd (hs1.some_ (k := 0) rfl (by decide)) (by decide)
  refine T.rownil 43 eSpot ?_
  refine T.ret rfl ?_
  repeat first | refine T.unthen ?_ | refine T.unblock ?_
  exact T.ret1 rfl (ResIs.tmp rfl) fun w' hh => ⟨none, 0, rfl, hh⟩
 | some a =>
  refine T.pk (.bool false) (fun _ => by kernel_rfl) (T.nil ?_)
  refine T.cond false (by kernel_rfl) (by kernel_rfl) (fun h => Bool.noConfusion h) (fun _ => ?_)
  refine T.skip_code ?_
  refine T.seq (T.region (T.step (W1.new 43 [] (fun b => .slice (some ⟨b, 0, none⟩) 0 0) (by kernel_rfl) (fun _ => by kernel_rfl) (fun b1 => ?_))))
  refine T.pk (.slice (some a) l.length c) (fun _ => by kernel_rfl) ?_
  refine (fun (h : T _ _ _ ((row 43 eSpot (some ⟨b1, 0, none⟩) 0 ([] : List DSpot)) :: _) _ _) => (fun a w' hf hh => h a w' hf (hh.fresh_obj _ ⟨rfl, rfl, rfl, Nat.le_refl _, fun _ _ _ => rfl⟩ ⟨Nat.le_refl _, by decide, .inl rfl⟩ (fun b hb => by cases hb)) : T _ _ _ _ _ _)) ?_
  obtain ⟨ti, hti, hz1, hz2, hz3⟩ := ipOwnL_2
  refine T.step (W1.append (E := eSpot) (l := ([] : List DSpot)) (m := l) 0 _ _ 32 ti _ (by rfl) (by kernel_rfl) rfl (by kernel_rfl) hti hz1 hz2 hz3 rfl (by decide) rfl rfl (fun w' hh => (SlOk.srcF (hs w' (hh.sub (dr1 (dr1 kpr)))) (fun _ _ _ _ h => h))) (by simpa +zetaDelta using hr) (by simpa +zetaDelta using hm) (fun A' c' => ?_))
  refine T.pk (.slice A' (([] : List DSpot) ++ l).length c') (fun _ => by kernel_rfl) (T.nil ?_)
  refine T.ret rfl ?_
  repeat first | refine T.unthen ?_ | refine T.unblock ?_
  exact T.ret1 rfl (ResIs.tmp rfl) fun w' hh => ⟨A', c', rfl, hh.sub (kp1 (dr1 kpr))⟩
set_option maxRecDepth 100000 in
set_option maxHeartbeats 4000000 in
theorem own_clone_int (w : World) (V : View) (H : List HObj) (w1 : World) (A : Option Addr) (c : Nat) (l : List Int) (hs : ∀ w', Hp w V H w' → SlOk (vw w') eInt A c l) (hr : room l.length 8 = true) (hm : l.length ≤ maxLen)
 (hh : Hp w V H w1) : Calls Try.prog 110 #[.slice A l.length c] w1 (fun r w2 => ∃ A' c', r = .returned (.slice A' l.length c') ∧ Hp w V (row 3 eInt A' c' l :: H) w2) := by
 have hs1 := hs _ hh
 refine T.startI (l := [.slice A l.length c]) Try.func110 rfl rfl rfl ?_ hh
 clear hh
 refine T.seq (T.region (T.pk sN (fun _ => by kernel_rfl) (T.nil (T.seq (T.seq (T.region (T.pk (.slice A l.length c) (fun _ => by kernel_rfl) ?_)))))))
 cases A with
 | none =>
  refine T.pk (.bool true) (fun _ => by kernel_rfl) (T.nil ?_)
  refine T.cond true (by kernel_rfl) (by kernel_rfl) (fun _ => ?_) (fun h => Bool.noConfusion h)
  refine T.seq (T.region (T.pk sN (fun _ => by kernel_rfl) (T.nil ?_)))
  obtain rfl : l = [] := by
   cases l with
   | nil => rfl
   | cons x l => exact absurd (hs1.some_ (k := 0) rfl (by decide)) (by decide)
  refine T.rownil 3 eInt ?_
  refine T.ret rfl ?_
  repeat first | refine T.unthen ?_ | refine T.unblock ?_
  exact T.ret1 rfl (ResIs.tmp rfl) fun w' hh => ⟨none, 0, rfl, hh⟩
 | some a =>
  refine T.pk (.bool false) (fun _ => by kernel_rfl) (T.nil ?_)
  refine T.cond false (by kernel_rfl) (by kernel_rfl) (fun h => Bool.noConfusion h) (fun _ => ?_)
  refine T.skip_code ?_
  refine T.seq (T.region (T.step (W1.new 3 [] (fun b => .slice (some ⟨b, 0, none⟩) 0 0) (by kernel_rfl) (fun _ => by kernel_rfl) (fun b1 => ?_))))
  refine T.pk (.slice (some a) l.length c) (fun _ => by kernel_rfl) ?_
  refine (fun (h : T _ _ _ ((row 3 eInt (some ⟨b1, 0, none⟩) 0 ([] : List Int)) :: _) _ _) => (fun a w' hf hh => h a w' hf (hh.fresh_obj _ ⟨rfl, rfl, rfl, Nat.le_refl _, fun _ _ _ => rfl⟩ ⟨Nat.le_refl _, by decide, .inl rfl⟩ (fun b hb => by cases hb)) : T _ _ _ _ _ _)) ?_
  obtain ⟨ti, hti, hz1, hz2, hz3⟩ := ipOwnL_3
  refine T.step (W1.append (E := eInt) (l := ([] : List Int)) (m := l) 0 _ _ 8 ti _ (by rfl) (by kernel_rfl) rfl (by kernel_rfl) hti hz1 hz2 hz3 rfl (by decide) rfl rfl (fun w' hh => (SlOk.srcF (hs w' (hh.sub (dr1 (dr1 kpr)))) (fun _ _ _ _ h => h))) (by simpa +zetaDelta using hr) (by simpa +zetaDelta using hm) (fun A' c' => ?_))
  refine T.pk (.slice A' (([] : List Int) ++ l).length c') (fun _ => by kernel_rfl) (T.nil ?_)
  refine T.ret rfl ?_
  repeat first | refine T.unthen ?_ | refine T.unblock ?_
  exact T.ret1 rfl (ResIs.tmp rfl) fun w' hh => ⟨A', c', rfl, hh.sub (kp1 (dr1 kpr))⟩
set_option maxRecDepth 100000 in
set_option maxHeartbeats 4000000 in
theorem own_insert_Elem (w : World) (V : View) (G : List HObj) (w1 : World) (A : Option Addr) (c : Nat) (l : List DElem) (k b tb : Nat) (x : DElem) (hk : k ≤ l.length) (hr : room (l.length + 1) 56 = true) (hm : l.length + 1 ≤ maxLen)
 (hh : Hp w V (row 28 eElem A c l :: box b tb (DElem.cells x) :: G) w1) : Calls Try.prog 96 #[.slice A l.length c, .int .i64 (k : Int), .slice (some ⟨b, 0, none⟩) 1 1] w1 (fun r w2 => ∃ A' c', r = .returned (.slice A' (insAt l k x).length c') ∧ Hp w V (row 28 eElem A' c' (insAt l k x) :: box b tb (DElem.cells x) :: G) w2) := by
 have hVb := hh.base
 have hM : l.length + 1 ≤ 9223372036854775807 := Nat.le_trans hm (by decide)
 have hw1 : IntKind.i64.wrap ((l.length : Int) + 1) = ((l.length + 1 : Nat) : Int) := by rw [IntKind.wrap_i64]; omega
 have hw2 : IntKind.i64.wrap ((k : Int) + 1) = ((k + 1 : Nat) : Int) := by rw [IntKind.wrap_i64]; omega
 have hw3 : IntKind.i64.wrap (((l.length + 1 : Nat) : Int) - (k : Int)) = ((l.length + 1 - k : Nat) : Int) := by rw [IntKind.wrap_i64]; omega
 refine T.startI (l := [.slice A l.length c, vi (k : Int), .slice (some ⟨b, 0, none⟩) 1 1]) Try.func96 rfl rfl rfl ?_ hh
 clear hh
 refine T.rowlen 0 rfl (fun hlc hcm => ?_)
 refine T.seq (T.region (T.pk sN (fun _ => by kernel_rfl) (T.nil (T.seq (T.region (T.p2 (.slice A l.length c) (vi (k : Int)) (fun _ => by kernel_rfl) (T.look (.slice (cutA A c k 6) (l.length - k) (c - k)) (by kernel_rfl) (fun w' hh => exec_slice_cap (e := 28) (s := 6) (lx := (some _)) (hx := none) (lo := (k : Int)) (hi := (l.length : Int)) (k := .i64) (k' := .i64) rfl rfl (by kernel_rfl) (by kernel_rfl) rfl rfl (by omega) (by omega) (by omega)) ?_)))))))
 refine T.nil (T.seq (T.region (T.p3 (.slice (some ⟨b, 0, none⟩) 1 1) (vi 1) (vi 1) (fun _ => by kernel_rfl) (T.nil (T.seq (T.seq (T.region (T.p2 (vi 1) (.bool false) (fun _ => by kernel_rfl) (T.nil ?_)))))))))
 refine T.cond false (by kernel_rfl) (by kernel_rfl) (fun h => Bool.noConfusion h) (fun _ => ?_)
 refine T.skip_code ?_
 refine T.seq (T.region (T.p3 (.slice A l.length c) (vi (l.length : Int)) (vi (l.length : Int)) (fun _ => by kernel_rfl) (T.nil (T.seq (T.seq (T.region (T.p3 (vi (k : Int)) (vi (l.length : Int)) (.bool ((k : Int) == (l.length : Int))) (fun _ => by kernel_rfl) (T.nil ?_))))))))
 refine T.cond ((k : Int) == (l.length : Int)) (by kernel_rfl) (by kernel_rfl) (fun hc => ?_) (fun hc => ?_)
 · have hke : k = l.length := by have := eq_of_beq hc; omega
   subst hke
   refine T.seq (T.region (T.p2 (.slice A l.length c) (.slice (some ⟨b, 0, none⟩) 1 1) (fun _ => by kernel_rfl) ?_))
   obtain ⟨ti, hti, hz1, hz2, hz3⟩ := ipOwnL_1
   refine T.step (W1.append (E := eElem) (l := l) (m := [x]) 0 _ _ 56 ti _ (by rfl) (by kernel_rfl) rfl (by kernel_rfl) hti hz1 hz2 hz3 rfl (by decide) rfl rfl (fun w' hh => (SlOk.srcF (slok_lit (E := eElem) (f := DElem.cells) [x] (fun _ _ => rfl) (Nat.le_of_ble_eq_true (by rfl)) (fun j => hh.cellBox (i := 1) (by rfl) j)) (fun _ _ _ _ h => h))) hr hm (fun A' c' => ?_))
   refine T.pk (.slice A' (l ++ [x]).length c') (fun _ => by kernel_rfl) (T.nil ?_)
   refine T.ret rfl ?_
   repeat first | refine T.unthen ?_ | refine T.unblock ?_
   exact T.ret1 rfl (ResIs.tmp rfl) fun w' hh => ⟨A', c', by rw [insAt_end], by rw [insAt_end]; exact hh⟩
 have hkn : k < l.length := by have : ¬ ((k : Int) = (l.length : Int)) := ne_of_beq_false hc; omega
 refine T.skip_code ?_
 refine T.seq (T.seq (T.region (T.p3 (vi (l.length : Int)) (vi 1) (vi (IntKind.i64.wrap ((l.length : Int) + 1))) (fun _ => by kernel_rfl) ?_)))
 refine T.reslot 28 (vi ((l.length + 1 : Nat) : Int)) rfl (by rw [hw1]) ?_
 refine T.p3 (.slice A l.length c) (vi (c : Int)) (.bool (decide ((c : Int) < ((l.length + 1 : Nat) : Int)))) (fun _ => by kernel_rfl) (T.nil ?_)
 refine T.cond (decide ((c : Int) < ((l.length + 1 : Nat) : Int))) (by kernel_rfl) (by kernel_rfl) (fun hc => ?_) (fun hc => ?_)
 · have hg : c < k + (l.length + 1 - k) := by have := of_decide_eq_true hc; omega
   have hL1 : (l.take k ++ List.replicate (l.length + 1 - k) ((DElem.mk (DKey.mk 0 0 0) 0 0 (ByteArray.mk #[])))).length = l.length + 1 := by simp only [List.length_append, List.length_take, List.length_replicate]; omega
   refine T.seq (T.region (T.p2 (.slice A l.length c) (vi (k : Int)) (fun _ => by kernel_rfl) (T.look (.slice (cutA A c 0 6) k c) (by kernel_rfl) (fun w' hh => exec_slice_cap (e := 28) (s := 6) (lx := none) (hx := (some _)) (lo := 0) (hi := (k : Int)) (k := .i64) (k' := .i64) rfl rfl (by kernel_rfl) (by kernel_rfl) rfl rfl (by omega) (by omega) (by omega)) ?_)))
   refine T.reslot 34 (.slice A k c) rfl (by rw [cutA_zero]) ?_
   refine T.p3 (vi (l.length : Int)) (vi 1) (vi (IntKind.i64.wrap ((l.length : Int) + 1))) (fun _ => by kernel_rfl) ?_
   refine T.reslot 37 (vi ((l.length + 1 : Nat) : Int)) rfl (by rw [hw1]) ?_
   refine T.p2 (vi (k : Int)) (vi (IntKind.i64.wrap (((l.length + 1 : Nat) : Int) - (k : Int)))) (fun _ => by kernel_rfl) ?_
   refine T.reslot 39 (vi ((l.length + 1 - k : Nat) : Int)) rfl (by rw [hw3]) ?_
   obtain ⟨ti, hti, hz1, hz2, hz3⟩ := ipOwnL_1
   refine T.step (W1.growzTo (E := eElem) (x := (DElem.mk (DKey.mk 0 0 0) 0 0 (ByteArray.mk #[]))) (z := .agg #[vi 0, vi 0, vi 0, vi 0, vi 0, .string (ByteArray.mk #[])]) (kn := .i64) 0 k (l.length + 1 - k) _ _ 56 ti (by rfl) hk (by omega) (by omega) hg (by kernel_rfl) rfl (by kernel_rfl) (by kernel_rfl) hti hz1 hz2 hz3 (fun _ => rfl) rfl (by decide) rfl rfl (by rw [show k + (l.length + 1 - k) = l.length + 1 by omega]; exact hr) (by omega) (fun A' c' => ?_))
   refine T.pk (.slice A' (l.take k ++ List.replicate (l.length + 1 - k) ((DElem.mk (DKey.mk 0 0 0) 0 0 (ByteArray.mk #[])))).length c') (fun _ => by kernel_rfl) (T.nil ?_)
   refine T.rowlen 0 rfl (fun hlc' hcm' => ?_)
   refine T.seq (T.region (T.p2 (.slice A' (l.take k ++ List.replicate (l.length + 1 - k) ((DElem.mk (DKey.mk 0 0 0) 0 0 (ByteArray.mk #[])))).length c') (vi (k : Int)) (fun _ => by kernel_rfl) (T.look (.slice (cutA A' c' k 6) ((l.take k ++ List.replicate (l.length + 1 - k) ((DElem.mk (DKey.mk 0 0 0) 0 0 (ByteArray.mk #[])))).length - k) (c' - k)) (by kernel_rfl) (fun w' hh => exec_slice_cap (e := 28) (s := 6) (lx := (some _)) (hx := none) (lo := (k : Int)) (hi := (((l.take k ++ List.replicate (l.length + 1 - k) ((DElem.mk (DKey.mk 0 0 0) 0 0 (ByteArray.mk #[])))).length : Nat) : Int)) (k := .i64) (k' := .i64) rfl rfl (by kernel_rfl) (by kernel_rfl) rfl rfl (by omega) (by omega) (by omega)) ?_)))
   refine T.pk (.slice (some ⟨b, 0, none⟩) 1 1) (fun _ => by kernel_rfl) (T.step (W1.copy (E := eElem) (l := (l.take k ++ List.replicate (l.length + 1 - k) ((DElem.mk (DKey.mk 0 0 0) 0 0 (ByteArray.mk #[]))))) (m := [x]) 0 k ((l.take k ++ List.replicate (l.length + 1 - k) ((DElem.mk (DKey.mk 0 0 0) 0 0 (ByteArray.mk #[])))).length - k) _ _ (by rfl) (by kernel_rfl) rfl (by kernel_rfl) (fun _ => by kernel_rfl) (by decide) rfl rfl (by omega) (fun w' hh => (SlOk.srcF (slok_lit (E := eElem) (f := DElem.cells) [x] (fun _ _ => rfl) (Nat.le_of_ble_eq_true (by rfl)) (fun j => hh.cellBox (i := 2) (by rfl) j)) (fun _ _ _ _ h => h))) ?_))
   refine T.nil ?_
   have hL2 : (over (l.take k ++ List.replicate (l.length + 1 - k) ((DElem.mk (DKey.mk 0 0 0) 0 0 (ByteArray.mk #[])))) k ([x].take ((l.take k ++ List.replicate (l.length + 1 - k) ((DElem.mk (DKey.mk 0 0 0) 0 0 (ByteArray.mk #[])))).length - k))).length = (l.take k ++ List.replicate (l.length + 1 - k) ((DElem.mk (DKey.mk 0 0 0) 0 0 (ByteArray.mk #[])))).length := over_length _ _ _ (by rw [List.length_take]; have : [x].length = 1 := rfl; omega)
   have hld : (l.drop k).length = l.length - k := List.length_drop
   have hcut : lslice l (k : Int) (l.length : Int) = some (l.drop k) := by unfold lslice; rw [if_pos ⟨by omega, by omega, by omega⟩]; simp
   refine T.seq ?_
   refine T.held [] (by kernel_rfl) ?_
   refine TA.keep (Hp.old vr hVb kp0 ol0) fun o1_ => ?_
   refine TA.tp 0 (.slice A' (l.take k ++ List.replicate (l.length + 1 - k) ((DElem.mk (DKey.mk 0 0 0) 0 0 (ByteArray.mk #[])))).length c') rfl (fun _ => by kernel_rfl) (fun _ _ _ h => h) o1_ ?_
   refine TA.tp 1 (vi (k : Int)) rfl (fun _ => by kernel_rfl) (fun _ _ _ h => h) o1_ ?_
   refine TA.tp 2 (vi 1) rfl (fun _ => by kernel_rfl) (fun _ _ _ h => h) o1_ ?_
   refine TA.tp 3 (vi (IntKind.i64.wrap ((k : Int) + 1))) rfl (fun _ => by kernel_rfl) (fun _ _ _ h => h) o1_ ?_
   refine T.reslot 49 (vi ((k + 1 : Nat) : Int)) rfl (by rw [hw2]) ?_
   refine TA.keep (Hp.old vr hVb kp0 ol0) fun o2_ => ?_
   refine TA.tk 4 (.slice (cutA A' c' (k + 1) 6) ((l.take k ++ List.replicate (l.length + 1 - k) ((DElem.mk (DKey.mk 0 0 0) 0 0 (ByteArray.mk #[])))).length - (k + 1)) (c' - (k + 1))) rfl (by kernel_rfl) (fun _ _ _ h => h) o2_ (fun w' hh => exec_slice_cap (e := 28) (s := 6) (lx := (some _)) (hx := none) (lo := ((k + 1 : Nat) : Int)) (hi := (((l.take k ++ List.replicate (l.length + 1 - k) ((DElem.mk (DKey.mk 0 0 0) 0 0 (ByteArray.mk #[])))).length : Nat) : Int)) (k := .i64) (k' := .i64) rfl rfl (by kernel_rfl) (by kernel_rfl) rfl rfl (by omega) (by omega) (by omega)) ?_
   refine TA.tp 5 (.slice A l.length c) rfl (fun _ => by kernel_rfl) (fun _ _ _ h => h) o2_ ?_
   refine TA.tp 6 (vi (k : Int)) rfl (fun _ => by kernel_rfl) (fun _ _ _ h => h) o2_ ?_
   refine TA.tk 7 (.slice (cutA A c k 6) (l.length - k) (c - k)) rfl (by kernel_rfl) (fun _ _ _ h => h) o2_ (fun w' hh => exec_slice_cap (e := 28) (s := 6) (lx := (some _)) (hx := none) (lo := (k : Int)) (hi := (l.length : Int)) (k := .i64) (k' := .i64) rfl rfl (by kernel_rfl) (by kernel_rfl) rfl rfl (by omega) (by omega) (by omega)) ?_
   refine T.reslot 53 (.slice (cutA A c k 6) (l.drop k).length (c - k)) rfl (by rw [hld]) ?_
   refine TA.all [8] (by kernel_rfl) rfl ⟨?_, trivial⟩
   refine TA.br rfl (W1.copy (E := eElem) (l := over (l.take k ++ List.replicate (l.length + 1 - k) ((DElem.mk (DKey.mk 0 0 0) 0 0 (ByteArray.mk #[])))) k ([x].take ((l.take k ++ List.replicate (l.length + 1 - k) ((DElem.mk (DKey.mk 0 0 0) 0 0 (ByteArray.mk #[])))).length - k))) (m := l.drop k) 0 (k + 1) ((l.take k ++ List.replicate (l.length + 1 - k) ((DElem.mk (DKey.mk 0 0 0) 0 0 (ByteArray.mk #[])))).length - (k + 1)) _ _ (by rfl) (by kernel_rfl) rfl (by kernel_rfl) (fun _ => by kernel_rfl) (by decide) rfl rfl (by rw [hL2]; omega) (fun w' hh => (SlOk.srcF (SlOk.cut (hh.row_slOk (i := 1) (by rfl)) hcut) (fun _ _ _ _ h => h))) ?_)
   refine TA.on (Hp.old vr hVb kp0 ol0) ?_
   refine TA.done (by kernel_rfl) ?_
   refine T.reH (H' := (row 28 eElem A' c' (insAt l k x) :: row 28 eElem A c l :: box b tb (DElem.cells x) :: G)) (congrArg (fun q => row 28 eElem A' c' q :: row 28 eElem A c l :: box b tb (DElem.cells x) :: G) (over_ins2 x _ hkn (by omega) (by omega))) ?_
   refine T.seq (T.region (T.p2 (.slice A' (l.take k ++ List.replicate (l.length + 1 - k) ((DElem.mk (DKey.mk 0 0 0) 0 0 (ByteArray.mk #[])))).length c') (.slice A' (l.take k ++ List.replicate (l.length + 1 - k) ((DElem.mk (DKey.mk 0 0 0) 0 0 (ByteArray.mk #[])))).length c') (fun _ => by kernel_rfl) (T.nil ?_)))
   refine T.ret rfl ?_
   repeat first | refine T.unthen ?_ | refine T.unblock ?_
   exact T.ret1 rfl (ResIs.tmp rfl) fun w' hh => ⟨A', c', by rw [insAt_length x hk, hL1], hh.sub (kp1 (dr1 kpr))⟩
 have hroom : l.length + 1 ≤ c := by have := of_decide_eq_false hc; omega
 have hld : (l.drop k).length = l.length - k := List.length_drop
 have hcut : lslice l (k : Int) (l.length : Int) = some (l.drop k) := by unfold lslice; rw [if_pos ⟨by omega, by omega, by omega⟩]; simp
 have hlt : (l.take (k + 1)).length = k + 1 := by rw [List.length_take]; omega
 have hl3 : (l.take (k + 1) ++ l.drop k).length = l.length + 1 := by rw [List.length_append, hlt, hld]; omega
 refine T.skip_code ?_
 refine T.seq (T.region (T.p4 (.slice A l.length c) (vi (l.length : Int)) (vi 1) (vi (IntKind.i64.wrap ((l.length : Int) + 1))) (fun _ => by kernel_rfl) ?_))
 refine T.reslot 59 (vi ((l.length + 1 : Nat) : Int)) rfl (by rw [hw1]) ?_
 refine T.look (.slice (cutA A c 0 6) (l.length + 1) c) (by kernel_rfl) (fun w' hh => exec_slice_cap (e := 28) (s := 6) (lx := none) (hx := (some _)) (lo := 0) (hi := ((l.length + 1 : Nat) : Int)) (k := .i64) (k' := .i64) rfl rfl (by kernel_rfl) (by kernel_rfl) rfl rfl (by omega) (by omega) (by omega)) ?_
 refine T.reslot 60 (.slice A (l.length + 1) c) rfl (by rw [cutA_zero]) ?_
 refine T.pk (.slice A (l.length + 1) c) (fun _ => by kernel_rfl) (T.nil (T.seq (T.seq (T.region (T.p5 (.slice (some ⟨b, 0, none⟩) 1 1) (.slice A (l.length + 1) c) (vi (k : Int)) (vi 1) (vi (IntKind.i64.wrap ((k : Int) + 1))) (fun _ => by kernel_rfl) ?_)))))
 refine T.reslot 65 (vi ((k + 1 : Nat) : Int)) rfl (by rw [hw2]) ?_
 refine T.look (.slice (cutA A c (k + 1) 6) (l.length + 1 - (k + 1)) (c - (k + 1))) (by kernel_rfl) (fun w' hh => exec_slice_cap (e := 28) (s := 6) (lx := (some _)) (hx := none) (lo := ((k + 1 : Nat) : Int)) (hi := ((l.length + 1 : Nat) : Int)) (k := .i64) (k' := .i64) rfl rfl (by kernel_rfl) (by kernel_rfl) rfl rfl (by omega) (by omega) (by omega)) ?_
 refine T.look (.bool false) (by kernel_rfl) (fun w' hh => exec_overlaps (E := eElem) (e := 28) (t := 34) (tR := 4) (s := 6) (i := 1) (j := 0) (off := (k + 1) * 6) rfl rfl rfl Try.func104 (by kernel_rfl) (by kernel_rfl) (by kernel_rfl) (by kernel_rfl) (by kernel_rfl) (fun _ => by kernel_rfl) hh (by rfl) (by rfl) (by decide) (fun g hg => cutA_some hg (by omega)) (by omega) (by decide)) ?_
 refine T.pk (.bool true) (fun _ => by kernel_rfl) (T.nil ?_)
 refine T.cond true (by kernel_rfl) (by kernel_rfl) (fun _ => ?_) (fun h => Bool.noConfusion h)
 refine T.seq ?_
 refine T.held [] (by kernel_rfl) ?_
 refine TA.keep (Hp.old vr hVb kp0 ol0) fun o3_ => ?_
 refine TA.tp 0 (.slice A (l.length + 1) c) rfl (fun _ => by kernel_rfl) (fun _ _ _ h => h) o3_ ?_
 refine TA.tp 1 (vi (k : Int)) rfl (fun _ => by kernel_rfl) (fun _ _ _ h => h) o3_ ?_
 refine TA.tp 2 (vi 1) rfl (fun _ => by kernel_rfl) (fun _ _ _ h => h) o3_ ?_
 refine TA.tp 3 (vi (IntKind.i64.wrap ((k : Int) + 1))) rfl (fun _ => by kernel_rfl) (fun _ _ _ h => h) o3_ ?_
 refine T.reslot 72 (vi ((k + 1 : Nat) : Int)) rfl (by rw [hw2]) ?_
 refine TA.keep (Hp.old vr hVb kp0 ol0) fun o4_ => ?_
 refine TA.tk 4 (.slice (cutA A c (k + 1) 6) (l.length + 1 - (k + 1)) (c - (k + 1))) rfl (by kernel_rfl) (fun _ _ _ h => h) o4_ (fun w' hh => exec_slice_cap (e := 28) (s := 6) (lx := (some _)) (hx := none) (lo := ((k + 1 : Nat) : Int)) (hi := ((l.length + 1 : Nat) : Int)) (k := .i64) (k' := .i64) rfl rfl (by kernel_rfl) (by kernel_rfl) rfl rfl (by omega) (by omega) (by omega)) ?_
 refine TA.tp 5 (.slice A (l.length + 1) c) rfl (fun _ => by kernel_rfl) (fun _ _ _ h => h) o4_ ?_
 refine TA.tp 6 (vi (k : Int)) rfl (fun _ => by kernel_rfl) (fun _ _ _ h => h) o4_ ?_
 refine TA.tk 7 (.slice (cutA A c k 6) (l.length + 1 - k) (c - k)) rfl (by kernel_rfl) (fun _ _ _ h => h) o4_ (fun w' hh => exec_slice_cap (e := 28) (s := 6) (lx := (some _)) (hx := none) (lo := (k : Int)) (hi := ((l.length + 1 : Nat) : Int)) (k := .i64) (k' := .i64) rfl rfl (by kernel_rfl) (by kernel_rfl) rfl rfl (by omega) (by omega) (by omega)) ?_
 refine TA.all [8] (by kernel_rfl) rfl ⟨?_, trivial⟩
 refine TA.br rfl (W1.copyTo (E := eElem) (l := l) (m := l.drop k) 0 (k + 1) (l.length + 1 - (k + 1)) (l.length + 1 - k) _ _ (by rfl) (by kernel_rfl) rfl (by kernel_rfl) (fun _ => by kernel_rfl) (by decide) rfl rfl (by rw [hld]; omega) (by omega) (by omega) (by omega) (by omega) (fun w' hh => (SlOk.srcF (SlOk.cut (hh.row_slOk (i := 0) (by rfl)) hcut) (fun _ _ _ _ h => h))) ?_)
 refine TA.on (Hp.old vr hVb kp0 ol0) ?_
 refine TA.done (by kernel_rfl) ?_
 refine T.seq (T.region (T.p2 (.slice A (l.length + 1) c) (vi (k : Int)) (fun _ => by kernel_rfl) (T.look (.slice (cutA A c k 6) (l.length + 1 - k) (c - k)) (by kernel_rfl) (fun w' hh => exec_slice_cap (e := 28) (s := 6) (lx := (some _)) (hx := none) (lo := (k : Int)) (hi := ((l.length + 1 : Nat) : Int)) (k := .i64) (k' := .i64) rfl rfl (by kernel_rfl) (by kernel_rfl) rfl rfl (by omega) (by omega) (by omega)) ?_)))
 refine T.pk (.slice (some ⟨b, 0, none⟩) 1 1) (fun _ => by kernel_rfl) (T.step (W1.copy (E := eElem) (l := l.take (k + 1) ++ l.drop k) (m := [x]) 0 k (l.length + 1 - k) _ _ (by rfl) (by kernel_rfl) rfl (by kernel_rfl) (fun _ => by kernel_rfl) (by decide) rfl rfl (by omega) (fun w' hh => (SlOk.srcF (slok_lit (E := eElem) (f := DElem.cells) [x] (fun _ _ => rfl) (Nat.le_of_ble_eq_true (by rfl)) (fun j => hh.cellBox (i := 1) (by rfl) j)) (fun _ _ _ _ h => h))) ?_))
 refine T.nil ?_
 refine T.reH (H' := (row 28 eElem A c (insAt l k x) :: box b tb (DElem.cells x) :: G)) (congrArg (fun q => row 28 eElem A c q :: box b tb (DElem.cells x) :: G) (over_ins1 x hkn (by omega))) ?_
 refine T.seq (T.region (T.p2 (.slice A (l.length + 1) c) (.slice A (l.length + 1) c) (fun _ => by kernel_rfl) (T.nil ?_)))
 refine T.ret rfl ?_
 repeat first | refine T.unthen ?_ | refine T.unblock ?_
 exact T.ret1 rfl (ResIs.tmp rfl) fun w' hh => ⟨A, c, by rw [insAt_length x hk], hh⟩
set_option maxRecDepth 100000 in
set_option maxHeartbeats 4000000 in
theorem own_insert_Spot (w : World) (V : View) (G : List HObj) (w1 : World) (A : Option Addr) (c : Nat) (l : List DSpot) (k b tb : Nat) (x : DSpot) (hk : k ≤ l.length) (hr : room (l.length + 1) 32 = true) (hm : l.length + 1 ≤ maxLen)
 (hh : Hp w V (row 43 eSpot A c l :: box b tb (DSpot.cells x) :: G) w1) : Calls Try.prog 98 #[.slice A l.length c, .int .i64 (k : Int), .slice (some ⟨b, 0, none⟩) 1 1] w1 (fun r w2 => ∃ A' c', r = .returned (.slice A' (insAt l k x).length c') ∧ Hp w V (row 43 eSpot A' c' (insAt l k x) :: box b tb (DSpot.cells x) :: G) w2) := by
 have hVb := hh.base
 have hM : l.length + 1 ≤ 9223372036854775807 := Nat.le_trans hm (by decide)
 have hw1 : IntKind.i64.wrap ((l.length : Int) + 1) = ((l.length + 1 : Nat) : Int) := by rw [IntKind.wrap_i64]; omega
 have hw2 : IntKind.i64.wrap ((k : Int) + 1) = ((k + 1 : Nat) : Int) := by rw [IntKind.wrap_i64]; omega
 have hw3 : IntKind.i64.wrap (((l.length + 1 : Nat) : Int) - (k : Int)) = ((l.length + 1 - k : Nat) : Int) := by rw [IntKind.wrap_i64]; omega
 refine T.startI (l := [.slice A l.length c, vi (k : Int), .slice (some ⟨b, 0, none⟩) 1 1]) Try.func98 rfl rfl rfl ?_ hh
 clear hh
 refine T.rowlen 0 rfl (fun hlc hcm => ?_)
 refine T.seq (T.region (T.pk sN (fun _ => by kernel_rfl) (T.nil (T.seq (T.region (T.p2 (.slice A l.length c) (vi (k : Int)) (fun _ => by kernel_rfl) (T.look (.slice (cutA A c k 4) (l.length - k) (c - k)) (by kernel_rfl) (fun w' hh => exec_slice_cap (e := 43) (s := 4) (lx := (some _)) (hx := none) (lo := (k : Int)) (hi := (l.length : Int)) (k := .i64) (k' := .i64) rfl rfl (by kernel_rfl) (by kernel_rfl) rfl rfl (by omega) (by omega) (by omega)) ?_)))))))
 refine T.nil (T.seq (T.region (T.p3 (.slice (some ⟨b, 0, none⟩) 1 1) (vi 1) (vi 1) (fun _ => by kernel_rfl) (T.nil (T.seq (T.seq (T.region (T.p2 (vi 1) (.bool false) (fun _ => by kernel_rfl) (T.nil ?_)))))))))
 refine T.cond false (by kernel_rfl) (by kernel_rfl) (fun h => Bool.noConfusion h) (fun _ => ?_)
 refine T.skip_code ?_
 refine T.seq (T.region (T.p3 (.slice A l.length c) (vi (l.length : Int)) (vi (l.length : Int)) (fun _ => by kernel_rfl) (T.nil (T.seq (T.seq (T.region (T.p3 (vi (k : Int)) (vi (l.length : Int)) (.bool ((k : Int) == (l.length : Int))) (fun _ => by kernel_rfl) (T.nil ?_))))))))
 refine T.cond ((k : Int) == (l.length : Int)) (by kernel_rfl) (by kernel_rfl) (fun hc => ?_) (fun hc => ?_)
 · have hke : k = l.length := by have := eq_of_beq hc; omega
   subst hke
   refine T.seq (T.region (T.p2 (.slice A l.length c) (.slice (some ⟨b, 0, none⟩) 1 1) (fun _ => by kernel_rfl) ?_))
   obtain ⟨ti, hti, hz1, hz2, hz3⟩ := ipOwnL_2
   refine T.step (W1.append (E := eSpot) (l := l) (m := [x]) 0 _ _ 32 ti _ (by rfl) (by kernel_rfl) rfl (by kernel_rfl) hti hz1 hz2 hz3 rfl (by decide) rfl rfl (fun w' hh => (SlOk.srcF (slok_lit (E := eSpot) (f := DSpot.cells) [x] (fun _ _ => rfl) (Nat.le_of_ble_eq_true (by rfl)) (fun j => hh.cellBox (i := 1) (by rfl) j)) (fun _ _ _ _ h => h))) hr hm (fun A' c' => ?_))
   refine T.pk (.slice A' (l ++ [x]).length c') (fun _ => by kernel_rfl) (T.nil ?_)
   refine T.ret rfl ?_
   repeat first | refine T.unthen ?_ | refine T.unblock ?_
   exact T.ret1 rfl (ResIs.tmp rfl) fun w' hh => ⟨A', c', by rw [insAt_end], by rw [insAt_end]; exact hh⟩
 have hkn : k < l.length := by have : ¬ ((k : Int) = (l.length : Int)) := ne_of_beq_false hc; omega
 refine T.skip_code ?_
 refine T.seq (T.seq (T.region (T.p3 (vi (l.length : Int)) (vi 1) (vi (IntKind.i64.wrap ((l.length : Int) + 1))) (fun _ => by kernel_rfl) ?_)))
 refine T.reslot 28 (vi ((l.length + 1 : Nat) : Int)) rfl (by rw [hw1]) ?_
 refine T.p3 (.slice A l.length c) (vi (c : Int)) (.bool (decide ((c : Int) < ((l.length + 1 : Nat) : Int)))) (fun _ => by kernel_rfl) (T.nil ?_)
 refine T.cond (decide ((c : Int) < ((l.length + 1 : Nat) : Int))) (by kernel_rfl) (by kernel_rfl) (fun hc => ?_) (fun hc => ?_)
 · have hg : c < k + (l.length + 1 - k) := by have := of_decide_eq_true hc; omega
   have hL1 : (l.take k ++ List.replicate (l.length + 1 - k) ((DSpot.mk (DKey.mk 0 0 0) 0))).length = l.length + 1 := by simp only [List.length_append, List.length_take, List.length_replicate]; omega
   refine T.seq (T.region (T.p2 (.slice A l.length c) (vi (k : Int)) (fun _ => by kernel_rfl) (T.look (.slice (cutA A c 0 4) k c) (by kernel_rfl) (fun w' hh => exec_slice_cap (e := 43) (s := 4) (lx := none) (hx := (some _)) (lo := 0) (hi := (k : Int)) (k := .i64) (k' := .i64) rfl rfl (by kernel_rfl) (by kernel_rfl) rfl rfl (by omega) (by omega) (by omega)) ?_)))
   refine T.reslot 34 (.slice A k c) rfl (by rw [cutA_zero]) ?_
   refine T.p3 (vi (l.length : Int)) (vi 1) (vi (IntKind.i64.wrap ((l.length : Int) + 1))) (fun _ => by kernel_rfl) ?_
   refine T.reslot 37 (vi ((l.length + 1 : Nat) : Int)) rfl (by rw [hw1]) ?_
   refine T.p2 (vi (k : Int)) (vi (IntKind.i64.wrap (((l.length + 1 : Nat) : Int) - (k : Int)))) (fun _ => by kernel_rfl) ?_
   refine T.reslot 39 (vi ((l.length + 1 - k : Nat) : Int)) rfl (by rw [hw3]) ?_
   obtain ⟨ti, hti, hz1, hz2, hz3⟩ := ipOwnL_2
   refine T.step (W1.growzTo (E := eSpot) (x := (DSpot.mk (DKey.mk 0 0 0) 0)) (z := .agg #[vi 0, vi 0, vi 0, vi 0]) (kn := .i64) 0 k (l.length + 1 - k) _ _ 32 ti (by rfl) hk (by omega) (by omega) hg (by kernel_rfl) rfl (by kernel_rfl) (by kernel_rfl) hti hz1 hz2 hz3 (fun _ => rfl) rfl (by decide) rfl rfl (by rw [show k + (l.length + 1 - k) = l.length + 1 by omega]; exact hr) (by omega) (fun A' c' => ?_))
   refine T.pk (.slice A' (l.take k ++ List.replicate (l.length + 1 - k) ((DSpot.mk (DKey.mk 0 0 0) 0))).length c') (fun _ => by kernel_rfl) (T.nil ?_)
   refine T.rowlen 0 rfl (fun hlc' hcm' => ?_)
   refine T.seq (T.region (T.p2 (.slice A' (l.take k ++ List.replicate (l.length + 1 - k) ((DSpot.mk (DKey.mk 0 0 0) 0))).length c') (vi (k : Int)) (fun _ => by kernel_rfl) (T.look (.slice (cutA A' c' k 4) ((l.take k ++ List.replicate (l.length + 1 - k) ((DSpot.mk (DKey.mk 0 0 0) 0))).length - k) (c' - k)) (by kernel_rfl) (fun w' hh => exec_slice_cap (e := 43) (s := 4) (lx := (some _)) (hx := none) (lo := (k : Int)) (hi := (((l.take k ++ List.replicate (l.length + 1 - k) ((DSpot.mk (DKey.mk 0 0 0) 0))).length : Nat) : Int)) (k := .i64) (k' := .i64) rfl rfl (by kernel_rfl) (by kernel_rfl) rfl rfl (by omega) (by omega) (by omega)) ?_)))
   refine T.pk (.slice (some ⟨b, 0, none⟩) 1 1) (fun _ => by kernel_rfl) (T.step (W1.copy (E := eSpot) (l := (l.take k ++ List.replicate (l.length + 1 - k) ((DSpot.mk (DKey.mk 0 0 0) 0)))) (m := [x]) 0 k ((l.take k ++ List.replicate (l.length + 1 - k) ((DSpot.mk (DKey.mk 0 0 0) 0))).length - k) _ _ (by rfl) (by kernel_rfl) rfl (by kernel_rfl) (fun _ => by kernel_rfl) (by decide) rfl rfl (by omega) (fun w' hh => (SlOk.srcF (slok_lit (E := eSpot) (f := DSpot.cells) [x] (fun _ _ => rfl) (Nat.le_of_ble_eq_true (by rfl)) (fun j => hh.cellBox (i := 2) (by rfl) j)) (fun _ _ _ _ h => h))) ?_))
   refine T.nil ?_
   have hL2 : (over (l.take k ++ List.replicate (l.length + 1 - k) ((DSpot.mk (DKey.mk 0 0 0) 0))) k ([x].take ((l.take k ++ List.replicate (l.length + 1 - k) ((DSpot.mk (DKey.mk 0 0 0) 0))).length - k))).length = (l.take k ++ List.replicate (l.length + 1 - k) ((DSpot.mk (DKey.mk 0 0 0) 0))).length := over_length _ _ _ (by rw [List.length_take]; have : [x].length = 1 := rfl; omega)
   have hld : (l.drop k).length = l.length - k := List.length_drop
   have hcut : lslice l (k : Int) (l.length : Int) = some (l.drop k) := by unfold lslice; rw [if_pos ⟨by omega, by omega, by omega⟩]; simp
   refine T.seq ?_
   refine T.held [] (by kernel_rfl) ?_
   refine TA.keep (Hp.old vr hVb kp0 ol0) fun o5_ => ?_
   refine TA.tp 0 (.slice A' (l.take k ++ List.replicate (l.length + 1 - k) ((DSpot.mk (DKey.mk 0 0 0) 0))).length c') rfl (fun _ => by kernel_rfl) (fun _ _ _ h => h) o5_ ?_
   refine TA.tp 1 (vi (k : Int)) rfl (fun _ => by kernel_rfl) (fun _ _ _ h => h) o5_ ?_
   refine TA.tp 2 (vi 1) rfl (fun _ => by kernel_rfl) (fun _ _ _ h => h) o5_ ?_
   refine TA.tp 3 (vi (IntKind.i64.wrap ((k : Int) + 1))) rfl (fun _ => by kernel_rfl) (fun _ _ _ h => h) o5_ ?_
   refine T.reslot 49 (vi ((k + 1 : Nat) : Int)) rfl (by rw [hw2]) ?_
   refine TA.keep (Hp.old vr hVb kp0 ol0) fun o6_ => ?_
   refine TA.tk 4 (.slice (cutA A' c' (k + 1) 4) ((l.take k ++ List.replicate (l.length + 1 - k) ((DSpot.mk (DKey.mk 0 0 0) 0))).length - (k + 1)) (c' - (k + 1))) rfl (by kernel_rfl) (fun _ _ _ h => h) o6_ (fun w' hh => exec_slice_cap (e := 43) (s := 4) (lx := (some _)) (hx := none) (lo := ((k + 1 : Nat) : Int)) (hi := (((l.take k ++ List.replicate (l.length + 1 - k) ((DSpot.mk (DKey.mk 0 0 0) 0))).length : Nat) : Int)) (k := .i64) (k' := .i64) rfl rfl (by kernel_rfl) (by kernel_rfl) rfl rfl (by omega) (by omega) (by omega)) ?_
   refine TA.tp 5 (.slice A l.length c) rfl (fun _ => by kernel_rfl) (fun _ _ _ h => h) o6_ ?_
   refine TA.tp 6 (vi (k : Int)) rfl (fun _ => by kernel_rfl) (fun _ _ _ h => h) o6_ ?_
   refine TA.tk 7 (.slice (cutA A c k 4) (l.length - k) (c - k)) rfl (by kernel_rfl) (fun _ _ _ h => h) o6_ (fun w' hh => exec_slice_cap (e := 43) (s := 4) (lx := (some _)) (hx := none) (lo := (k : Int)) (hi := (l.length : Int)) (k := .i64) (k' := .i64) rfl rfl (by kernel_rfl) (by kernel_rfl) rfl rfl (by omega) (by omega) (by omega)) ?_
   refine T.reslot 53 (.slice (cutA A c k 4) (l.drop k).length (c - k)) rfl (by rw [hld]) ?_
   refine TA.all [8] (by kernel_rfl) rfl ⟨?_, trivial⟩
   refine TA.br rfl (W1.copy (E := eSpot) (l := over (l.take k ++ List.replicate (l.length + 1 - k) ((DSpot.mk (DKey.mk 0 0 0) 0))) k ([x].take ((l.take k ++ List.replicate (l.length + 1 - k) ((DSpot.mk (DKey.mk 0 0 0) 0))).length - k))) (m := l.drop k) 0 (k + 1) ((l.take k ++ List.replicate (l.length + 1 - k) ((DSpot.mk (DKey.mk 0 0 0) 0))).length - (k + 1)) _ _ (by rfl) (by kernel_rfl) rfl (by kernel_rfl) (fun _ => by kernel_rfl) (by decide) rfl rfl (by rw [hL2]; omega) (fun w' hh => (SlOk.srcF (SlOk.cut (hh.row_slOk (i := 1) (by rfl)) hcut) (fun _ _ _ _ h => h))) ?_)
   refine TA.on (Hp.old vr hVb kp0 ol0) ?_
   refine TA.done (by kernel_rfl) ?_
   refine T.reH (H' := (row 43 eSpot A' c' (insAt l k x) :: row 43 eSpot A c l :: box b tb (DSpot.cells x) :: G)) (congrArg (fun q => row 43 eSpot A' c' q :: row 43 eSpot A c l :: box b tb (DSpot.cells x) :: G) (over_ins2 x _ hkn (by omega) (by omega))) ?_
   refine T.seq (T.region (T.p2 (.slice A' (l.take k ++ List.replicate (l.length + 1 - k) ((DSpot.mk (DKey.mk 0 0 0) 0))).length c') (.slice A' (l.take k ++ List.replicate (l.length + 1 - k) ((DSpot.mk (DKey.mk 0 0 0) 0))).length c') (fun _ => by kernel_rfl) (T.nil ?_)))
   refine T.ret rfl ?_
   repeat first | refine T.unthen ?_ | refine T.unblock ?_
   exact T.ret1 rfl (ResIs.tmp rfl) fun w' hh => ⟨A', c', by rw [insAt_length x hk, hL1], hh.sub (kp1 (dr1 kpr))⟩
 have hroom : l.length + 1 ≤ c := by have := of_decide_eq_false hc; omega
 have hld : (l.drop k).length = l.length - k := List.length_drop
 have hcut : lslice l (k : Int) (l.length : Int) = some (l.drop k) := by unfold lslice; rw [if_pos ⟨by omega, by omega, by omega⟩]; simp
 have hlt : (l.take (k + 1)).length = k + 1 := by rw [List.length_take]; omega
 have hl3 : (l.take (k + 1) ++ l.drop k).length = l.length + 1 := by rw [List.length_append, hlt, hld]; omega
 refine T.skip_code ?_
 refine T.seq (T.region (T.p4 (.slice A l.length c) (vi (l.length : Int)) (vi 1) (vi (IntKind.i64.wrap ((l.length : Int) + 1))) (fun _ => by kernel_rfl) ?_))
 refine T.reslot 59 (vi ((l.length + 1 : Nat) : Int)) rfl (by rw [hw1]) ?_
 refine T.look (.slice (cutA A c 0 4) (l.length + 1) c) (by kernel_rfl) (fun w' hh => exec_slice_cap (e := 43) (s := 4) (lx := none) (hx := (some _)) (lo := 0) (hi := ((l.length + 1 : Nat) : Int)) (k := .i64) (k' := .i64) rfl rfl (by kernel_rfl) (by kernel_rfl) rfl rfl (by omega) (by omega) (by omega)) ?_
 refine T.reslot 60 (.slice A (l.length + 1) c) rfl (by rw [cutA_zero]) ?_
 refine T.pk (.slice A (l.length + 1) c) (fun _ => by kernel_rfl) (T.nil (T.seq (T.seq (T.region (T.p5 (.slice (some ⟨b, 0, none⟩) 1 1) (.slice A (l.length + 1) c) (vi (k : Int)) (vi 1) (vi (IntKind.i64.wrap ((k : Int) + 1))) (fun _ => by kernel_rfl) ?_)))))
 refine T.reslot 65 (vi ((k + 1 : Nat) : Int)) rfl (by rw [hw2]) ?_
 refine T.look (.slice (cutA A c (k + 1) 4) (l.length + 1 - (k + 1)) (c - (k + 1))) (by kernel_rfl) (fun w' hh => exec_slice_cap (e := 43) (s := 4) (lx := (some _)) (hx := none) (lo := ((k + 1 : Nat) : Int)) (hi := ((l.length + 1 : Nat) : Int)) (k := .i64) (k' := .i64) rfl rfl (by kernel_rfl) (by kernel_rfl) rfl rfl (by omega) (by omega) (by omega)) ?_
 refine T.look (.bool false) (by kernel_rfl) (fun w' hh => exec_overlaps (E := eSpot) (e := 43) (t := 95) (tR := 4) (s := 4) (i := 1) (j := 0) (off := (k + 1) * 4) rfl rfl rfl Try.func108 (by kernel_rfl) (by kernel_rfl) (by kernel_rfl) (by kernel_rfl) (by kernel_rfl) (fun _ => by kernel_rfl) hh (by rfl) (by rfl) (by decide) (fun g hg => cutA_some hg (by omega)) (by omega) (by decide)) ?_
 refine T.pk (.bool true) (fun _ => by kernel_rfl) (T.nil ?_)
 refine T.cond true (by kernel_rfl) (by kernel_rfl) (fun _ => ?_) (fun h => Bool.noConfusion h)
 refine T.seq ?_
 refine T.held [] (by kernel_rfl) ?_
 refine TA.keep (Hp.old vr hVb kp0 ol0) fun o7_ => ?_
 refine TA.tp 0 (.slice A (l.length + 1) c) rfl (fun _ => by kernel_rfl) (fun _ _ _ h => h) o7_ ?_
 refine TA.tp 1 (vi (k : Int)) rfl (fun _ => by kernel_rfl) (fun _ _ _ h => h) o7_ ?_
 refine TA.tp 2 (vi 1) rfl (fun _ => by kernel_rfl) (fun _ _ _ h => h) o7_ ?_
 refine TA.tp 3 (vi (IntKind.i64.wrap ((k : Int) + 1))) rfl (fun _ => by kernel_rfl) (fun _ _ _ h => h) o7_ ?_
 refine T.reslot 72 (vi ((k + 1 : Nat) : Int)) rfl (by rw [hw2]) ?_
 refine TA.keep (Hp.old vr hVb kp0 ol0) fun o8_ => ?_
 refine TA.tk 4 (.slice (cutA A c (k + 1) 4) (l.length + 1 - (k + 1)) (c - (k + 1))) rfl (by kernel_rfl) (fun _ _ _ h => h) o8_ (fun w' hh => exec_slice_cap (e := 43) (s := 4) (lx := (some _)) (hx := none) (lo := ((k + 1 : Nat) : Int)) (hi := ((l.length + 1 : Nat) : Int)) (k := .i64) (k' := .i64) rfl rfl (by kernel_rfl) (by kernel_rfl) rfl rfl (by omega) (by omega) (by omega)) ?_
 refine TA.tp 5 (.slice A (l.length + 1) c) rfl (fun _ => by kernel_rfl) (fun _ _ _ h => h) o8_ ?_
 refine TA.tp 6 (vi (k : Int)) rfl (fun _ => by kernel_rfl) (fun _ _ _ h => h) o8_ ?_
 refine TA.tk 7 (.slice (cutA A c k 4) (l.length + 1 - k) (c - k)) rfl (by kernel_rfl) (fun _ _ _ h => h) o8_ (fun w' hh => exec_slice_cap (e := 43) (s := 4) (lx := (some _)) (hx := none) (lo := (k : Int)) (hi := ((l.length + 1 : Nat) : Int)) (k := .i64) (k' := .i64) rfl rfl (by kernel_rfl) (by kernel_rfl) rfl rfl (by omega) (by omega) (by omega)) ?_
 refine TA.all [8] (by kernel_rfl) rfl ⟨?_, trivial⟩
 refine TA.br rfl (W1.copyTo (E := eSpot) (l := l) (m := l.drop k) 0 (k + 1) (l.length + 1 - (k + 1)) (l.length + 1 - k) _ _ (by rfl) (by kernel_rfl) rfl (by kernel_rfl) (fun _ => by kernel_rfl) (by decide) rfl rfl (by rw [hld]; omega) (by omega) (by omega) (by omega) (by omega) (fun w' hh => (SlOk.srcF (SlOk.cut (hh.row_slOk (i := 0) (by rfl)) hcut) (fun _ _ _ _ h => h))) ?_)
 refine TA.on (Hp.old vr hVb kp0 ol0) ?_
 refine TA.done (by kernel_rfl) ?_
 refine T.seq (T.region (T.p2 (.slice A (l.length + 1) c) (vi (k : Int)) (fun _ => by kernel_rfl) (T.look (.slice (cutA A c k 4) (l.length + 1 - k) (c - k)) (by kernel_rfl) (fun w' hh => exec_slice_cap (e := 43) (s := 4) (lx := (some _)) (hx := none) (lo := (k : Int)) (hi := ((l.length + 1 : Nat) : Int)) (k := .i64) (k' := .i64) rfl rfl (by kernel_rfl) (by kernel_rfl) rfl rfl (by omega) (by omega) (by omega)) ?_)))
 refine T.pk (.slice (some ⟨b, 0, none⟩) 1 1) (fun _ => by kernel_rfl) (T.step (W1.copy (E := eSpot) (l := l.take (k + 1) ++ l.drop k) (m := [x]) 0 k (l.length + 1 - k) _ _ (by rfl) (by kernel_rfl) rfl (by kernel_rfl) (fun _ => by kernel_rfl) (by decide) rfl rfl (by omega) (fun w' hh => (SlOk.srcF (slok_lit (E := eSpot) (f := DSpot.cells) [x] (fun _ _ => rfl) (Nat.le_of_ble_eq_true (by rfl)) (fun j => hh.cellBox (i := 1) (by rfl) j)) (fun _ _ _ _ h => h))) ?_))
 refine T.nil ?_
 refine T.reH (H' := (row 43 eSpot A c (insAt l k x) :: box b tb (DSpot.cells x) :: G)) (congrArg (fun q => row 43 eSpot A c q :: box b tb (DSpot.cells x) :: G) (over_ins1 x hkn (by omega))) ?_
 refine T.seq (T.region (T.p2 (.slice A (l.length + 1) c) (.slice A (l.length + 1) c) (fun _ => by kernel_rfl) (T.nil ?_)))
 refine T.ret rfl ?_
 repeat first | refine T.unthen ?_ | refine T.unblock ?_
 exact T.ret1 rfl (ResIs.tmp rfl) fun w' hh => ⟨A, c, by rw [insAt_length x hk], hh⟩
set_option maxRecDepth 100000 in
set_option maxHeartbeats 4000000 in
theorem own_insert_int (w : World) (V : View) (G : List HObj) (w1 : World) (A : Option Addr) (c : Nat) (l : List Int) (k b tb : Nat) (x : Int) (hk : k ≤ l.length) (hr : room (l.length + 1) 8 = true) (hm : l.length + 1 ≤ maxLen)
 (hh : Hp w V (row 3 eInt A c l :: box b tb [.int .i64 x] :: G) w1) : Calls Try.prog 97 #[.slice A l.length c, .int .i64 (k : Int), .slice (some ⟨b, 0, none⟩) 1 1] w1 (fun r w2 => ∃ A' c', r = .returned (.slice A' (insAt l k x).length c') ∧ Hp w V (row 3 eInt A' c' (insAt l k x) :: box b tb [.int .i64 x] :: G) w2) := by
 have hVb := hh.base
 have hM : l.length + 1 ≤ 9223372036854775807 := Nat.le_trans hm (by decide)
 have hw1 : IntKind.i64.wrap ((l.length : Int) + 1) = ((l.length + 1 : Nat) : Int) := by rw [IntKind.wrap_i64]; omega
 have hw2 : IntKind.i64.wrap ((k : Int) + 1) = ((k + 1 : Nat) : Int) := by rw [IntKind.wrap_i64]; omega
 have hw3 : IntKind.i64.wrap (((l.length + 1 : Nat) : Int) - (k : Int)) = ((l.length + 1 - k : Nat) : Int) := by rw [IntKind.wrap_i64]; omega
 refine T.startI (l := [.slice A l.length c, vi (k : Int), .slice (some ⟨b, 0, none⟩) 1 1]) Try.func97 rfl rfl rfl ?_ hh
 clear hh
 refine T.rowlen 0 rfl (fun hlc hcm => ?_)
 refine T.seq (T.region (T.pk sN (fun _ => by kernel_rfl) (T.nil (T.seq (T.region (T.p2 (.slice A l.length c) (vi (k : Int)) (fun _ => by kernel_rfl) (T.look (.slice (cutA A c k 1) (l.length - k) (c - k)) (by kernel_rfl) (fun w' hh => exec_slice_cap (e := 3) (s := 1) (lx := (some _)) (hx := none) (lo := (k : Int)) (hi := (l.length : Int)) (k := .i64) (k' := .i64) rfl rfl (by kernel_rfl) (by kernel_rfl) rfl rfl (by omega) (by omega) (by omega)) ?_)))))))
 refine T.nil (T.seq (T.region (T.p3 (.slice (some ⟨b, 0, none⟩) 1 1) (vi 1) (vi 1) (fun _ => by kernel_rfl) (T.nil (T.seq (T.seq (T.region (T.p2 (vi 1) (.bool false) (fun _ => by kernel_rfl) (T.nil ?_)))))))))
 refine T.cond false (by kernel_rfl) (by kernel_rfl) (fun h => Bool.noConfusion h) (fun _ => ?_)
 refine T.skip_code ?_
 refine T.seq (T.region (T.p3 (.slice A l.length c) (vi (l.length : Int)) (vi (l.length : Int)) (fun _ => by kernel_rfl) (T.nil (T.seq (T.seq (T.region (T.p3 (vi (k : Int)) (vi (l.length : Int)) (.bool ((k : Int) == (l.length : Int))) (fun _ => by kernel_rfl) (T.nil ?_))))))))
 refine T.cond ((k : Int) == (l.length : Int)) (by kernel_rfl) (by kernel_rfl) (fun hc => ?_) (fun hc => ?_)
 · have hke : k = l.length := by have := eq_of_beq hc; omega
   subst hke
   refine T.seq (T.region (T.p2 (.slice A l.length c) (.slice (some ⟨b, 0, none⟩) 1 1) (fun _ => by kernel_rfl) ?_))
   obtain ⟨ti, hti, hz1, hz2, hz3⟩ := ipOwnL_3
   refine T.step (W1.append (E := eInt) (l := l) (m := [x]) 0 _ _ 8 ti _ (by rfl) (by kernel_rfl) rfl (by kernel_rfl) hti hz1 hz2 hz3 rfl (by decide) rfl rfl (fun w' hh => (SlOk.srcF (slok_lit (E := eInt) (f := (fun x => [vi x])) [x] (fun _ _ => rfl) (Nat.le_of_ble_eq_true (by rfl)) (fun j => hh.cellBox (i := 1) (by rfl) j)) (fun _ _ _ _ h => h))) hr hm (fun A' c' => ?_))
   refine T.pk (.slice A' (l ++ [x]).length c') (fun _ => by kernel_rfl) (T.nil ?_)
   refine T.ret rfl ?_
   repeat first | refine T.unthen ?_ | refine T.unblock ?_
   exact T.ret1 rfl (ResIs.tmp rfl) fun w' hh => ⟨A', c', by rw [insAt_end], by rw [insAt_end]; exact hh⟩
 have hkn : k < l.length := by have : ¬ ((k : Int) = (l.length : Int)) := ne_of_beq_false hc; omega
 refine T.skip_code ?_
 refine T.seq (T.seq (T.region (T.p3 (vi (l.length : Int)) (vi 1) (vi (IntKind.i64.wrap ((l.length : Int) + 1))) (fun _ => by kernel_rfl) ?_)))
 refine T.reslot 28 (vi ((l.length + 1 : Nat) : Int)) rfl (by rw [hw1]) ?_
 refine T.p3 (.slice A l.length c) (vi (c : Int)) (.bool (decide ((c : Int) < ((l.length + 1 : Nat) : Int)))) (fun _ => by kernel_rfl) (T.nil ?_)
 refine T.cond (decide ((c : Int) < ((l.length + 1 : Nat) : Int))) (by kernel_rfl) (by kernel_rfl) (fun hc => ?_) (fun hc => ?_)
 · have hg : c < k + (l.length + 1 - k) := by have := of_decide_eq_true hc; omega
   have hL1 : (l.take k ++ List.replicate (l.length + 1 - k) (0)).length = l.length + 1 := by simp only [List.length_append, List.length_take, List.length_replicate]; omega
   refine T.seq (T.region (T.p2 (.slice A l.length c) (vi (k : Int)) (fun _ => by kernel_rfl) (T.look (.slice (cutA A c 0 1) k c) (by kernel_rfl) (fun w' hh => exec_slice_cap (e := 3) (s := 1) (lx := none) (hx := (some _)) (lo := 0) (hi := (k : Int)) (k := .i64) (k' := .i64) rfl rfl (by kernel_rfl) (by kernel_rfl) rfl rfl (by omega) (by omega) (by omega)) ?_)))
   refine T.reslot 34 (.slice A k c) rfl (by rw [cutA_zero]) ?_
   refine T.p3 (vi (l.length : Int)) (vi 1) (vi (IntKind.i64.wrap ((l.length : Int) + 1))) (fun _ => by kernel_rfl) ?_
   refine T.reslot 37 (vi ((l.length + 1 : Nat) : Int)) rfl (by rw [hw1]) ?_
   refine T.p2 (vi (k : Int)) (vi (IntKind.i64.wrap (((l.length + 1 : Nat) : Int) - (k : Int)))) (fun _ => by kernel_rfl) ?_
   refine T.reslot 39 (vi ((l.length + 1 - k : Nat) : Int)) rfl (by rw [hw3]) ?_
   obtain ⟨ti, hti, hz1, hz2, hz3⟩ := ipOwnL_3
   refine T.step (W1.growzTo (E := eInt) (x := 0) (z := vi 0) (kn := .i64) 0 k (l.length + 1 - k) _ _ 8 ti (by rfl) hk (by omega) (by omega) hg (by kernel_rfl) rfl (by kernel_rfl) (by kernel_rfl) hti hz1 hz2 hz3 (fun _ => rfl) rfl (by decide) rfl rfl (by rw [show k + (l.length + 1 - k) = l.length + 1 by omega]; exact hr) (by omega) (fun A' c' => ?_))
   refine T.pk (.slice A' (l.take k ++ List.replicate (l.length + 1 - k) (0)).length c') (fun _ => by kernel_rfl) (T.nil ?_)
   refine T.rowlen 0 rfl (fun hlc' hcm' => ?_)
   refine T.seq (T.region (T.p2 (.slice A' (l.take k ++ List.replicate (l.length + 1 - k) (0)).length c') (vi (k : Int)) (fun _ => by kernel_rfl) (T.look (.slice (cutA A' c' k 1) ((l.take k ++ List.replicate (l.length + 1 - k) (0)).length - k) (c' - k)) (by kernel_rfl) (fun w' hh => exec_slice_cap (e := 3) (s := 1) (lx := (some _)) (hx := none) (lo := (k : Int)) (hi := (((l.take k ++ List.replicate (l.length + 1 - k) (0)).length : Nat) : Int)) (k := .i64) (k' := .i64) rfl rfl (by kernel_rfl) (by kernel_rfl) rfl rfl (by omega) (by omega) (by omega)) ?_)))
   refine T.pk (.slice (some ⟨b, 0, none⟩) 1 1) (fun _ => by kernel_rfl) (T.step (W1.copy (E := eInt) (l := (l.take k ++ List.replicate (l.length + 1 - k) (0))) (m := [x]) 0 k ((l.take k ++ List.replicate (l.length + 1 - k) (0)).length - k) _ _ (by rfl) (by kernel_rfl) rfl (by kernel_rfl) (fun _ => by kernel_rfl) (by decide) rfl rfl (by omega) (fun w' hh => (SlOk.srcF (slok_lit (E := eInt) (f := (fun x => [vi x])) [x] (fun _ _ => rfl) (Nat.le_of_ble_eq_true (by rfl)) (fun j => hh.cellBox (i := 2) (by rfl) j)) (fun _ _ _ _ h => h))) ?_))
   refine T.nil ?_
   have hL2 : (over (l.take k ++ List.replicate (l.length + 1 - k) (0)) k ([x].take ((l.take k ++ List.replicate (l.length + 1 - k) (0)).length - k))).length = (l.take k ++ List.replicate (l.length + 1 - k) (0)).length := over_length _ _ _ (by rw [List.length_take]; have : [x].length = 1 := rfl; omega)
   have hld : (l.drop k).length = l.length - k := List.length_drop
   have hcut : lslice l (k : Int) (l.length : Int) = some (l.drop k) := by unfold lslice; rw [if_pos ⟨by omega, by omega, by omega⟩]; simp
   refine T.seq ?_
   refine T.held [] (by kernel_rfl) ?_
   refine TA.keep (Hp.old vr hVb kp0 ol0) fun o9_ => ?_
   refine TA.tp 0 (.slice A' (l.take k ++ List.replicate (l.length + 1 - k) (0)).length c') rfl (fun _ => by kernel_rfl) (fun _ _ _ h => h) o9_ ?_
   refine TA.tp 1 (vi (k : Int)) rfl (fun _ => by kernel_rfl) (fun _ _ _ h => h) o9_ ?_
   refine TA.tp 2 (vi 1) rfl (fun _ => by kernel_rfl) (fun _ _ _ h => h) o9_ ?_
   refine TA.tp 3 (vi (IntKind.i64.wrap ((k : Int) + 1))) rfl (fun _ => by kernel_rfl) (fun _ _ _ h => h) o9_ ?_
   refine T.reslot 49 (vi ((k + 1 : Nat) : Int)) rfl (by rw [hw2]) ?_
   refine TA.keep (Hp.old vr hVb kp0 ol0) fun o10_ => ?_
   refine TA.tk 4 (.slice (cutA A' c' (k + 1) 1) ((l.take k ++ List.replicate (l.length + 1 - k) (0)).length - (k + 1)) (c' - (k + 1))) rfl (by kernel_rfl) (fun _ _ _ h => h) o10_ (fun w' hh => exec_slice_cap (e := 3) (s := 1) (lx := (some _)) (hx := none) (lo := ((k + 1 : Nat) : Int)) (hi := (((l.take k ++ List.replicate (l.length + 1 - k) (0)).length : Nat) : Int)) (k := .i64) (k' := .i64) rfl rfl (by kernel_rfl) (by kernel_rfl) rfl rfl (by omega) (by omega) (by omega)) ?_
   refine TA.tp 5 (.slice A l.length c) rfl (fun _ => by kernel_rfl) (fun _ _ _ h => h) o10_ ?_
   refine TA.tp 6 (vi (k : Int)) rfl (fun _ => by kernel_rfl) (fun _ _ _ h => h) o10_ ?_
   refine TA.tk 7 (.slice (cutA A c k 1) (l.length - k) (c - k)) rfl (by kernel_rfl) (fun _ _ _ h => h) o10_ (fun w' hh => exec_slice_cap (e := 3) (s := 1) (lx := (some _)) (hx := none) (lo := (k : Int)) (hi := (l.length : Int)) (k := .i64) (k' := .i64) rfl rfl (by kernel_rfl) (by kernel_rfl) rfl rfl (by omega) (by omega) (by omega)) ?_
   refine T.reslot 53 (.slice (cutA A c k 1) (l.drop k).length (c - k)) rfl (by rw [hld]) ?_
   refine TA.all [8] (by kernel_rfl) rfl ⟨?_, trivial⟩
   refine TA.br rfl (W1.copy (E := eInt) (l := over (l.take k ++ List.replicate (l.length + 1 - k) (0)) k ([x].take ((l.take k ++ List.replicate (l.length + 1 - k) (0)).length - k))) (m := l.drop k) 0 (k + 1) ((l.take k ++ List.replicate (l.length + 1 - k) (0)).length - (k + 1)) _ _ (by rfl) (by kernel_rfl) rfl (by kernel_rfl) (fun _ => by kernel_rfl) (by decide) rfl rfl (by rw [hL2]; omega) (fun w' hh => (SlOk.srcF (SlOk.cut (hh.row_slOk (i := 1) (by rfl)) hcut) (fun _ _ _ _ h => h))) ?_)
   refine TA.on (Hp.old vr hVb kp0 ol0) ?_
   refine TA.done (by kernel_rfl) ?_
   refine T.reH (H' := (row 3 eInt A' c' (insAt l k x) :: row 3 eInt A c l :: box b tb [vi x] :: G)) (congrArg (fun q => row 3 eInt A' c' q :: row 3 eInt A c l :: box b tb [vi x] :: G) (over_ins2 x _ hkn (by omega) (by omega))) ?_
   refine T.seq (T.region (T.p2 (.slice A' (l.take k ++ List.replicate (l.length + 1 - k) (0)).length c') (.slice A' (l.take k ++ List.replicate (l.length + 1 - k) (0)).length c') (fun _ => by kernel_rfl) (T.nil ?_)))
   refine T.ret rfl ?_
   repeat first | refine T.unthen ?_ | refine T.unblock ?_
   exact T.ret1 rfl (ResIs.tmp rfl) fun w' hh => ⟨A', c', by rw [insAt_length x hk, hL1], hh.sub (kp1 (dr1 kpr))⟩
 have hroom : l.length + 1 ≤ c := by have := of_decide_eq_false hc; omega
 have hld : (l.drop k).length = l.length - k := List.length_drop
 have hcut : lslice l (k : Int) (l.length : Int) = some (l.drop k) := by unfold lslice; rw [if_pos ⟨by omega, by omega, by omega⟩]; simp
 have hlt : (l.take (k + 1)).length = k + 1 := by rw [List.length_take]; omega
 have hl3 : (l.take (k + 1) ++ l.drop k).length = l.length + 1 := by rw [List.length_append, hlt, hld]; omega
 refine T.skip_code ?_
 refine T.seq (T.region (T.p4 (.slice A l.length c) (vi (l.length : Int)) (vi 1) (vi (IntKind.i64.wrap ((l.length : Int) + 1))) (fun _ => by kernel_rfl) ?_))
 refine T.reslot 59 (vi ((l.length + 1 : Nat) : Int)) rfl (by rw [hw1]) ?_
 refine T.look (.slice (cutA A c 0 1) (l.length + 1) c) (by kernel_rfl) (fun w' hh => exec_slice_cap (e := 3) (s := 1) (lx := none) (hx := (some _)) (lo := 0) (hi := ((l.length + 1 : Nat) : Int)) (k := .i64) (k' := .i64) rfl rfl (by kernel_rfl) (by kernel_rfl) rfl rfl (by omega) (by omega) (by omega)) ?_
 refine T.reslot 60 (.slice A (l.length + 1) c) rfl (by rw [cutA_zero]) ?_
 refine T.pk (.slice A (l.length + 1) c) (fun _ => by kernel_rfl) (T.nil (T.seq (T.seq (T.region (T.p5 (.slice (some ⟨b, 0, none⟩) 1 1) (.slice A (l.length + 1) c) (vi (k : Int)) (vi 1) (vi (IntKind.i64.wrap ((k : Int) + 1))) (fun _ => by kernel_rfl) ?_)))))
 refine T.reslot 65 (vi ((k + 1 : Nat) : Int)) rfl (by rw [hw2]) ?_
 refine T.look (.slice (cutA A c (k + 1) 1) (l.length + 1 - (k + 1)) (c - (k + 1))) (by kernel_rfl) (fun w' hh => exec_slice_cap (e := 3) (s := 1) (lx := (some _)) (hx := none) (lo := ((k + 1 : Nat) : Int)) (hi := ((l.length + 1 : Nat) : Int)) (k := .i64) (k' := .i64) rfl rfl (by kernel_rfl) (by kernel_rfl) rfl rfl (by omega) (by omega) (by omega)) ?_
 refine T.look (.bool false) (by kernel_rfl) (fun w' hh => exec_overlaps (E := eInt) (e := 3) (t := 47) (tR := 4) (s := 1) (i := 1) (j := 0) (off := (k + 1) * 1) rfl rfl rfl Try.func106 (by kernel_rfl) (by kernel_rfl) (by kernel_rfl) (by kernel_rfl) (by kernel_rfl) (fun _ => by kernel_rfl) hh (by rfl) (by rfl) (by decide) (fun g hg => cutA_some hg (by omega)) (by omega) (by decide)) ?_
 refine T.pk (.bool true) (fun _ => by kernel_rfl) (T.nil ?_)
 refine T.cond true (by kernel_rfl) (by kernel_rfl) (fun _ => ?_) (fun h => Bool.noConfusion h)
 refine T.seq ?_
 refine T.held [] (by kernel_rfl) ?_
 refine TA.keep (Hp.old vr hVb kp0 ol0) fun o11_ => ?_
 refine TA.tp 0 (.slice A (l.length + 1) c) rfl (fun _ => by kernel_rfl) (fun _ _ _ h => h) o11_ ?_
 refine TA.tp 1 (vi (k : Int)) rfl (fun _ => by kernel_rfl) (fun _ _ _ h => h) o11_ ?_
 refine TA.tp 2 (vi 1) rfl (fun _ => by kernel_rfl) (fun _ _ _ h => h) o11_ ?_
 refine TA.tp 3 (vi (IntKind.i64.wrap ((k : Int) + 1))) rfl (fun _ => by kernel_rfl) (fun _ _ _ h => h) o11_ ?_
 refine T.reslot 72 (vi ((k + 1 : Nat) : Int)) rfl (by rw [hw2]) ?_
 refine TA.keep (Hp.old vr hVb kp0 ol0) fun o12_ => ?_
 refine TA.tk 4 (.slice (cutA A c (k + 1) 1) (l.length + 1 - (k + 1)) (c - (k + 1))) rfl (by kernel_rfl) (fun _ _ _ h => h) o12_ (fun w' hh => exec_slice_cap (e := 3) (s := 1) (lx := (some _)) (hx := none) (lo := ((k + 1 : Nat) : Int)) (hi := ((l.length + 1 : Nat) : Int)) (k := .i64) (k' := .i64) rfl rfl (by kernel_rfl) (by kernel_rfl) rfl rfl (by omega) (by omega) (by omega)) ?_
 refine TA.tp 5 (.slice A (l.length + 1) c) rfl (fun _ => by kernel_rfl) (fun _ _ _ h => h) o12_ ?_
 refine TA.tp 6 (vi (k : Int)) rfl (fun _ => by kernel_rfl) (fun _ _ _ h => h) o12_ ?_
 refine TA.tk 7 (.slice (cutA A c k 1) (l.length + 1 - k) (c - k)) rfl (by kernel_rfl) (fun _ _ _ h => h) o12_ (fun w' hh => exec_slice_cap (e := 3) (s := 1) (lx := (some _)) (hx := none) (lo := (k : Int)) (hi := ((l.length + 1 : Nat) : Int)) (k := .i64) (k' := .i64) rfl rfl (by kernel_rfl) (by kernel_rfl) rfl rfl (by omega) (by omega) (by omega)) ?_
 refine TA.all [8] (by kernel_rfl) rfl ⟨?_, trivial⟩
 refine TA.br rfl (W1.copyTo (E := eInt) (l := l) (m := l.drop k) 0 (k + 1) (l.length + 1 - (k + 1)) (l.length + 1 - k) _ _ (by rfl) (by kernel_rfl) rfl (by kernel_rfl) (fun _ => by kernel_rfl) (by decide) rfl rfl (by rw [hld]; omega) (by omega) (by omega) (by omega) (by omega) (fun w' hh => (SlOk.srcF (SlOk.cut (hh.row_slOk (i := 0) (by rfl)) hcut) (fun _ _ _ _ h => h))) ?_)
 refine TA.on (Hp.old vr hVb kp0 ol0) ?_
 refine TA.done (by kernel_rfl) ?_
 refine T.seq (T.region (T.p2 (.slice A (l.length + 1) c) (vi (k : Int)) (fun _ => by kernel_rfl) (T.look (.slice (cutA A c k 1) (l.length + 1 - k) (c - k)) (by kernel_rfl) (fun w' hh => exec_slice_cap (e := 3) (s := 1) (lx := (some _)) (hx := none) (lo := (k : Int)) (hi := ((l.length + 1 : Nat) : Int)) (k := .i64) (k' := .i64) rfl rfl (by kernel_rfl) (by kernel_rfl) rfl rfl (by omega) (by omega) (by omega)) ?_)))
 refine T.pk (.slice (some ⟨b, 0, none⟩) 1 1) (fun _ => by kernel_rfl) (T.step (W1.copy (E := eInt) (l := l.take (k + 1) ++ l.drop k) (m := [x]) 0 k (l.length + 1 - k) _ _ (by rfl) (by kernel_rfl) rfl (by kernel_rfl) (fun _ => by kernel_rfl) (by decide) rfl rfl (by omega) (fun w' hh => (SlOk.srcF (slok_lit (E := eInt) (f := (fun x => [vi x])) [x] (fun _ _ => rfl) (Nat.le_of_ble_eq_true (by rfl)) (fun j => hh.cellBox (i := 1) (by rfl) j)) (fun _ _ _ _ h => h))) ?_))
 refine T.nil ?_
 refine T.reH (H' := (row 3 eInt A c (insAt l k x) :: box b tb [vi x] :: G)) (congrArg (fun q => row 3 eInt A c q :: box b tb [vi x] :: G) (over_ins1 x hkn (by omega))) ?_
 refine T.seq (T.region (T.p2 (.slice A (l.length + 1) c) (.slice A (l.length + 1) c) (fun _ => by kernel_rfl) (T.nil ?_)))
 refine T.ret rfl ?_
 repeat first | refine T.unthen ?_ | refine T.unblock ?_
 exact T.ret1 rfl (ResIs.tmp rfl) fun w' hh => ⟨A, c, by rw [insAt_length x hk], hh⟩
end Go.Proofs.Ytcmkdoahkncakaa
