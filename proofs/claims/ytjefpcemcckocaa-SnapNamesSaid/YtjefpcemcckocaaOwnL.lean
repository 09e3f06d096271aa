/- What slices.Insert and slices.Delete do to rows of the call's own, written by ownlib.py. Conditions of each: the row is the call's own, the place lies within it, there is room for one more. -/
import Derived.Test.YtjefpcemcckocaaEqL
import Derived.Test.YtjefpcemcckocaaIns
import Derived.Test.YtjefpcemcckocaaRec
namespace Go.Proofs.Ytjefpcemcckocaa
open Go.RowKit
set_option linter.unusedVariables false

set_option maxRecDepth 100000 in
set_option maxHeartbeats 4000000 in
theorem own_clone_Elem (w : World) (V : View) (H : List HObj) (w1 : World) (A : Option Addr) (c : Nat) (l : List DElem) (hs : ∀ w', Hp w V H w' → SlOk (vw w') eElem A c l) (hr : room l.length 56 = true) (hm : l.length ≤ maxLen)
    (hh : Hp w V H w1) : Calls Try.prog 15 #[.slice A l.length c] w1 (fun r w2 => ∃ A' c', r = .returned (.slice A' l.length c') ∧ Hp w V (row 28 eElem A' c' l :: H) w2) := by
  have hs1 := hs _ hh
  refine T.startI (l := [.slice A l.length c]) Try.func15 rfl rfl rfl ?_ hh
  clear hh
  refine T.seq ?_
  refine T.region ?_
  refine T.pure (.slice none 0 0) (by kernel_rfl) (fun _ => by kernel_rfl) ?_
  refine T.nil ?_
  refine T.seq ?_
  refine T.seq ?_
  refine T.region ?_
  refine T.pure (.slice A l.length c) (by kernel_rfl) (fun _ => by kernel_rfl) ?_
  cases A with
  | none =>
    refine T.pure (.bool true) (by kernel_rfl) (fun _ => by kernel_rfl) ?_
    refine T.nil ?_
    refine T.cond true (by kernel_rfl) (by kernel_rfl) (fun _ => ?_) (fun h => Bool.noConfusion h)
    refine T.seq ?_
    refine T.region ?_
    refine T.pure (.slice none 0 0) (by kernel_rfl) (fun _ => by kernel_rfl) ?_
    refine T.nil ?_
    obtain rfl : l = [] := by
      cases l with
      | nil => rfl
      | cons x l => exact absurd (hs1.some_ (k := 0) rfl (by decide)) (by decide)
    refine T.rownil 28 eElem ?_
    refine T.ret rfl ?_
    repeat first | refine T.unthen ?_ | refine T.unblock ?_
    exact T.ret1 rfl (ResIs.tmp rfl) fun w' hh => ⟨none, 0, rfl, hh⟩
  | some a =>
    refine T.pure (.bool false) (by kernel_rfl) (fun _ => by kernel_rfl) ?_
    refine T.nil ?_
    refine T.cond false (by kernel_rfl) (by kernel_rfl) (fun h => Bool.noConfusion h) (fun _ => ?_)
    refine T.skip_code ?_
    refine T.seq ?_
    refine T.region ?_
    refine T.step (W1.new 28 [] (fun b => .slice (some ⟨b, 0, none⟩) 0 0) (by kernel_rfl) (fun _ => by kernel_rfl) (fun b1 => ?_))
    refine T.pure (.slice (some a) l.length c) (by kernel_rfl) (fun _ => by kernel_rfl) ?_
    refine (fun (h : T _ _ _ ((row 28 eElem (some ⟨b1, 0, none⟩) 0 ([] : List DElem)) :: _) _ _) => (fun a w' hf hh => h a w' hf (hh.fresh_obj _ ⟨rfl, rfl, rfl, Nat.le_refl _, fun _ _ _ => rfl⟩ ⟨Nat.le_refl _, by decide, .inl rfl⟩ (fun b hb => by cases hb)) : T _ _ _ _ _ _)) ?_
    obtain ⟨ti, hti, hz1, hz2, hz3⟩ := info_parts (P := Try.prog) (e := 28) (z := .agg #[.int .i64 0, .int .i64 0, .int .i64 0, .int .i64 0, .int .i64 0, .string (ByteArray.mk #[])]) (size := 6) (bytes := 56) (by kernel_rfl)
    refine T.step (W1.append (E := eElem) (l := ([] : List DElem)) (m := l) 0 _ _ 56 ti _ (by rfl) (by kernel_rfl) rfl (by kernel_rfl) hti hz1 hz2 hz3 rfl (by decide) rfl rfl (fun w' hh => (SlOk.srcF (hs w' (hh.sub (.cons _ (.cons _ (List.Sublist.refl _))))) (fun _ _ _ _ h => h))) (by simpa using hr) (by simpa using hm) (fun A' c' => ?_))
    refine T.pure (.slice A' (([] : List DElem) ++ l).length c') (by kernel_rfl) (fun _ => by kernel_rfl) ?_
    refine T.nil ?_
    refine T.ret rfl ?_
    repeat first | refine T.unthen ?_ | refine T.unblock ?_
    exact T.ret1 rfl (ResIs.tmp rfl) fun w' hh => ⟨A', c', rfl, hh.sub (.cons_cons _ (.cons _ (List.Sublist.refl _)))⟩

set_option maxRecDepth 100000 in
set_option maxHeartbeats 4000000 in
theorem own_clone_Snap (w : World) (V : View) (H : List HObj) (w1 : World) (A : Option Addr) (c : Nat) (l : List DSnap) (hs : ∀ w', Hp w V H w' → SlOk (vw w') eSnap A c l) (hr : room l.length 24 = true) (hm : l.length ≤ maxLen)
    (hh : Hp w V H w1) : Calls Try.prog 39 #[.slice A l.length c] w1 (fun r w2 => ∃ A' c', r = .returned (.slice A' l.length c') ∧ Hp w V (row 47 eSnap A' c' l :: H) w2) := by
  have hs1 := hs _ hh
  refine T.startI (l := [.slice A l.length c]) Try.func39 rfl rfl rfl ?_ hh
  clear hh
  refine T.seq ?_
  refine T.region ?_
  refine T.pure (.slice none 0 0) (by kernel_rfl) (fun _ => by kernel_rfl) ?_
  refine T.nil ?_
  refine T.seq ?_
  refine T.seq ?_
  refine T.region ?_
  refine T.pure (.slice A l.length c) (by kernel_rfl) (fun _ => by kernel_rfl) ?_
  cases A with
  | none =>
    refine T.pure (.bool true) (by kernel_rfl) (fun _ => by kernel_rfl) ?_
    refine T.nil ?_
    refine T.cond true (by kernel_rfl) (by kernel_rfl) (fun _ => ?_) (fun h => Bool.noConfusion h)
    refine T.seq ?_
    refine T.region ?_
    refine T.pure (.slice none 0 0) (by kernel_rfl) (fun _ => by kernel_rfl) ?_
    refine T.nil ?_
    obtain rfl : l = [] := by
      cases l with
      | nil => rfl
      | cons x l => exact absurd (hs1.some_ (k := 0) rfl (by decide)) (by decide)
    refine T.rownil 47 eSnap ?_
    refine T.ret rfl ?_
    repeat first | refine T.unthen ?_ | refine T.unblock ?_
    exact T.ret1 rfl (ResIs.tmp rfl) fun w' hh => ⟨none, 0, rfl, hh⟩
  | some a =>
    refine T.pure (.bool false) (by kernel_rfl) (fun _ => by kernel_rfl) ?_
    refine T.nil ?_
    refine T.cond false (by kernel_rfl) (by kernel_rfl) (fun h => Bool.noConfusion h) (fun _ => ?_)
    refine T.skip_code ?_
    refine T.seq ?_
    refine T.region ?_
    refine T.step (W1.new 47 [] (fun b => .slice (some ⟨b, 0, none⟩) 0 0) (by kernel_rfl) (fun _ => by kernel_rfl) (fun b1 => ?_))
    refine T.pure (.slice (some a) l.length c) (by kernel_rfl) (fun _ => by kernel_rfl) ?_
    refine (fun (h : T _ _ _ ((row 47 eSnap (some ⟨b1, 0, none⟩) 0 ([] : List DSnap)) :: _) _ _) => (fun a w' hf hh => h a w' hf (hh.fresh_obj _ ⟨rfl, rfl, rfl, Nat.le_refl _, fun _ _ _ => rfl⟩ ⟨Nat.le_refl _, by decide, .inl rfl⟩ (fun b hb => by cases hb)) : T _ _ _ _ _ _)) ?_
    obtain ⟨ti, hti, hz1, hz2, hz3⟩ := info_parts (P := Try.prog) (e := 47) (z := .agg #[.string (ByteArray.mk #[]), .int .i64 0]) (size := 2) (bytes := 24) (by kernel_rfl)
    refine T.step (W1.append (E := eSnap) (l := ([] : List DSnap)) (m := l) 0 _ _ 24 ti _ (by rfl) (by kernel_rfl) rfl (by kernel_rfl) hti hz1 hz2 hz3 rfl (by decide) rfl rfl (fun w' hh => (SlOk.srcF (hs w' (hh.sub (.cons _ (.cons _ (List.Sublist.refl _))))) (fun _ _ _ _ h => h))) (by simpa using hr) (by simpa using hm) (fun A' c' => ?_))
    refine T.pure (.slice A' (([] : List DSnap) ++ l).length c') (by kernel_rfl) (fun _ => by kernel_rfl) ?_
    refine T.nil ?_
    refine T.ret rfl ?_
    repeat first | refine T.unthen ?_ | refine T.unblock ?_
    exact T.ret1 rfl (ResIs.tmp rfl) fun w' hh => ⟨A', c', rfl, hh.sub (.cons_cons _ (.cons _ (List.Sublist.refl _)))⟩

set_option maxRecDepth 100000 in
set_option maxHeartbeats 4000000 in
theorem own_insert_Snap (w : World) (V : View) (G : List HObj) (w1 : World) (A : Option Addr) (c : Nat) (l : List DSnap) (k b tb : Nat) (x : DSnap) (hk : k ≤ l.length) (hr : room (l.length + 1) 24 = true) (hm : l.length + 1 ≤ maxLen)
    (hh : Hp w V (row 47 eSnap A c l :: box b tb (DSnap.cells x) :: G) w1) : Calls Try.prog 38 #[.slice A l.length c, .int .i64 (k : Int), .slice (some ⟨b, 0, none⟩) 1 1] w1 (fun r w2 => ∃ A' c', r = .returned (.slice A' (insAt l k x).length c') ∧ Hp w V (row 47 eSnap A' c' (insAt l k x) :: box b tb (DSnap.cells x) :: G) w2) := by
  have hVb := hh.base
  have hM : l.length + 1 ≤ 9223372036854775807 := Nat.le_trans hm (by decide)
  have hw1 : IntKind.i64.wrap ((l.length : Int) + 1) = ((l.length + 1 : Nat) : Int) := by rw [IntKind.wrap_i64]; omega
  have hw2 : IntKind.i64.wrap ((k : Int) + 1) = ((k + 1 : Nat) : Int) := by rw [IntKind.wrap_i64]; omega
  have hw3 : IntKind.i64.wrap (((l.length + 1 : Nat) : Int) - (k : Int)) = ((l.length + 1 - k : Nat) : Int) := by rw [IntKind.wrap_i64]; omega
  refine T.startI (l := [.slice A l.length c, .int .i64 (k : Int), .slice (some ⟨b, 0, none⟩) 1 1]) Try.func38 rfl rfl rfl ?_ hh
  clear hh
  refine T.rowlen 0 rfl (fun hlc hcm => ?_)
  refine T.seq ?_
  refine T.region ?_
  refine T.pure (.slice none 0 0) (by kernel_rfl) (fun _ => by kernel_rfl) ?_
  refine T.nil ?_
  refine T.seq ?_
  refine T.region ?_
  refine T.pure (.slice A l.length c) (by kernel_rfl) (fun _ => by kernel_rfl) ?_
  refine T.pure (.int .i64 (k : Int)) (by kernel_rfl) (fun _ => by kernel_rfl) ?_
  refine T.look (.slice (cutA A c k 2) (l.length - k) (c - k)) (by kernel_rfl) (fun w' hh => exec_slice_cap (e := 47) (s := 2) (lx := (some _)) (hx := none) (lo := (k : Int)) (hi := (l.length : Int)) (k := .i64) (k' := .i64) rfl rfl (by kernel_rfl) (by kernel_rfl) rfl rfl (by omega) (by omega) (by omega)) ?_
  refine T.nil ?_
  refine T.seq ?_
  refine T.region ?_
  refine T.pure (.slice (some ⟨b, 0, none⟩) 1 1) (by kernel_rfl) (fun _ => by kernel_rfl) ?_
  refine T.pure (.int .i64 1) (by kernel_rfl) (fun _ => by kernel_rfl) ?_
  refine T.pure (.int .i64 1) (by kernel_rfl) (fun _ => by kernel_rfl) ?_
  refine T.nil ?_
  refine T.seq ?_
  refine T.seq ?_
  refine T.region ?_
  refine T.pure (.int .i64 1) (by kernel_rfl) (fun _ => by kernel_rfl) ?_
  refine T.pure (.bool false) (by kernel_rfl) (fun _ => by kernel_rfl) ?_
  refine T.nil ?_
  refine T.cond false (by kernel_rfl) (by kernel_rfl) (fun h => Bool.noConfusion h) (fun _ => ?_)
  refine T.skip_code ?_
  refine T.seq ?_
  refine T.region ?_
  refine T.pure (.slice A l.length c) (by kernel_rfl) (fun _ => by kernel_rfl) ?_
  refine T.pure (.int .i64 (l.length : Int)) (by kernel_rfl) (fun _ => by kernel_rfl) ?_
  refine T.pure (.int .i64 (l.length : Int)) (by kernel_rfl) (fun _ => by kernel_rfl) ?_
  refine T.nil ?_
  refine T.seq ?_
  refine T.seq ?_
  refine T.region ?_
  refine T.pure (.int .i64 (k : Int)) (by kernel_rfl) (fun _ => by kernel_rfl) ?_
  refine T.pure (.int .i64 (l.length : Int)) (by kernel_rfl) (fun _ => by kernel_rfl) ?_
  refine T.pure (.bool ((k : Int) == (l.length : Int))) (by kernel_rfl) (fun _ => by kernel_rfl) ?_
  refine T.nil ?_
  refine T.cond ((k : Int) == (l.length : Int)) (by kernel_rfl) (by kernel_rfl) (fun hc => ?_) (fun hc => ?_)
  · have hke : k = l.length := by have := eq_of_beq hc; omega
    subst hke
    refine T.seq ?_
    refine T.region ?_
    refine T.pure (.slice A l.length c) (by kernel_rfl) (fun _ => by kernel_rfl) ?_
    refine T.pure (.slice (some ⟨b, 0, none⟩) 1 1) (by kernel_rfl) (fun _ => by kernel_rfl) ?_
    obtain ⟨ti, hti, hz1, hz2, hz3⟩ := info_parts (P := Try.prog) (e := 47) (z := .agg #[.string (ByteArray.mk #[]), .int .i64 0]) (size := 2) (bytes := 24) (by kernel_rfl)
    refine T.step (W1.append (E := eSnap) (l := l) (m := [x]) 0 _ _ 24 ti _ (by rfl) (by kernel_rfl) rfl (by kernel_rfl) hti hz1 hz2 hz3 rfl (by decide) rfl rfl (fun w' hh => (SlOk.srcF (slok_lit (E := eSnap) (f := DSnap.cells) [x] (fun _ _ => rfl) (Nat.le_of_ble_eq_true (by rfl)) (fun j => hh.cellBox (i := 1) (by rfl) j)) (fun _ _ _ _ h => h))) hr hm (fun A' c' => ?_))
    refine T.pure (.slice A' (l ++ [x]).length c') (by kernel_rfl) (fun _ => by kernel_rfl) ?_
    refine T.nil ?_
    refine T.ret rfl ?_
    repeat first | refine T.unthen ?_ | refine T.unblock ?_
    exact T.ret1 rfl (ResIs.tmp rfl) fun w' hh => ⟨A', c', by rw [insAt_end], by rw [insAt_end]; exact hh⟩
  have hkn : k < l.length := by have : ¬ ((k : Int) = (l.length : Int)) := ne_of_beq_false hc; omega
  refine T.skip_code ?_
  refine T.seq ?_
  refine T.seq ?_
  refine T.region ?_
  refine T.pure (.int .i64 (l.length : Int)) (by kernel_rfl) (fun _ => by kernel_rfl) ?_
  refine T.pure (.int .i64 1) (by kernel_rfl) (fun _ => by kernel_rfl) ?_
  refine T.pure (.int .i64 (IntKind.i64.wrap ((l.length : Int) + 1))) (by kernel_rfl) (fun _ => by kernel_rfl) ?_
  refine T.reslot 28 (.int .i64 ((l.length + 1 : Nat) : Int)) rfl (by rw [hw1]) ?_
  refine T.pure (.slice A l.length c) (by kernel_rfl) (fun _ => by kernel_rfl) ?_
  refine T.pure (.int .i64 (c : Int)) (by kernel_rfl) (fun _ => by kernel_rfl) ?_
  refine T.pure (.bool (decide ((c : Int) < ((l.length + 1 : Nat) : Int)))) (by kernel_rfl) (fun _ => by kernel_rfl) ?_
  refine T.nil ?_
  refine T.cond (decide ((c : Int) < ((l.length + 1 : Nat) : Int))) (by kernel_rfl) (by kernel_rfl) (fun hc => ?_) (fun hc => ?_)
  · have hg : c < k + (l.length + 1 - k) := by have := of_decide_eq_true hc; omega
    have hL1 : (l.take k ++ List.replicate (l.length + 1 - k) ((DSnap.mk (ByteArray.mk #[]) 0))).length = l.length + 1 := by simp only [List.length_append, List.length_take, List.length_replicate]; omega
    refine T.seq ?_
    refine T.region ?_
    refine T.pure (.slice A l.length c) (by kernel_rfl) (fun _ => by kernel_rfl) ?_
    refine T.pure (.int .i64 (k : Int)) (by kernel_rfl) (fun _ => by kernel_rfl) ?_
    refine T.look (.slice (cutA A c 0 2) k c) (by kernel_rfl) (fun w' hh => exec_slice_cap (e := 47) (s := 2) (lx := none) (hx := (some _)) (lo := 0) (hi := (k : Int)) (k := .i64) (k' := .i64) rfl rfl (by kernel_rfl) (by kernel_rfl) rfl rfl (by omega) (by omega) (by omega)) ?_
    refine T.reslot 34 (.slice A k c) rfl (by rw [cutA_zero]) ?_
    refine T.pure (.int .i64 (l.length : Int)) (by kernel_rfl) (fun _ => by kernel_rfl) ?_
    refine T.pure (.int .i64 1) (by kernel_rfl) (fun _ => by kernel_rfl) ?_
    refine T.pure (.int .i64 (IntKind.i64.wrap ((l.length : Int) + 1))) (by kernel_rfl) (fun _ => by kernel_rfl) ?_
    refine T.reslot 37 (.int .i64 ((l.length + 1 : Nat) : Int)) rfl (by rw [hw1]) ?_
    refine T.pure (.int .i64 (k : Int)) (by kernel_rfl) (fun _ => by kernel_rfl) ?_
    refine T.pure (.int .i64 (IntKind.i64.wrap (((l.length + 1 : Nat) : Int) - (k : Int)))) (by kernel_rfl) (fun _ => by kernel_rfl) ?_
    refine T.reslot 39 (.int .i64 ((l.length + 1 - k : Nat) : Int)) rfl (by rw [hw3]) ?_
    obtain ⟨ti, hti, hz1, hz2, hz3⟩ := info_parts (P := Try.prog) (e := 47) (z := .agg #[.string (ByteArray.mk #[]), .int .i64 0]) (size := 2) (bytes := 24) (by kernel_rfl)
    refine T.step (W1.growzTo (E := eSnap) (x := (DSnap.mk (ByteArray.mk #[]) 0)) (z := .agg #[.string (ByteArray.mk #[]), .int .i64 0]) (kn := .i64) 0 k (l.length + 1 - k) _ _ 24 ti (by rfl) hk (by omega) (by omega) hg (by kernel_rfl) rfl (by kernel_rfl) (by kernel_rfl) hti hz1 hz2 hz3 (fun _ => rfl) rfl (by decide) rfl rfl (by rw [show k + (l.length + 1 - k) = l.length + 1 by omega]; exact hr) (by omega) (fun A' c' => ?_))
    refine T.pure (.slice A' (l.take k ++ List.replicate (l.length + 1 - k) ((DSnap.mk (ByteArray.mk #[]) 0))).length c') (by kernel_rfl) (fun _ => by kernel_rfl) ?_
    refine T.nil ?_
    refine T.rowlen 0 rfl (fun hlc' hcm' => ?_)
    refine T.seq ?_
    refine T.region ?_
    refine T.pure (.slice A' (l.take k ++ List.replicate (l.length + 1 - k) ((DSnap.mk (ByteArray.mk #[]) 0))).length c') (by kernel_rfl) (fun _ => by kernel_rfl) ?_
    refine T.pure (.int .i64 (k : Int)) (by kernel_rfl) (fun _ => by kernel_rfl) ?_
    refine T.look (.slice (cutA A' c' k 2) ((l.take k ++ List.replicate (l.length + 1 - k) ((DSnap.mk (ByteArray.mk #[]) 0))).length - k) (c' - k)) (by kernel_rfl) (fun w' hh => exec_slice_cap (e := 47) (s := 2) (lx := (some _)) (hx := none) (lo := (k : Int)) (hi := (((l.take k ++ List.replicate (l.length + 1 - k) ((DSnap.mk (ByteArray.mk #[]) 0))).length : Nat) : Int)) (k := .i64) (k' := .i64) rfl rfl (by kernel_rfl) (by kernel_rfl) rfl rfl (by omega) (by omega) (by omega)) ?_
    refine T.pure (.slice (some ⟨b, 0, none⟩) 1 1) (by kernel_rfl) (fun _ => by kernel_rfl) ?_
    refine T.step (W1.copy (E := eSnap) (l := (l.take k ++ List.replicate (l.length + 1 - k) ((DSnap.mk (ByteArray.mk #[]) 0)))) (m := [x]) 0 k ((l.take k ++ List.replicate (l.length + 1 - k) ((DSnap.mk (ByteArray.mk #[]) 0))).length - k) _ _ (by rfl) (by kernel_rfl) rfl (by kernel_rfl) (fun _ => by kernel_rfl) (by decide) rfl rfl (by omega) (fun w' hh => (SlOk.srcF (slok_lit (E := eSnap) (f := DSnap.cells) [x] (fun _ _ => rfl) (Nat.le_of_ble_eq_true (by rfl)) (fun j => hh.cellBox (i := 2) (by rfl) j)) (fun _ _ _ _ h => h))) ?_)
    refine T.nil ?_
    have hL2 : (over (l.take k ++ List.replicate (l.length + 1 - k) ((DSnap.mk (ByteArray.mk #[]) 0))) k ([x].take ((l.take k ++ List.replicate (l.length + 1 - k) ((DSnap.mk (ByteArray.mk #[]) 0))).length - k))).length = (l.take k ++ List.replicate (l.length + 1 - k) ((DSnap.mk (ByteArray.mk #[]) 0))).length := over_length _ _ _ (by rw [List.length_take]; have : [x].length = 1 := rfl; omega)
    have hld : (l.drop k).length = l.length - k := List.length_drop
    have hcut : lslice l (k : Int) (l.length : Int) = some (l.drop k) := by unfold lslice; rw [if_pos ⟨by omega, by omega, by omega⟩]; simp
    refine T.seq ?_
    refine T.held [] (by kernel_rfl) ?_
    refine TA.take 0 (.slice A' (l.take k ++ List.replicate (l.length + 1 - k) ((DSnap.mk (ByteArray.mk #[]) 0))).length c') rfl (by kernel_rfl) (by kernel_rfl) (by kernel_rfl) (fun _ _ _ h => h) (Hp.old (View.le_refl _) hVb (List.nil_sublist _) OldAll.nil) (by kernel_rfl) (fun _ _ => by kernel_rfl) ?_
    refine TA.take 1 (.int .i64 (k : Int)) rfl (by kernel_rfl) (by kernel_rfl) (by kernel_rfl) (fun _ _ _ h => h) (Hp.old (View.le_refl _) hVb (List.nil_sublist _) OldAll.nil) (by kernel_rfl) (fun _ _ => by kernel_rfl) ?_
    refine TA.take 2 (.int .i64 1) rfl (by kernel_rfl) (by kernel_rfl) (by kernel_rfl) (fun _ _ _ h => h) (Hp.old (View.le_refl _) hVb (List.nil_sublist _) OldAll.nil) (by kernel_rfl) (fun _ _ => by kernel_rfl) ?_
    refine TA.take 3 (.int .i64 (IntKind.i64.wrap ((k : Int) + 1))) rfl (by kernel_rfl) (by kernel_rfl) (by kernel_rfl) (fun _ _ _ h => h) (Hp.old (View.le_refl _) hVb (List.nil_sublist _) OldAll.nil) (by kernel_rfl) (fun _ _ => by kernel_rfl) ?_
    refine T.reslot 49 (.int .i64 ((k + 1 : Nat) : Int)) rfl (by rw [hw2]) ?_
    refine TA.take 4 (.slice (cutA A' c' (k + 1) 2) ((l.take k ++ List.replicate (l.length + 1 - k) ((DSnap.mk (ByteArray.mk #[]) 0))).length - (k + 1)) (c' - (k + 1))) rfl (by kernel_rfl) (by kernel_rfl) (by kernel_rfl) (fun _ _ _ h => h) (Hp.old (View.le_refl _) hVb (List.nil_sublist _) OldAll.nil) (by kernel_rfl) (fun w' hh => exec_slice_cap (e := 47) (s := 2) (lx := (some _)) (hx := none) (lo := ((k + 1 : Nat) : Int)) (hi := (((l.take k ++ List.replicate (l.length + 1 - k) ((DSnap.mk (ByteArray.mk #[]) 0))).length : Nat) : Int)) (k := .i64) (k' := .i64) rfl rfl (by kernel_rfl) (by kernel_rfl) rfl rfl (by omega) (by omega) (by omega)) ?_
    refine TA.take 5 (.slice A l.length c) rfl (by kernel_rfl) (by kernel_rfl) (by kernel_rfl) (fun _ _ _ h => h) (Hp.old (View.le_refl _) hVb (List.nil_sublist _) OldAll.nil) (by kernel_rfl) (fun _ _ => by kernel_rfl) ?_
    refine TA.take 6 (.int .i64 (k : Int)) rfl (by kernel_rfl) (by kernel_rfl) (by kernel_rfl) (fun _ _ _ h => h) (Hp.old (View.le_refl _) hVb (List.nil_sublist _) OldAll.nil) (by kernel_rfl) (fun _ _ => by kernel_rfl) ?_
    refine TA.take 7 (.slice (cutA A c k 2) (l.length - k) (c - k)) rfl (by kernel_rfl) (by kernel_rfl) (by kernel_rfl) (fun _ _ _ h => h) (Hp.old (View.le_refl _) hVb (List.nil_sublist _) OldAll.nil) (by kernel_rfl) (fun w' hh => exec_slice_cap (e := 47) (s := 2) (lx := (some _)) (hx := none) (lo := (k : Int)) (hi := (l.length : Int)) (k := .i64) (k' := .i64) rfl rfl (by kernel_rfl) (by kernel_rfl) rfl rfl (by omega) (by omega) (by omega)) ?_
    refine T.reslot 53 (.slice (cutA A c k 2) (l.drop k).length (c - k)) rfl (by rw [hld]) ?_
    refine TA.all [8] (by kernel_rfl) rfl ⟨?_, trivial⟩
    refine TA.br rfl (W1.copy (E := eSnap) (l := over (l.take k ++ List.replicate (l.length + 1 - k) ((DSnap.mk (ByteArray.mk #[]) 0))) k ([x].take ((l.take k ++ List.replicate (l.length + 1 - k) ((DSnap.mk (ByteArray.mk #[]) 0))).length - k))) (m := l.drop k) 0 (k + 1) ((l.take k ++ List.replicate (l.length + 1 - k) ((DSnap.mk (ByteArray.mk #[]) 0))).length - (k + 1)) _ _ (by rfl) (by kernel_rfl) rfl (by kernel_rfl) (fun _ => by kernel_rfl) (by decide) rfl rfl (by rw [hL2]; omega) (fun w' hh => (SlOk.srcF (SlOk.cut (hh.row_slOk (i := 1) (by rfl)) hcut) (fun _ _ _ _ h => h))) ?_)
    refine TA.on (Hp.old (View.le_refl _) hVb (List.nil_sublist _) OldAll.nil) ?_
    refine TA.done (by kernel_rfl) ?_
    refine T.reH (H' := (row 47 eSnap A' c' (insAt l k x) :: row 47 eSnap A c l :: box b tb (DSnap.cells x) :: G)) (congrArg (fun q => row 47 eSnap A' c' q :: row 47 eSnap A c l :: box b tb (DSnap.cells x) :: G) (over_ins2 x _ hkn (by omega) (by omega))) ?_
    refine T.seq ?_
    refine T.region ?_
    refine T.pure (.slice A' (l.take k ++ List.replicate (l.length + 1 - k) ((DSnap.mk (ByteArray.mk #[]) 0))).length c') (by kernel_rfl) (fun _ => by kernel_rfl) ?_
    refine T.pure (.slice A' (l.take k ++ List.replicate (l.length + 1 - k) ((DSnap.mk (ByteArray.mk #[]) 0))).length c') (by kernel_rfl) (fun _ => by kernel_rfl) ?_
    refine T.nil ?_
    refine T.ret rfl ?_
    repeat first | refine T.unthen ?_ | refine T.unblock ?_
    exact T.ret1 rfl (ResIs.tmp rfl) fun w' hh => ⟨A', c', by rw [insAt_length x hk, hL1], hh.sub (.cons_cons _ (.cons _ (List.Sublist.refl _)))⟩
  have hroom : l.length + 1 ≤ c := by have := of_decide_eq_false hc; omega
  have hld : (l.drop k).length = l.length - k := List.length_drop
  have hcut : lslice l (k : Int) (l.length : Int) = some (l.drop k) := by unfold lslice; rw [if_pos ⟨by omega, by omega, by omega⟩]; simp
  have hlt : (l.take (k + 1)).length = k + 1 := by rw [List.length_take]; omega
  have hl3 : (l.take (k + 1) ++ l.drop k).length = l.length + 1 := by rw [List.length_append, hlt, hld]; omega
  refine T.skip_code ?_
  refine T.seq ?_
  refine T.region ?_
  refine T.pure (.slice A l.length c) (by kernel_rfl) (fun _ => by kernel_rfl) ?_
  refine T.pure (.int .i64 (l.length : Int)) (by kernel_rfl) (fun _ => by kernel_rfl) ?_
  refine T.pure (.int .i64 1) (by kernel_rfl) (fun _ => by kernel_rfl) ?_
  refine T.pure (.int .i64 (IntKind.i64.wrap ((l.length : Int) + 1))) (by kernel_rfl) (fun _ => by kernel_rfl) ?_
  refine T.reslot 59 (.int .i64 ((l.length + 1 : Nat) : Int)) rfl (by rw [hw1]) ?_
  refine T.look (.slice (cutA A c 0 2) (l.length + 1) c) (by kernel_rfl) (fun w' hh => exec_slice_cap (e := 47) (s := 2) (lx := none) (hx := (some _)) (lo := 0) (hi := ((l.length + 1 : Nat) : Int)) (k := .i64) (k' := .i64) rfl rfl (by kernel_rfl) (by kernel_rfl) rfl rfl (by omega) (by omega) (by omega)) ?_
  refine T.reslot 60 (.slice A (l.length + 1) c) rfl (by rw [cutA_zero]) ?_
  refine T.pure (.slice A (l.length + 1) c) (by kernel_rfl) (fun _ => by kernel_rfl) ?_
  refine T.nil ?_
  refine T.seq ?_
  refine T.seq ?_
  refine T.region ?_
  refine T.pure (.slice (some ⟨b, 0, none⟩) 1 1) (by kernel_rfl) (fun _ => by kernel_rfl) ?_
  refine T.pure (.slice A (l.length + 1) c) (by kernel_rfl) (fun _ => by kernel_rfl) ?_
  refine T.pure (.int .i64 (k : Int)) (by kernel_rfl) (fun _ => by kernel_rfl) ?_
  refine T.pure (.int .i64 1) (by kernel_rfl) (fun _ => by kernel_rfl) ?_
  refine T.pure (.int .i64 (IntKind.i64.wrap ((k : Int) + 1))) (by kernel_rfl) (fun _ => by kernel_rfl) ?_
  refine T.reslot 65 (.int .i64 ((k + 1 : Nat) : Int)) rfl (by rw [hw2]) ?_
  refine T.look (.slice (cutA A c (k + 1) 2) (l.length + 1 - (k + 1)) (c - (k + 1))) (by kernel_rfl) (fun w' hh => exec_slice_cap (e := 47) (s := 2) (lx := (some _)) (hx := none) (lo := ((k + 1 : Nat) : Int)) (hi := ((l.length + 1 : Nat) : Int)) (k := .i64) (k' := .i64) rfl rfl (by kernel_rfl) (by kernel_rfl) rfl rfl (by omega) (by omega) (by omega)) ?_
  refine T.look (.bool false) (by kernel_rfl) (fun w' hh => exec_overlaps (E := eSnap) (e := 47) (t := 42) (tR := 4) (s := 2) (i := 1) (j := 0) (off := (k + 1) * 2) rfl rfl rfl Try.func61 (by kernel_rfl) (by kernel_rfl) (by kernel_rfl) (by kernel_rfl) (by kernel_rfl) (fun _ => by kernel_rfl) hh (by rfl) (by rfl) (by decide) (fun g hg => cutA_some hg (by omega)) (by omega) (by decide)) ?_
  refine T.pure (.bool true) (by kernel_rfl) (fun _ => by kernel_rfl) ?_
  refine T.nil ?_
  refine T.cond true (by kernel_rfl) (by kernel_rfl) (fun _ => ?_) (fun h => Bool.noConfusion h)
  refine T.seq ?_
  refine T.held [] (by kernel_rfl) ?_
  refine TA.take 0 (.slice A (l.length + 1) c) rfl (by kernel_rfl) (by kernel_rfl) (by kernel_rfl) (fun _ _ _ h => h) (Hp.old (View.le_refl _) hVb (List.nil_sublist _) OldAll.nil) (by kernel_rfl) (fun _ _ => by kernel_rfl) ?_
  refine TA.take 1 (.int .i64 (k : Int)) rfl (by kernel_rfl) (by kernel_rfl) (by kernel_rfl) (fun _ _ _ h => h) (Hp.old (View.le_refl _) hVb (List.nil_sublist _) OldAll.nil) (by kernel_rfl) (fun _ _ => by kernel_rfl) ?_
  refine TA.take 2 (.int .i64 1) rfl (by kernel_rfl) (by kernel_rfl) (by kernel_rfl) (fun _ _ _ h => h) (Hp.old (View.le_refl _) hVb (List.nil_sublist _) OldAll.nil) (by kernel_rfl) (fun _ _ => by kernel_rfl) ?_
  refine TA.take 3 (.int .i64 (IntKind.i64.wrap ((k : Int) + 1))) rfl (by kernel_rfl) (by kernel_rfl) (by kernel_rfl) (fun _ _ _ h => h) (Hp.old (View.le_refl _) hVb (List.nil_sublist _) OldAll.nil) (by kernel_rfl) (fun _ _ => by kernel_rfl) ?_
  refine T.reslot 72 (.int .i64 ((k + 1 : Nat) : Int)) rfl (by rw [hw2]) ?_
  refine TA.take 4 (.slice (cutA A c (k + 1) 2) (l.length + 1 - (k + 1)) (c - (k + 1))) rfl (by kernel_rfl) (by kernel_rfl) (by kernel_rfl) (fun _ _ _ h => h) (Hp.old (View.le_refl _) hVb (List.nil_sublist _) OldAll.nil) (by kernel_rfl) (fun w' hh => exec_slice_cap (e := 47) (s := 2) (lx := (some _)) (hx := none) (lo := ((k + 1 : Nat) : Int)) (hi := ((l.length + 1 : Nat) : Int)) (k := .i64) (k' := .i64) rfl rfl (by kernel_rfl) (by kernel_rfl) rfl rfl (by omega) (by omega) (by omega)) ?_
  refine TA.take 5 (.slice A (l.length + 1) c) rfl (by kernel_rfl) (by kernel_rfl) (by kernel_rfl) (fun _ _ _ h => h) (Hp.old (View.le_refl _) hVb (List.nil_sublist _) OldAll.nil) (by kernel_rfl) (fun _ _ => by kernel_rfl) ?_
  refine TA.take 6 (.int .i64 (k : Int)) rfl (by kernel_rfl) (by kernel_rfl) (by kernel_rfl) (fun _ _ _ h => h) (Hp.old (View.le_refl _) hVb (List.nil_sublist _) OldAll.nil) (by kernel_rfl) (fun _ _ => by kernel_rfl) ?_
  refine TA.take 7 (.slice (cutA A c k 2) (l.length + 1 - k) (c - k)) rfl (by kernel_rfl) (by kernel_rfl) (by kernel_rfl) (fun _ _ _ h => h) (Hp.old (View.le_refl _) hVb (List.nil_sublist _) OldAll.nil) (by kernel_rfl) (fun w' hh => exec_slice_cap (e := 47) (s := 2) (lx := (some _)) (hx := none) (lo := (k : Int)) (hi := ((l.length + 1 : Nat) : Int)) (k := .i64) (k' := .i64) rfl rfl (by kernel_rfl) (by kernel_rfl) rfl rfl (by omega) (by omega) (by omega)) ?_
  refine TA.all [8] (by kernel_rfl) rfl ⟨?_, trivial⟩
  refine TA.br rfl (W1.copyTo (E := eSnap) (l := l) (m := l.drop k) 0 (k + 1) (l.length + 1 - (k + 1)) (l.length + 1 - k) _ _ (by rfl) (by kernel_rfl) rfl (by kernel_rfl) (fun _ => by kernel_rfl) (by decide) rfl rfl (by rw [hld]; omega) (by omega) (by omega) (by omega) (by omega) (fun w' hh => (SlOk.srcF (SlOk.cut (hh.row_slOk (i := 0) (by rfl)) hcut) (fun _ _ _ _ h => h))) ?_)
  refine TA.on (Hp.old (View.le_refl _) hVb (List.nil_sublist _) OldAll.nil) ?_
  refine TA.done (by kernel_rfl) ?_
  refine T.seq ?_
  refine T.region ?_
  refine T.pure (.slice A (l.length + 1) c) (by kernel_rfl) (fun _ => by kernel_rfl) ?_
  refine T.pure (.int .i64 (k : Int)) (by kernel_rfl) (fun _ => by kernel_rfl) ?_
  refine T.look (.slice (cutA A c k 2) (l.length + 1 - k) (c - k)) (by kernel_rfl) (fun w' hh => exec_slice_cap (e := 47) (s := 2) (lx := (some _)) (hx := none) (lo := (k : Int)) (hi := ((l.length + 1 : Nat) : Int)) (k := .i64) (k' := .i64) rfl rfl (by kernel_rfl) (by kernel_rfl) rfl rfl (by omega) (by omega) (by omega)) ?_
  refine T.pure (.slice (some ⟨b, 0, none⟩) 1 1) (by kernel_rfl) (fun _ => by kernel_rfl) ?_
  refine T.step (W1.copy (E := eSnap) (l := l.take (k + 1) ++ l.drop k) (m := [x]) 0 k (l.length + 1 - k) _ _ (by rfl) (by kernel_rfl) rfl (by kernel_rfl) (fun _ => by kernel_rfl) (by decide) rfl rfl (by omega) (fun w' hh => (SlOk.srcF (slok_lit (E := eSnap) (f := DSnap.cells) [x] (fun _ _ => rfl) (Nat.le_of_ble_eq_true (by rfl)) (fun j => hh.cellBox (i := 1) (by rfl) j)) (fun _ _ _ _ h => h))) ?_)
  refine T.nil ?_
  refine T.reH (H' := (row 47 eSnap A c (insAt l k x) :: box b tb (DSnap.cells x) :: G)) (congrArg (fun q => row 47 eSnap A c q :: box b tb (DSnap.cells x) :: G) (over_ins1 x hkn (by omega))) ?_
  refine T.seq ?_
  refine T.region ?_
  refine T.pure (.slice A (l.length + 1) c) (by kernel_rfl) (fun _ => by kernel_rfl) ?_
  refine T.pure (.slice A (l.length + 1) c) (by kernel_rfl) (fun _ => by kernel_rfl) ?_
  refine T.nil ?_
  refine T.ret rfl ?_
  repeat first | refine T.unthen ?_ | refine T.unblock ?_
  exact T.ret1 rfl (ResIs.tmp rfl) fun w' hh => ⟨A, c, by rw [insAt_length x hk], hh⟩

set_option maxRecDepth 100000 in
set_option maxHeartbeats 4000000 in
theorem own_delete_Snap (w : World) (V : View) (G : List HObj) (w1 : World) (A : Option Addr) (c : Nat) (l : List DSnap) (i j : Nat) (hij : i < j) (hj : j ≤ l.length)
    (hh : Hp w V (row 47 eSnap A c l :: G) w1) : Calls Try.prog 40 #[.slice A l.length c, .int .i64 (i : Int), .int .i64 (j : Int)] w1 (fun r w2 => ∃ A' c', r = .returned (.slice A' (delAt l i j).length c') ∧ Hp w V (row 47 eSnap A' c' (delAt l i j) :: G) w2) := by
  have hVb := hh.base
  refine T.startI (l := [.slice A l.length c, .int .i64 (i : Int), .int .i64 (j : Int)]) Try.func40 rfl rfl rfl ?_ hh
  clear hh
  refine T.rowlen 0 rfl (fun hlc hcm => ?_)
  have hne : ((i : Int) == (j : Int)) = false := by rw [beq_eq_false_iff_ne]; omega
  have hld : (l.drop j).length = l.length - j := List.length_drop
  have hcut : lslice l (j : Int) (l.length : Int) = some (l.drop j) := by unfold lslice; rw [if_pos ⟨by omega, by omega, by omega⟩]; simp
  have hol : (over l i (l.drop j)).length = l.length := over_length _ _ _ (by rw [hld]; omega)
  refine T.seq ?_
  refine T.region ?_
  refine T.pure (.slice none 0 0) (by kernel_rfl) (fun _ => by kernel_rfl) ?_
  refine T.nil ?_
  refine T.seq ?_
  refine T.region ?_
  refine T.pure (.slice A l.length c) (by kernel_rfl) (fun _ => by kernel_rfl) ?_
  refine T.pure (.int .i64 (i : Int)) (by kernel_rfl) (fun _ => by kernel_rfl) ?_
  refine T.pure (.int .i64 (j : Int)) (by kernel_rfl) (fun _ => by kernel_rfl) ?_
  refine T.pure (.slice A l.length c) (by kernel_rfl) (fun _ => by kernel_rfl) ?_
  refine T.pure (.int .i64 (l.length : Int)) (by kernel_rfl) (fun _ => by kernel_rfl) ?_
  refine T.step (W1.lookAny (by kernel_rfl) (fun w' hh => exec_slice3 (e := 47) (s := 2) (k := .i64) (k' := .i64) (k'' := .i64) rfl rfl (by kernel_rfl) (by kernel_rfl) rfl rfl rfl (by omega) (by omega) (by omega) (by omega)) (fun v9 => ?_))
  refine T.nil ?_
  refine T.seq ?_
  refine T.seq ?_
  refine T.region ?_
  refine T.pure (.int .i64 (i : Int)) (by kernel_rfl) (fun _ => by kernel_rfl) ?_
  refine T.pure (.int .i64 (j : Int)) (by kernel_rfl) (fun _ => by kernel_rfl) ?_
  refine T.pure (.bool ((i : Int) == (j : Int))) (by kernel_rfl) (fun _ => by kernel_rfl) ?_
  refine T.reslot 16 (.bool false) rfl (by rw [hne]) ?_
  refine T.nil ?_
  refine T.cond false (by kernel_rfl) (by kernel_rfl) (fun h => Bool.noConfusion h) (fun _ => ?_)
  refine T.skip_code ?_
  refine T.seq ?_
  refine T.region ?_
  refine T.pure (.slice A l.length c) (by kernel_rfl) (fun _ => by kernel_rfl) ?_
  refine T.pure (.int .i64 (l.length : Int)) (by kernel_rfl) (fun _ => by kernel_rfl) ?_
  refine T.pure (.int .i64 (l.length : Int)) (by kernel_rfl) (fun _ => by kernel_rfl) ?_
  refine T.nil ?_
  refine T.seq ?_
  refine T.held [] (by kernel_rfl) ?_
  refine TA.take 0 (.slice A l.length c) rfl (by kernel_rfl) (by kernel_rfl) (by kernel_rfl) (fun _ _ _ h => h) (Hp.old (View.le_refl _) hVb (List.nil_sublist _) OldAll.nil) (by kernel_rfl) (fun _ _ => by kernel_rfl) ?_
  refine TA.take 1 (.int .i64 (i : Int)) rfl (by kernel_rfl) (by kernel_rfl) (by kernel_rfl) (fun _ _ _ h => h) (Hp.old (View.le_refl _) hVb (List.nil_sublist _) OldAll.nil) (by kernel_rfl) (fun _ _ => by kernel_rfl) ?_
  refine TA.take 2 (.slice (cutA A c 0 2) i c) rfl (by kernel_rfl) (by kernel_rfl) (by kernel_rfl) (fun _ _ _ h => h) (Hp.old (View.le_refl _) hVb (List.nil_sublist _) OldAll.nil) (by kernel_rfl) (fun w' hh => exec_slice_cap (e := 47) (s := 2) (lx := none) (hx := (some _)) (lo := 0) (hi := (i : Int)) (k := .i64) (k' := .i64) rfl rfl (by kernel_rfl) (by kernel_rfl) rfl rfl (by omega) (by omega) (by omega)) ?_
  refine T.reslot 22 (.slice A i c) rfl (by rw [cutA_zero]) ?_
  refine TA.take 3 (.slice A l.length c) rfl (by kernel_rfl) (by kernel_rfl) (by kernel_rfl) (fun _ _ _ h => h) (Hp.old (View.le_refl _) hVb (List.nil_sublist _) OldAll.nil) (by kernel_rfl) (fun _ _ => by kernel_rfl) ?_
  refine TA.take 4 (.int .i64 (j : Int)) rfl (by kernel_rfl) (by kernel_rfl) (by kernel_rfl) (fun _ _ _ h => h) (Hp.old (View.le_refl _) hVb (List.nil_sublist _) OldAll.nil) (by kernel_rfl) (fun _ _ => by kernel_rfl) ?_
  refine TA.take 5 (.slice (cutA A c j 2) (l.length - j) (c - j)) rfl (by kernel_rfl) (by kernel_rfl) (by kernel_rfl) (fun _ _ _ h => h) (Hp.old (View.le_refl _) hVb (List.nil_sublist _) OldAll.nil) (by kernel_rfl) (fun w' hh => exec_slice_cap (e := 47) (s := 2) (lx := (some _)) (hx := none) (lo := (j : Int)) (hi := (l.length : Int)) (k := .i64) (k' := .i64) rfl rfl (by kernel_rfl) (by kernel_rfl) rfl rfl (by omega) (by omega) (by omega)) ?_
  refine T.reslot 25 (.slice (cutA A c j 2) (l.drop j).length (c - j)) rfl (by rw [hld]) ?_
  obtain ⟨ti, hti, hz1, hz2, hz3⟩ := info_parts (P := Try.prog) (e := 47) (z := .agg #[.string (ByteArray.mk #[]), .int .i64 0]) (size := 2) (bytes := 24) (by kernel_rfl)
  refine TA.all [6] (by kernel_rfl) rfl ⟨?_, trivial⟩
  refine TA.br rfl (W1.appendIn (E := eSnap) (l := l) (m := l.drop j) 0 i _ _ ti (by rfl) (by rw [hld]; omega) (by kernel_rfl) rfl (by kernel_rfl) hti hz2 (by decide) rfl rfl (fun w' hh => (SlOk.srcF (SlOk.cut (hh.row_slOk (i := 0) (by rfl)) hcut) (fun _ _ _ _ h => h))) ?_)
  refine TA.on (Hp.old (View.le_refl _) hVb (List.nil_sublist _) OldAll.nil) ?_
  refine TA.take 7 (.slice A (i + (l.drop j).length) c) rfl (by kernel_rfl) (by kernel_rfl) (by kernel_rfl) (fun _ _ _ h => h) (Hp.old (View.le_refl _) hVb (List.nil_sublist _) OldAll.nil) (by kernel_rfl) (fun _ _ => by kernel_rfl) ?_
  refine TA.done (by kernel_rfl) ?_
  refine T.seq ?_
  refine T.region ?_
  refine T.pure (.slice A (i + (l.drop j).length) c) (by kernel_rfl) (fun _ => by kernel_rfl) ?_
  refine T.pure (.slice A (i + (l.drop j).length) c) (by kernel_rfl) (fun _ => by kernel_rfl) ?_
  refine T.pure (.int .i64 (((i + (l.drop j).length) : Nat) : Int)) (by kernel_rfl) (fun _ => by kernel_rfl) ?_
  refine T.pure (.int .i64 (l.length : Int)) (by kernel_rfl) (fun _ => by kernel_rfl) ?_
  refine T.look (.slice (cutA A c (i + (l.drop j).length) 2) (l.length - (i + (l.drop j).length)) (c - (i + (l.drop j).length))) (by kernel_rfl) (fun w' hh => exec_slice_cap (e := 47) (s := 2) (lx := (some _)) (hx := (some _)) (lo := (((i + (l.drop j).length) : Nat) : Int)) (hi := (l.length : Int)) (k := .i64) (k' := .i64) rfl rfl (by kernel_rfl) (by kernel_rfl) rfl rfl (by omega) (by omega) (by omega)) ?_
  refine T.step (W1.clear (E := eSnap) (l := over l i (l.drop j)) (x := (DSnap.mk (ByteArray.mk #[]) 0)) (z := .agg #[.string (ByteArray.mk #[]), .int .i64 0]) 0 (i + (l.drop j).length) (l.length - (i + (l.drop j).length)) _ (by rfl) (by kernel_rfl) rfl (by kernel_rfl) (fun _ => by kernel_rfl) (fun _ => rfl) rfl (by decide) rfl (by rw [hol]; omega) ?_)
  refine T.nil ?_
  refine T.shrink (l := delAt l i j) 0 (by rfl) (over_del hij hj) ?_
  refine T.seq ?_
  refine T.region ?_
  refine T.pure (.slice A (i + (l.drop j).length) c) (by kernel_rfl) (fun _ => by kernel_rfl) ?_
  refine T.pure (.slice A (i + (l.drop j).length) c) (by kernel_rfl) (fun _ => by kernel_rfl) ?_
  refine T.nil ?_
  refine T.ret rfl ?_
  repeat first | refine T.unthen ?_ | refine T.unblock ?_
  exact T.ret1 rfl (ResIs.tmp rfl) fun w' hh => ⟨A, c, by rw [delAt_length hij hj], hh⟩

end Go.Proofs.Ytjefpcemcckocaa
