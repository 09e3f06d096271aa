/- What the functions roomy, spoil and ContainsFunc do to lists of strings and of writes. Its conditions: as each states. -/
import Derived.Test.YtjhkfonoobmecaaDiskO
namespace Go.Proofs.Ytjhkfonoobmecaa
open Go.RowKit
set_option linter.unusedVariables false
set_option linter.unusedSimpArgs false
set_option maxRecDepth 100000
set_option maxHeartbeats 4000000
theorem one_wr (x : DWrite) : ∀ u ∈ x.cells, u.oneCell' = true := fun u hu => eWrite.one (V := fun _ => none) (x := x) rfl u hu
theorem set_app {α : Type} (l m : List α) (k : Nat) (x : α) : (l ++ m).set (l.length + k) x = l ++ m.set k x := by
  rw [List.set_append_right _ _ (Nat.le_add_right _ _), Nat.add_sub_cancel_left]
theorem own_spoil_Write {w : World} {V : View} {G : List HObj} {w1 : World} {A : Option Addr} {c : Nat} {l : List DWrite} {n : Nat} (x : DWrite) (hn : n ≤ c) (hh : Hp w V (row 29 eWrite A c l :: G) w1) :
    Calls Try.prog 19 #[.slice A n c, .agg #[.int .i64 x.page, .string x.text]] w1
      (fun r w2 => r = .returned (.tuple #[]) ∧ Hp w V (row 29 eWrite A c (List.replicate c x) :: G) w2) := by
  refine T.startI (l := [.slice A n c, .agg #[vi x.page, .string x.text]]) Try.func19 rfl rfl rfl ?_ hh
  clear hh
  refine T.rowlen 0 rfl (fun hlc hcm => ?_)
  refine T.shrink (l := []) 0 (by rfl) (List.nil_prefix) ?_
  refine T.sr (T.step (W1.np 29 x.cells (fun b => T.nil ?_)))
  refine T.sr (T.k3 (.slice A n c) (.slice A n c) (vi (c : Int)) ?_)
  refine T.l (.slice (cutA A c 0 2) c c) (fun w' hh => exec_slice_cap (e := 29) (s := 2) (lx := none) (hx := some _) (lo := 0) (hi := (c : Int)) (k := .i64) (k' := .i64) rfl rfl (by kernel_rfl) (by kernel_rfl) rfl rfl (by omega) (by omega) (by omega)) ?_
  refine T.reslot 8 (.slice A c c) rfl (by rw [cutA_zero]) ?_
  refine T.k (.slice A c c) (T.nil ?_)
  refine T.sr (T.k3 (.slice A c c) (vi (c : Int)) (vi 0) (T.nil ?_))
  refine T.block ?_
  refine T.loopN c (fun k a w' => Fr 19 [(0, .slice A c c), (3, pB b 0), (9, .slice A c c), (10, vi (c : Int)), (11, vi (k : Int))] a ∧ Hp w V (box b 29 x.cells :: row 29 eWrite A c (List.replicate k x) :: G) w') ?_ ?_ ?_
  · exact fun a w' hf hh => ⟨Fr.s hf, hh⟩
  · rintro k hk a w' ⟨hf, hh⟩
    revert hf hh
    refine T.i ?_
    refine T.sr (T.k (.bool (decide ((k : Int) < (c : Int)))) (T.nil ?_))
    refine T.seq (T.cb (decide ((k : Int) < (c : Int))) (fun hc => ?_) (fun hc => absurd (of_decide_eq_false hc) (by omega)))
    refine T.skip_code ?_
    refine T.seq (T.block (T.sr (T.k2 (vi (k : Int)) (vi (k : Int)) (T.nil ?_))))
    refine T.region (T.k2 (.slice A c c) (vi (k : Int)) ?_)
    refine T.l (.agg #[vi x.page, .string x.text]) (ldN 0) ?_
    refine T.l (.pointer (some ((sadr A).add (k * 2)))) (fun w' hh => exec_indexAddr (e := 29) (s := 2) (n := c) (c := c) (iv := (k : Int)) (k := .i64) rfl rfl rfl (by kernel_rfl) (by kernel_rfl) (by omega) (by omega) (hh.row_some (i := 1) (by rfl) (by omega))) ?_
    refine T.step (W1.storeExt (E := eWrite) 1 x _ (vs := x.cells) (by rfl) (by rw [List.length_replicate]; exact hk) (by kernel_rfl) rfl rfl (by rw [List.length_replicate]; rfl) rfl rfl (fun _ => by kernel_rfl) (one_wr x) rfl (fun _ => rfl) ?_)
    refine T.reH (H' := box b 29 x.cells :: row 29 eWrite A c (List.replicate (k + 1) x) :: G) (by rw [List.replicate_succ']; rfl) ?_
    refine T.nil ?_
    refine T.region (T.k (vi (IntKind.i64.wrap ((k : Int) + 1))) ?_)
    refine T.reslot 18 (vi ((k + 1 : Nat) : Int)) rfl (by show Value.int .i64 _ = Value.int .i64 _; congr 1; unfold maxLen at hcm; rw [IntKind.wrap_i64]; omega) ?_
    refine T.k (vi ((k + 1 : Nat) : Int)) (T.nil ?_)
    exact fun a w' hf hh => ⟨Fr.s hf, hh⟩
  · rintro a w' ⟨hf, hh⟩
    revert hf hh
    refine T.i ?_
    refine T.sr (T.k (.bool (decide ((c : Int) < (c : Int)))) (T.nil ?_))
    refine T.seq (T.cb (decide ((c : Int) < (c : Int))) (fun hc => absurd (of_decide_eq_true hc) (by omega)) (fun hc => ?_))
    refine T.exit (T.unthenX (T.unthenX (T.leaveB ?_)))
    exact T.end0 rfl (fun w' hh => ⟨rfl, hh.sub (.cons _ (List.Sublist.refl _))⟩)
theorem own_roomy_Write (l : List DWrite) (x : DWrite) (A : Option Addr) (c : Nat) (w : World) (hs : SlOk (vw w) eWrite A c l) (hr : room ((l.length : Int) + 3).toNat 24 = true) (hm : ((l.length : Int) + 3).toNat ≤ maxLen) :
    Calls Try.prog 5 #[.slice A l.length c, .agg #[.int .i64 x.page, .string x.text]] w
      (fun e w' => ∃ p : Option Addr, e = .returned (.slice p l.length (l.length + 3)) ∧ True ∧ Gives w w' [row 29 eWrite p (l.length + 3) (l ++ [x, x, x])]) := by
  have hN : ((l.length : Int) + 3).toNat = l.length + 3 := by omega
  rw [hN] at hr hm
  have hM : l.length + 3 ≤ 9223372036854775807 := Nat.le_trans hm (by decide)
  have hw3 : IntKind.i64.wrap ((l.length : Int) + 3) = ((l.length + 3 : Nat) : Int) := by rw [IntKind.wrap_i64]; omega
  refine T.start (l := [.slice A l.length c, .agg #[vi x.page, .string x.text]]) Try.func5 rfl rfl rfl ?_
  refine T.sr (T.step (W1.np 29 x.cells (fun b => T.k sN (T.nil ?_))))
  refine T.sr (T.k3 (.slice A l.length c) (vi (l.length : Int)) (vi (IntKind.i64.wrap ((l.length : Int) + 3))) ?_)
  refine T.reslot 9 (vi ((l.length + 3 : Nat) : Int)) rfl (by rw [hw3]) ?_
  obtain ⟨ti, hti, hz1, hz2, hz3⟩ := info_parts (P := Try.prog) (e := 29) (z := .agg #[vi 0, .string (ByteArray.mk #[])]) (size := 2) (bytes := 24) (by kernel_rfl)
  refine T.step (W1.makeC (E := eWrite) 0 (l.length + 3) (DWrite.mk 0 (ByteArray.mk #[])) _ _ .i64 .i64 24 ti _ (by kernel_rfl) rfl (by kernel_rfl) hti hz1 hz2 hz3 rfl rfl (by omega) (fun _ => rfl) rfl hr hm (fun g => ?_))
  refine T.k (.slice A l.length c) ?_
  refine T.step (W1.appendIn (E := eWrite) (l := List.replicate (l.length + 3) (DWrite.mk 0 (ByteArray.mk #[]))) (m := l) 0 0 _ _ ti (by rfl) (by rw [List.length_replicate]; omega) (by kernel_rfl) rfl (by kernel_rfl) hti hz2 (by decide) rfl rfl (fun w' hh => SlOk.sF (SlOk.mono hs hh.view)) ?_)
  refine T.reH (H' := (row 29 eWrite (some ⟨g, 0, none⟩) (l.length + 3) (l ++ [(DWrite.mk 0 (ByteArray.mk #[])), (DWrite.mk 0 (ByteArray.mk #[])), (DWrite.mk 0 (ByteArray.mk #[]))]) :: box b 29 x.cells :: [])) (by
    have e : over (List.replicate (l.length + 3) (DWrite.mk 0 (ByteArray.mk #[]))) 0 l = (l ++ [(DWrite.mk 0 (ByteArray.mk #[])), (DWrite.mk 0 (ByteArray.mk #[])), (DWrite.mk 0 (ByteArray.mk #[]))]) := by
      unfold over
      rw [List.take_zero, List.nil_append, Nat.zero_add, List.drop_replicate, Nat.add_sub_cancel_left]; rfl
    rw [← e]; rfl) ?_
  refine T.reslot 12 (.slice (some ⟨g, 0, none⟩) l.length (l.length + 3)) rfl (by rw [Nat.zero_add]) ?_
  refine T.k (.slice (some ⟨g, 0, none⟩) l.length (l.length + 3)) (T.nil ?_)
  refine T.seq (T.sr (T.k (vi 0) (T.nil ?_)))
  refine T.block (T.rounds 4 ?_)
  have hwk0 : IntKind.i64.wrap ((l.length : Int) + 0) = ((l.length + 0 : Nat) : Int) := by rw [IntKind.wrap_i64]; omega
  refine T.round (T.sr (T.k (.bool true) (T.nil ?_)))
  refine T.seq (T.cond true (by kernel_rfl) (by kernel_rfl) (fun _ => ?_) (fun h => Bool.noConfusion h))
  refine T.skip_code ?_
  refine T.seq (T.block (T.sr (T.k2 (vi 0) (vi 0) (T.nil ?_))))
  refine T.held [box b 29 x.cells] (by kernel_rfl) ?_
  refine TA.tp 0 (.slice (some ⟨g, 0, none⟩) l.length (l.length + 3)) rfl (Hp.old vr vr (dr1 (kp1 kp0)) (oB1 ol0)) ?_
  refine TA.tp 1 (.slice A l.length c) rfl (Hp.old vr vr (dr1 (kp1 kp0)) (oB1 ol0)) ?_
  refine TA.tp 2 (vi (l.length : Int)) rfl (Hp.old vr vr (dr1 (kp1 kp0)) (oB1 ol0)) ?_
  refine TA.tp 3 (vi (IntKind.i64.wrap ((l.length : Int) + 3))) rfl (Hp.old vr vr (dr1 (kp1 kp0)) (oB1 ol0)) ?_
  refine T.reslot 19 (vi ((l.length + 3 : Nat) : Int)) rfl (by rw [hw3]) ?_
  refine TA.tk 4 (.slice (cutA (some ⟨g, 0, none⟩) (l.length + 3) 0 2) (l.length + 3) (l.length + 3)) rfl (Hp.old vr vr (dr1 (kp1 kp0)) (oB1 ol0)) (fun w' hh => exec_slice_cap (e := 29) (s := 2) (lx := none) (hx := some _) (lo := 0) (hi := ((l.length + 3 : Nat) : Int)) (k := .i64) (k' := .i64) rfl rfl (by kernel_rfl) (by kernel_rfl) rfl rfl (by omega) (by omega) (by omega)) ?_
  refine T.reslot 20 (.slice (some ⟨g, 0, none⟩) (l.length + 3) (l.length + 3)) rfl (by rw [cutA_zero]) ?_
  refine TA.tp 5 (.slice A l.length c) rfl (Hp.old vr vr (dr1 (kp1 kp0)) (oB1 ol0)) ?_
  refine TA.tp 6 (vi (l.length : Int)) rfl (Hp.old vr vr (dr1 (kp1 kp0)) (oB1 ol0)) ?_
  refine TA.tp 7 (vi 0) rfl (Hp.old vr vr (dr1 (kp1 kp0)) (oB1 ol0)) ?_
  refine TA.tp 8 (vi (IntKind.i64.wrap ((l.length : Int) + 0))) rfl (Hp.old vr vr (dr1 (kp1 kp0)) (oB1 ol0)) ?_
  refine T.reslot 24 (vi ((l.length + 0 : Nat) : Int)) rfl (by rw [hwk0]) ?_
  refine TA.tk 9 (.agg #[vi x.page, .string x.text]) rfl (Hp.old vr vr (dr1 (kp1 kp0)) (oB1 ol0)) (ldN 0) ?_
  refine TA.tk 10 (.pointer (some ((sadr (some ⟨g, 0, none⟩)).add ((((l.length + 0 : Nat) : Int)).toNat * 2)))) rfl (Hp.old vr vr (dr1 (kp1 kp0)) (oB1 ol0)) (fun w' hh => exec_indexAddr (e := 29) (s := 2) (n := l.length + 3) (c := l.length + 3) (iv := ((l.length + 0 : Nat) : Int)) (k := .i64) rfl rfl rfl (by kernel_rfl) (by kernel_rfl) (by omega) (by omega) rfl) ?_
  refine TA.j 11 rfl (W1.storeRow (E := eWrite) 0 (l.length + 0) 0 (DWrite.mk 0 (ByteArray.mk #[])) x _ (vs := x.cells) (by rfl) (by kernel_rfl) rfl rfl (by rw [addr_add0]; rfl) rfl rfl (fun _ => by kernel_rfl) (one_wr x) (by rw [List.getElem?_append_right (Nat.le_add_right _ _), Nat.add_sub_cancel_left]; rfl) (Nat.le_of_ble_eq_true rfl) (fun V cs h => by
    have h' : cs = DWrite.cells (DWrite.mk 0 (ByteArray.mk #[])) := h
    subst h'; rfl) ?_)
  refine T.reH (H' := (row 29 eWrite (some ⟨g, 0, none⟩) (l.length + 3) (l ++ [x, (DWrite.mk 0 (ByteArray.mk #[])), (DWrite.mk 0 (ByteArray.mk #[]))]) :: box b 29 x.cells :: [])) (by
    have e : (l ++ [(DWrite.mk 0 (ByteArray.mk #[])), (DWrite.mk 0 (ByteArray.mk #[])), (DWrite.mk 0 (ByteArray.mk #[]))]).set (l.length + 0) x = (l ++ [x, (DWrite.mk 0 (ByteArray.mk #[])), (DWrite.mk 0 (ByteArray.mk #[]))]) := set_app _ _ _ _
    rw [← e]; rfl) ?_
  refine TA.on (Hp.old vr vr (dr1 (kp1 kp0)) (oB1 ol0)) ?_
  refine TA.d ?_
  refine T.region (T.k2 (vi 1) (vi 1) (T.nil ?_))
  have hwk1 : IntKind.i64.wrap ((l.length : Int) + 1) = ((l.length + 1 : Nat) : Int) := by rw [IntKind.wrap_i64]; omega
  refine T.round (T.sr (T.k (.bool true) (T.nil ?_)))
  refine T.seq (T.cond true (by kernel_rfl) (by kernel_rfl) (fun _ => ?_) (fun h => Bool.noConfusion h))
  refine T.skip_code ?_
  refine T.seq (T.block (T.sr (T.k2 (vi 1) (vi 1) (T.nil ?_))))
  refine T.held [box b 29 x.cells] (by kernel_rfl) ?_
  refine TA.tp 0 (.slice (some ⟨g, 0, none⟩) l.length (l.length + 3)) rfl (Hp.old vr vr (dr1 (kp1 kp0)) (oB1 ol0)) ?_
  refine TA.tp 1 (.slice A l.length c) rfl (Hp.old vr vr (dr1 (kp1 kp0)) (oB1 ol0)) ?_
  refine TA.tp 2 (vi (l.length : Int)) rfl (Hp.old vr vr (dr1 (kp1 kp0)) (oB1 ol0)) ?_
  refine TA.tp 3 (vi (IntKind.i64.wrap ((l.length : Int) + 3))) rfl (Hp.old vr vr (dr1 (kp1 kp0)) (oB1 ol0)) ?_
  refine T.reslot 19 (vi ((l.length + 3 : Nat) : Int)) rfl (by rw [hw3]) ?_
  refine TA.tk 4 (.slice (cutA (some ⟨g, 0, none⟩) (l.length + 3) 0 2) (l.length + 3) (l.length + 3)) rfl (Hp.old vr vr (dr1 (kp1 kp0)) (oB1 ol0)) (fun w' hh => exec_slice_cap (e := 29) (s := 2) (lx := none) (hx := some _) (lo := 0) (hi := ((l.length + 3 : Nat) : Int)) (k := .i64) (k' := .i64) rfl rfl (by kernel_rfl) (by kernel_rfl) rfl rfl (by omega) (by omega) (by omega)) ?_
  refine T.reslot 20 (.slice (some ⟨g, 0, none⟩) (l.length + 3) (l.length + 3)) rfl (by rw [cutA_zero]) ?_
  refine TA.tp 5 (.slice A l.length c) rfl (Hp.old vr vr (dr1 (kp1 kp0)) (oB1 ol0)) ?_
  refine TA.tp 6 (vi (l.length : Int)) rfl (Hp.old vr vr (dr1 (kp1 kp0)) (oB1 ol0)) ?_
  refine TA.tp 7 (vi 1) rfl (Hp.old vr vr (dr1 (kp1 kp0)) (oB1 ol0)) ?_
  refine TA.tp 8 (vi (IntKind.i64.wrap ((l.length : Int) + 1))) rfl (Hp.old vr vr (dr1 (kp1 kp0)) (oB1 ol0)) ?_
  refine T.reslot 24 (vi ((l.length + 1 : Nat) : Int)) rfl (by rw [hwk1]) ?_
  refine TA.tk 9 (.agg #[vi x.page, .string x.text]) rfl (Hp.old vr vr (dr1 (kp1 kp0)) (oB1 ol0)) (ldN 0) ?_
  refine TA.tk 10 (.pointer (some ((sadr (some ⟨g, 0, none⟩)).add ((((l.length + 1 : Nat) : Int)).toNat * 2)))) rfl (Hp.old vr vr (dr1 (kp1 kp0)) (oB1 ol0)) (fun w' hh => exec_indexAddr (e := 29) (s := 2) (n := l.length + 3) (c := l.length + 3) (iv := ((l.length + 1 : Nat) : Int)) (k := .i64) rfl rfl rfl (by kernel_rfl) (by kernel_rfl) (by omega) (by omega) rfl) ?_
  refine TA.j 11 rfl (W1.storeRow (E := eWrite) 0 (l.length + 1) 0 (DWrite.mk 0 (ByteArray.mk #[])) x _ (vs := x.cells) (by rfl) (by kernel_rfl) rfl rfl (by rw [addr_add0]; rfl) rfl rfl (fun _ => by kernel_rfl) (one_wr x) (by rw [List.getElem?_append_right (Nat.le_add_right _ _), Nat.add_sub_cancel_left]; rfl) (Nat.le_of_ble_eq_true rfl) (fun V cs h => by
    have h' : cs = DWrite.cells (DWrite.mk 0 (ByteArray.mk #[])) := h
    subst h'; rfl) ?_)
  refine T.reH (H' := (row 29 eWrite (some ⟨g, 0, none⟩) (l.length + 3) (l ++ [x, x, (DWrite.mk 0 (ByteArray.mk #[]))]) :: box b 29 x.cells :: [])) (by
    have e : (l ++ [x, (DWrite.mk 0 (ByteArray.mk #[])), (DWrite.mk 0 (ByteArray.mk #[]))]).set (l.length + 1) x = (l ++ [x, x, (DWrite.mk 0 (ByteArray.mk #[]))]) := set_app _ _ _ _
    rw [← e]; rfl) ?_
  refine TA.on (Hp.old vr vr (dr1 (kp1 kp0)) (oB1 ol0)) ?_
  refine TA.d ?_
  refine T.region (T.k2 (vi 2) (vi 2) (T.nil ?_))
  have hwk2 : IntKind.i64.wrap ((l.length : Int) + 2) = ((l.length + 2 : Nat) : Int) := by rw [IntKind.wrap_i64]; omega
  refine T.round (T.sr (T.k (.bool true) (T.nil ?_)))
  refine T.seq (T.cond true (by kernel_rfl) (by kernel_rfl) (fun _ => ?_) (fun h => Bool.noConfusion h))
  refine T.skip_code ?_
  refine T.seq (T.block (T.sr (T.k2 (vi 2) (vi 2) (T.nil ?_))))
  refine T.held [box b 29 x.cells] (by kernel_rfl) ?_
  refine TA.tp 0 (.slice (some ⟨g, 0, none⟩) l.length (l.length + 3)) rfl (Hp.old vr vr (dr1 (kp1 kp0)) (oB1 ol0)) ?_
  refine TA.tp 1 (.slice A l.length c) rfl (Hp.old vr vr (dr1 (kp1 kp0)) (oB1 ol0)) ?_
  refine TA.tp 2 (vi (l.length : Int)) rfl (Hp.old vr vr (dr1 (kp1 kp0)) (oB1 ol0)) ?_
  refine TA.tp 3 (vi (IntKind.i64.wrap ((l.length : Int) + 3))) rfl (Hp.old vr vr (dr1 (kp1 kp0)) (oB1 ol0)) ?_
  refine T.reslot 19 (vi ((l.length + 3 : Nat) : Int)) rfl (by rw [hw3]) ?_
  refine TA.tk 4 (.slice (cutA (some ⟨g, 0, none⟩) (l.length + 3) 0 2) (l.length + 3) (l.length + 3)) rfl (Hp.old vr vr (dr1 (kp1 kp0)) (oB1 ol0)) (fun w' hh => exec_slice_cap (e := 29) (s := 2) (lx := none) (hx := some _) (lo := 0) (hi := ((l.length + 3 : Nat) : Int)) (k := .i64) (k' := .i64) rfl rfl (by kernel_rfl) (by kernel_rfl) rfl rfl (by omega) (by omega) (by omega)) ?_
  refine T.reslot 20 (.slice (some ⟨g, 0, none⟩) (l.length + 3) (l.length + 3)) rfl (by rw [cutA_zero]) ?_
  refine TA.tp 5 (.slice A l.length c) rfl (Hp.old vr vr (dr1 (kp1 kp0)) (oB1 ol0)) ?_
  refine TA.tp 6 (vi (l.length : Int)) rfl (Hp.old vr vr (dr1 (kp1 kp0)) (oB1 ol0)) ?_
  refine TA.tp 7 (vi 2) rfl (Hp.old vr vr (dr1 (kp1 kp0)) (oB1 ol0)) ?_
  refine TA.tp 8 (vi (IntKind.i64.wrap ((l.length : Int) + 2))) rfl (Hp.old vr vr (dr1 (kp1 kp0)) (oB1 ol0)) ?_
  refine T.reslot 24 (vi ((l.length + 2 : Nat) : Int)) rfl (by rw [hwk2]) ?_
  refine TA.tk 9 (.agg #[vi x.page, .string x.text]) rfl (Hp.old vr vr (dr1 (kp1 kp0)) (oB1 ol0)) (ldN 0) ?_
  refine TA.tk 10 (.pointer (some ((sadr (some ⟨g, 0, none⟩)).add ((((l.length + 2 : Nat) : Int)).toNat * 2)))) rfl (Hp.old vr vr (dr1 (kp1 kp0)) (oB1 ol0)) (fun w' hh => exec_indexAddr (e := 29) (s := 2) (n := l.length + 3) (c := l.length + 3) (iv := ((l.length + 2 : Nat) : Int)) (k := .i64) rfl rfl rfl (by kernel_rfl) (by kernel_rfl) (by omega) (by omega) rfl) ?_
  refine TA.j 11 rfl (W1.storeRow (E := eWrite) 0 (l.length + 2) 0 (DWrite.mk 0 (ByteArray.mk #[])) x _ (vs := x.cells) (by rfl) (by kernel_rfl) rfl rfl (by rw [addr_add0]; rfl) rfl rfl (fun _ => by kernel_rfl) (one_wr x) (by rw [List.getElem?_append_right (Nat.le_add_right _ _), Nat.add_sub_cancel_left]; rfl) (Nat.le_of_ble_eq_true rfl) (fun V cs h => by
    have h' : cs = DWrite.cells (DWrite.mk 0 (ByteArray.mk #[])) := h
    subst h'; rfl) ?_)
  refine T.reH (H' := (row 29 eWrite (some ⟨g, 0, none⟩) (l.length + 3) (l ++ [x, x, x]) :: box b 29 x.cells :: [])) (by
    have e : (l ++ [x, x, (DWrite.mk 0 (ByteArray.mk #[]))]).set (l.length + 2) x = (l ++ [x, x, x]) := set_app _ _ _ _
    rw [← e]; rfl) ?_
  refine TA.on (Hp.old vr vr (dr1 (kp1 kp0)) (oB1 ol0)) ?_
  refine TA.d ?_
  refine T.region (T.k2 (vi 3) (vi 3) (T.nil ?_))
  refine T.round (T.sr (T.k (.bool false) (T.nil ?_)))
  refine T.seq (T.cond false (by kernel_rfl) (by kernel_rfl) (fun h => Bool.noConfusion h) (fun _ => ?_))
  refine T.exit ?_
  refine T.sr (T.k2 (.slice (some ⟨g, 0, none⟩) l.length (l.length + 3)) (.slice (some ⟨g, 0, none⟩) l.length (l.length + 3)) (T.nil ?_))
  refine T.ret rfl ?_
  exact T.ret1 rfl (rT rfl) fun w' hh => ⟨(some ⟨g, 0, none⟩), rfl, trivial, gives_of (hh.sub (kp1 kp0)) ⟨flat_row (fun _ _ _ _ h => h), trivial⟩⟩
theorem one_str (x : ByteArray) : ∀ u ∈ [Value.string x], u.oneCell' = true := fun u hu => eStr.one (V := fun _ => none) (x := x) rfl u hu
theorem own_spoil_str {w : World} {V : View} {G : List HObj} {w1 : World} {A : Option Addr} {c : Nat} {l : List ByteArray} {n : Nat} (x : ByteArray) (hn : n ≤ c) (hh : Hp w V (row 9 eStr A c l :: G) w1) :
    Calls Try.prog 18 #[.slice A n c, .string x] w1
      (fun r w2 => r = .returned (.tuple #[]) ∧ Hp w V (row 9 eStr A c (List.replicate c x) :: G) w2) := by
  refine T.startI (l := [.slice A n c, .string x]) Try.func18 rfl rfl rfl ?_ hh
  clear hh
  refine T.rowlen 0 rfl (fun hlc hcm => ?_)
  refine T.shrink (l := []) 0 (by rfl) (List.nil_prefix) ?_
  refine T.sr (T.k3 (.slice A n c) (.slice A n c) (vi (c : Int)) ?_)
  refine T.l (.slice (cutA A c 0 1) c c) (fun w' hh => exec_slice_cap (e := 9) (s := 1) (lx := none) (hx := some _) (lo := 0) (hi := (c : Int)) (k := .i64) (k' := .i64) rfl rfl (by kernel_rfl) (by kernel_rfl) rfl rfl (by omega) (by omega) (by omega)) ?_
  refine T.reslot 8 (.slice A c c) rfl (by rw [cutA_zero]) ?_
  refine T.k (.slice A c c) (T.nil ?_)
  refine T.sr (T.k3 (.slice A c c) (vi (c : Int)) (vi 0) (T.nil ?_))
  refine T.block ?_
  refine T.loopN c (fun k a w' => Fr 19 [(0, .slice A c c), (1, .string x), (9, .slice A c c), (10, vi (c : Int)), (11, vi (k : Int))] a ∧ Hp w V (row 9 eStr A c (List.replicate k x) :: G) w') ?_ ?_ ?_
  · exact fun a w' hf hh => ⟨Fr.s hf, hh⟩
  · rintro k hk a w' ⟨hf, hh⟩
    revert hf hh
    refine T.i ?_
    refine T.sr (T.k (.bool (decide ((k : Int) < (c : Int)))) (T.nil ?_))
    refine T.seq (T.cb (decide ((k : Int) < (c : Int))) (fun hc => ?_) (fun hc => absurd (of_decide_eq_false hc) (by omega)))
    refine T.skip_code ?_
    refine T.seq (T.block (T.sr (T.k2 (vi (k : Int)) (vi (k : Int)) (T.nil ?_))))
    refine T.region (T.k2 (.slice A c c) (vi (k : Int)) ?_)
    refine T.k (.string x) ?_
    refine T.l (.pointer (some ((sadr A).add (k * 1)))) (fun w' hh => exec_indexAddr (e := 9) (s := 1) (n := c) (c := c) (iv := (k : Int)) (k := .i64) rfl rfl rfl (by kernel_rfl) (by kernel_rfl) (by omega) (by omega) (hh.row_some (i := 0) (by rfl) (by omega))) ?_
    refine T.step (W1.storeExt (E := eStr) 0 x _ (vs := [.string x]) (by rfl) (by rw [List.length_replicate]; exact hk) (by kernel_rfl) rfl rfl (by rw [List.length_replicate]; rfl) rfl rfl (fun _ => by kernel_rfl) (one_str x) rfl (fun _ => rfl) ?_)
    refine T.reH (H' := row 9 eStr A c (List.replicate (k + 1) x) :: G) (by rw [List.replicate_succ']; rfl) ?_
    refine T.nil ?_
    refine T.region (T.k (vi (IntKind.i64.wrap ((k : Int) + 1))) ?_)
    refine T.reslot 18 (vi ((k + 1 : Nat) : Int)) rfl (by show Value.int .i64 _ = Value.int .i64 _; congr 1; unfold maxLen at hcm; rw [IntKind.wrap_i64]; omega) ?_
    refine T.k (vi ((k + 1 : Nat) : Int)) (T.nil ?_)
    exact fun a w' hf hh => ⟨Fr.s hf, hh⟩
  · rintro a w' ⟨hf, hh⟩
    revert hf hh
    refine T.i ?_
    refine T.sr (T.k (.bool (decide ((c : Int) < (c : Int)))) (T.nil ?_))
    refine T.seq (T.cb (decide ((c : Int) < (c : Int))) (fun hc => absurd (of_decide_eq_true hc) (by omega)) (fun hc => ?_))
    refine T.exit (T.unthenX (T.unthenX (T.leaveB ?_)))
    exact T.end0 rfl (fun w' hh => ⟨rfl, hh⟩)
theorem own_roomy_str (l : List ByteArray) (x : ByteArray) (A : Option Addr) (c : Nat) (w : World) (hs : SlOk (vw w) eStr A c l) (hr : room ((l.length : Int) + 3).toNat 16 = true) (hm : ((l.length : Int) + 3).toNat ≤ maxLen) :
    Calls Try.prog 4 #[.slice A l.length c, .string x] w
      (fun e w' => ∃ p : Option Addr, e = .returned (.slice p l.length (l.length + 3)) ∧ True ∧ Gives w w' [row 9 eStr p (l.length + 3) (l ++ [x, x, x])]) := by
  have hN : ((l.length : Int) + 3).toNat = l.length + 3 := by omega
  rw [hN] at hr hm
  have hM : l.length + 3 ≤ 9223372036854775807 := Nat.le_trans hm (by decide)
  have hw3 : IntKind.i64.wrap ((l.length : Int) + 3) = ((l.length + 3 : Nat) : Int) := by rw [IntKind.wrap_i64]; omega
  refine T.start (l := [.slice A l.length c, .string x]) Try.func4 rfl rfl rfl ?_
  refine T.sr (T.k sN (T.nil ?_))
  refine T.sr (T.k3 (.slice A l.length c) (vi (l.length : Int)) (vi (IntKind.i64.wrap ((l.length : Int) + 3))) ?_)
  refine T.reslot 9 (vi ((l.length + 3 : Nat) : Int)) rfl (by rw [hw3]) ?_
  obtain ⟨ti, hti, hz1, hz2, hz3⟩ := info_parts (P := Try.prog) (e := 9) (z := .string (ByteArray.mk #[])) (size := 1) (bytes := 16) (by kernel_rfl)
  refine T.step (W1.makeC (E := eStr) 0 (l.length + 3) (ByteArray.mk #[]) _ _ .i64 .i64 16 ti _ (by kernel_rfl) rfl (by kernel_rfl) hti hz1 hz2 hz3 rfl rfl (by omega) (fun _ => rfl) rfl hr hm (fun g => ?_))
  refine T.k (.slice A l.length c) ?_
  refine T.step (W1.appendIn (E := eStr) (l := List.replicate (l.length + 3) (ByteArray.mk #[])) (m := l) 0 0 _ _ ti (by rfl) (by rw [List.length_replicate]; omega) (by kernel_rfl) rfl (by kernel_rfl) hti hz2 (by decide) rfl rfl (fun w' hh => SlOk.sF (SlOk.mono hs hh.view)) ?_)
  refine T.reH (H' := (row 9 eStr (some ⟨g, 0, none⟩) (l.length + 3) (l ++ [(ByteArray.mk #[]), (ByteArray.mk #[]), (ByteArray.mk #[])]) :: [])) (by
    have e : over (List.replicate (l.length + 3) (ByteArray.mk #[])) 0 l = (l ++ [(ByteArray.mk #[]), (ByteArray.mk #[]), (ByteArray.mk #[])]) := by
      unfold over
      rw [List.take_zero, List.nil_append, Nat.zero_add, List.drop_replicate, Nat.add_sub_cancel_left]; rfl
    rw [← e]; rfl) ?_
  refine T.reslot 12 (.slice (some ⟨g, 0, none⟩) l.length (l.length + 3)) rfl (by rw [Nat.zero_add]) ?_
  refine T.k (.slice (some ⟨g, 0, none⟩) l.length (l.length + 3)) (T.nil ?_)
  refine T.seq (T.sr (T.k (vi 0) (T.nil ?_)))
  refine T.block (T.rounds 4 ?_)
  have hwk0 : IntKind.i64.wrap ((l.length : Int) + 0) = ((l.length + 0 : Nat) : Int) := by rw [IntKind.wrap_i64]; omega
  refine T.round (T.sr (T.k (.bool true) (T.nil ?_)))
  refine T.seq (T.cond true (by kernel_rfl) (by kernel_rfl) (fun _ => ?_) (fun h => Bool.noConfusion h))
  refine T.skip_code ?_
  refine T.seq (T.block (T.sr (T.k2 (vi 0) (vi 0) (T.nil ?_))))
  refine T.region (T.k4 (.slice (some ⟨g, 0, none⟩) l.length (l.length + 3)) (.slice A l.length c) (vi (l.length : Int)) (vi (IntKind.i64.wrap ((l.length : Int) + 3))) ?_)
  refine T.reslot 19 (vi ((l.length + 3 : Nat) : Int)) rfl (by rw [hw3]) ?_
  refine T.l (.slice (cutA (some ⟨g, 0, none⟩) (l.length + 3) 0 1) (l.length + 3) (l.length + 3)) (fun w' hh => exec_slice_cap (e := 9) (s := 1) (lx := none) (hx := some _) (lo := 0) (hi := ((l.length + 3 : Nat) : Int)) (k := .i64) (k' := .i64) rfl rfl (by kernel_rfl) (by kernel_rfl) rfl rfl (by omega) (by omega) (by omega)) ?_
  refine T.reslot 20 (.slice (some ⟨g, 0, none⟩) (l.length + 3) (l.length + 3)) rfl (by rw [cutA_zero]) ?_
  refine T.k4 (.slice A l.length c) (vi (l.length : Int)) (vi 0) (vi (IntKind.i64.wrap ((l.length : Int) + 0))) ?_
  refine T.reslot 24 (vi ((l.length + 0 : Nat) : Int)) rfl (by rw [hwk0]) ?_
  refine T.k (.string x) ?_
  refine T.l (.pointer (some ((sadr (some ⟨g, 0, none⟩)).add ((((l.length + 0 : Nat) : Int)).toNat * 1)))) (fun w' hh => exec_indexAddr (e := 9) (s := 1) (n := l.length + 3) (c := l.length + 3) (iv := ((l.length + 0 : Nat) : Int)) (k := .i64) rfl rfl rfl (by kernel_rfl) (by kernel_rfl) (by omega) (by omega) rfl) ?_
  refine T.step (W1.storeRow (E := eStr) 0 (l.length + 0) 0 (ByteArray.mk #[]) x _ (vs := [.string x]) (by rfl) (by kernel_rfl) rfl rfl (by rw [addr_add0]; rfl) rfl rfl (fun _ => by kernel_rfl) (one_str x) (by rw [List.getElem?_append_right (Nat.le_add_right _ _), Nat.add_sub_cancel_left]; rfl) (Nat.le_of_ble_eq_true rfl) (fun V cs h => by
    have h' : cs = [.string (ByteArray.mk #[])] := h
    subst h'; rfl) ?_)
  refine T.reH (H' := (row 9 eStr (some ⟨g, 0, none⟩) (l.length + 3) (l ++ [x, (ByteArray.mk #[]), (ByteArray.mk #[])]) :: [])) (by
    have e : (l ++ [(ByteArray.mk #[]), (ByteArray.mk #[]), (ByteArray.mk #[])]).set (l.length + 0) x = (l ++ [x, (ByteArray.mk #[]), (ByteArray.mk #[])]) := set_app _ _ _ _
    rw [← e]; rfl) ?_
  refine T.nil ?_
  refine T.region (T.k2 (vi 1) (vi 1) (T.nil ?_))
  have hwk1 : IntKind.i64.wrap ((l.length : Int) + 1) = ((l.length + 1 : Nat) : Int) := by rw [IntKind.wrap_i64]; omega
  refine T.round (T.sr (T.k (.bool true) (T.nil ?_)))
  refine T.seq (T.cond true (by kernel_rfl) (by kernel_rfl) (fun _ => ?_) (fun h => Bool.noConfusion h))
  refine T.skip_code ?_
  refine T.seq (T.block (T.sr (T.k2 (vi 1) (vi 1) (T.nil ?_))))
  refine T.region (T.k4 (.slice (some ⟨g, 0, none⟩) l.length (l.length + 3)) (.slice A l.length c) (vi (l.length : Int)) (vi (IntKind.i64.wrap ((l.length : Int) + 3))) ?_)
  refine T.reslot 19 (vi ((l.length + 3 : Nat) : Int)) rfl (by rw [hw3]) ?_
  refine T.l (.slice (cutA (some ⟨g, 0, none⟩) (l.length + 3) 0 1) (l.length + 3) (l.length + 3)) (fun w' hh => exec_slice_cap (e := 9) (s := 1) (lx := none) (hx := some _) (lo := 0) (hi := ((l.length + 3 : Nat) : Int)) (k := .i64) (k' := .i64) rfl rfl (by kernel_rfl) (by kernel_rfl) rfl rfl (by omega) (by omega) (by omega)) ?_
  refine T.reslot 20 (.slice (some ⟨g, 0, none⟩) (l.length + 3) (l.length + 3)) rfl (by rw [cutA_zero]) ?_
  refine T.k4 (.slice A l.length c) (vi (l.length : Int)) (vi 1) (vi (IntKind.i64.wrap ((l.length : Int) + 1))) ?_
  refine T.reslot 24 (vi ((l.length + 1 : Nat) : Int)) rfl (by rw [hwk1]) ?_
  refine T.k (.string x) ?_
  refine T.l (.pointer (some ((sadr (some ⟨g, 0, none⟩)).add ((((l.length + 1 : Nat) : Int)).toNat * 1)))) (fun w' hh => exec_indexAddr (e := 9) (s := 1) (n := l.length + 3) (c := l.length + 3) (iv := ((l.length + 1 : Nat) : Int)) (k := .i64) rfl rfl rfl (by kernel_rfl) (by kernel_rfl) (by omega) (by omega) rfl) ?_
  refine T.step (W1.storeRow (E := eStr) 0 (l.length + 1) 0 (ByteArray.mk #[]) x _ (vs := [.string x]) (by rfl) (by kernel_rfl) rfl rfl (by rw [addr_add0]; rfl) rfl rfl (fun _ => by kernel_rfl) (one_str x) (by rw [List.getElem?_append_right (Nat.le_add_right _ _), Nat.add_sub_cancel_left]; rfl) (Nat.le_of_ble_eq_true rfl) (fun V cs h => by
    have h' : cs = [.string (ByteArray.mk #[])] := h
    subst h'; rfl) ?_)
  refine T.reH (H' := (row 9 eStr (some ⟨g, 0, none⟩) (l.length + 3) (l ++ [x, x, (ByteArray.mk #[])]) :: [])) (by
    have e : (l ++ [x, (ByteArray.mk #[]), (ByteArray.mk #[])]).set (l.length + 1) x = (l ++ [x, x, (ByteArray.mk #[])]) := set_app _ _ _ _
    rw [← e]; rfl) ?_
  refine T.nil ?_
  refine T.region (T.k2 (vi 2) (vi 2) (T.nil ?_))
  have hwk2 : IntKind.i64.wrap ((l.length : Int) + 2) = ((l.length + 2 : Nat) : Int) := by rw [IntKind.wrap_i64]; omega
  refine T.round (T.sr (T.k (.bool true) (T.nil ?_)))
  refine T.seq (T.cond true (by kernel_rfl) (by kernel_rfl) (fun _ => ?_) (fun h => Bool.noConfusion h))
  refine T.skip_code ?_
  refine T.seq (T.block (T.sr (T.k2 (vi 2) (vi 2) (T.nil ?_))))
  refine T.region (T.k4 (.slice (some ⟨g, 0, none⟩) l.length (l.length + 3)) (.slice A l.length c) (vi (l.length : Int)) (vi (IntKind.i64.wrap ((l.length : Int) + 3))) ?_)
  refine T.reslot 19 (vi ((l.length + 3 : Nat) : Int)) rfl (by rw [hw3]) ?_
  refine T.l (.slice (cutA (some ⟨g, 0, none⟩) (l.length + 3) 0 1) (l.length + 3) (l.length + 3)) (fun w' hh => exec_slice_cap (e := 9) (s := 1) (lx := none) (hx := some _) (lo := 0) (hi := ((l.length + 3 : Nat) : Int)) (k := .i64) (k' := .i64) rfl rfl (by kernel_rfl) (by kernel_rfl) rfl rfl (by omega) (by omega) (by omega)) ?_
  refine T.reslot 20 (.slice (some ⟨g, 0, none⟩) (l.length + 3) (l.length + 3)) rfl (by rw [cutA_zero]) ?_
  refine T.k4 (.slice A l.length c) (vi (l.length : Int)) (vi 2) (vi (IntKind.i64.wrap ((l.length : Int) + 2))) ?_
  refine T.reslot 24 (vi ((l.length + 2 : Nat) : Int)) rfl (by rw [hwk2]) ?_
  refine T.k (.string x) ?_
  refine T.l (.pointer (some ((sadr (some ⟨g, 0, none⟩)).add ((((l.length + 2 : Nat) : Int)).toNat * 1)))) (fun w' hh => exec_indexAddr (e := 9) (s := 1) (n := l.length + 3) (c := l.length + 3) (iv := ((l.length + 2 : Nat) : Int)) (k := .i64) rfl rfl rfl (by kernel_rfl) (by kernel_rfl) (by omega) (by omega) rfl) ?_
  refine T.step (W1.storeRow (E := eStr) 0 (l.length + 2) 0 (ByteArray.mk #[]) x _ (vs := [.string x]) (by rfl) (by kernel_rfl) rfl rfl (by rw [addr_add0]; rfl) rfl rfl (fun _ => by kernel_rfl) (one_str x) (by rw [List.getElem?_append_right (Nat.le_add_right _ _), Nat.add_sub_cancel_left]; rfl) (Nat.le_of_ble_eq_true rfl) (fun V cs h => by
    have h' : cs = [.string (ByteArray.mk #[])] := h
    subst h'; rfl) ?_)
  refine T.reH (H' := (row 9 eStr (some ⟨g, 0, none⟩) (l.length + 3) (l ++ [x, x, x]) :: [])) (by
    have e : (l ++ [x, x, (ByteArray.mk #[])]).set (l.length + 2) x = (l ++ [x, x, x]) := set_app _ _ _ _
    rw [← e]; rfl) ?_
  refine T.nil ?_
  refine T.region (T.k2 (vi 3) (vi 3) (T.nil ?_))
  refine T.round (T.sr (T.k (.bool false) (T.nil ?_)))
  refine T.seq (T.cond false (by kernel_rfl) (by kernel_rfl) (fun h => Bool.noConfusion h) (fun _ => ?_))
  refine T.exit ?_
  refine T.sr (T.k2 (.slice (some ⟨g, 0, none⟩) l.length (l.length + 3)) (.slice (some ⟨g, 0, none⟩) l.length (l.length + 3)) (T.nil ?_))
  refine T.ret rfl ?_
  exact T.ret1 rfl (rT rfl) fun w' hh => ⟨(some ⟨g, 0, none⟩), rfl, trivial, gives_of hh ⟨flat_row (fun _ _ _ _ h => h), trivial⟩⟩
def mkS : ByteArray := ByteArray.mk #[109, 97, 114, 107]
def mkW : DWrite := DWrite.mk 0 mkS
theorem is_mark_str {w : World} {V : View} {H : List HObj} {w1 : World} (hh : Hp w V H w1) : Calls Try.prog 13 #[.string mkS] w1 (fun e w2 => ∃ v, e = .returned v ∧ v = .bool false ∧ Hp w V H w2) := by
  refine T.startI (l := [.string mkS]) Try.func13 rfl rfl rfl ?_ hh
  clear hh
  refine T.sr (T.k (.bool false) (T.nil ?_))
  refine T.sr (T.k3 (.string mkS) (.bool false) (.bool false) (T.nil ?_))
  refine T.ret rfl ?_
  exact T.ret1 rfl (rT rfl) fun w' hh => ⟨_, rfl, rfl, hh⟩
theorem index_str {w : World} {V : View} {H : List HObj} {w1 : World} {A : Option Addr} {c : Nat} (hs : ∀ w', Hp w V H w' → SlOk (vw w') eStr A c [mkS, mkS, mkS]) (hh : Hp w V H w1) :
    Calls Try.prog 39 #[.slice A 3 c, .func (.func 13) #[] #[]] w1 (fun e w2 => ∃ v, e = .returned v ∧ v = .int .i64 (-1) ∧ Hp w V H w2) := by
  refine T.startI (l := [.slice A 3 c, .func (.func 13) #[] #[]]) Try.func39 rfl rfl rfl ?_ hh
  clear hh
  refine T.sr (T.k (vi 0) (T.nil ?_))
  refine T.seq (T.sr (T.k3 (.slice A 3 c) (vi 3) (vi 0) (T.nil ?_)))
  refine T.block (T.rounds 4 ?_)
  refine T.round (T.sr (T.k (.bool true) (T.nil ?_)))
  refine T.seq (T.cond true (by kernel_rfl) (by kernel_rfl) (fun _ => ?_) (fun h => Bool.noConfusion h))
  refine T.skip_code ?_
  refine T.seq (T.block (T.sr (T.k2 (vi 0) (vi 0) (T.nil ?_))))
  refine T.sr (T.k3 (.func (.func 13) #[] #[]) (.slice A 3 c) (vi 0) ?_)
  refine T.l (.pointer (some ((sadr A).add ((0 : Int).toNat * 1)))) (fun w' hh => exec_indexAddr (e := 9) (s := 1) (n := 3) (c := c) (iv := (0 : Int)) (k := .i64) rfl rfl rfl (by kernel_rfl) (by kernel_rfl) (by decide) (by decide) ((hs w' hh).some_ (k := 0) rfl (by decide))) ?_
  refine T.l (.string mkS) (fun w' hh => exec_load1 rfl rfl (by kernel_rfl) (SlOk.wcellF0 (E := eStr) (f := fun x => [.string x]) (hs w' hh) (k := 0) (x := mkS) rfl (fun _ _ _ h => h) rfl)) ?_
  refine T.step (W1.callI 13 [.string mkS] (fun v w' => v = .bool false ∧ Hp w V H w') (by kernel_rfl) (fun _ => by kernel_rfl) (fun w' hh => is_mark_str hh) ?_)
  rintro v w' ⟨rfl, hh⟩
  refine ⟨V, H, hh, ?_⟩
  clear hh
  refine T.nil ?_
  refine T.cond false (by kernel_rfl) (by kernel_rfl) (fun h => Bool.noConfusion h) (fun _ => ?_)
  refine T.skip_code ?_
  refine T.region (T.k2 (vi 1) (vi 1) (T.nil ?_))
  refine T.round (T.sr (T.k (.bool true) (T.nil ?_)))
  refine T.seq (T.cond true (by kernel_rfl) (by kernel_rfl) (fun _ => ?_) (fun h => Bool.noConfusion h))
  refine T.skip_code ?_
  refine T.seq (T.block (T.sr (T.k2 (vi 1) (vi 1) (T.nil ?_))))
  refine T.sr (T.k3 (.func (.func 13) #[] #[]) (.slice A 3 c) (vi 1) ?_)
  refine T.l (.pointer (some ((sadr A).add ((1 : Int).toNat * 1)))) (fun w' hh => exec_indexAddr (e := 9) (s := 1) (n := 3) (c := c) (iv := (1 : Int)) (k := .i64) rfl rfl rfl (by kernel_rfl) (by kernel_rfl) (by decide) (by decide) ((hs w' hh).some_ (k := 1) rfl (by decide))) ?_
  refine T.l (.string mkS) (fun w' hh => exec_load1 rfl rfl (by kernel_rfl) (SlOk.wcellF0 (E := eStr) (f := fun x => [.string x]) (hs w' hh) (k := 1) (x := mkS) rfl (fun _ _ _ h => h) rfl)) ?_
  refine T.step (W1.callI 13 [.string mkS] (fun v w' => v = .bool false ∧ Hp w V H w') (by kernel_rfl) (fun _ => by kernel_rfl) (fun w' hh => is_mark_str hh) ?_)
  rintro v w' ⟨rfl, hh⟩
  refine ⟨V, H, hh, ?_⟩
  clear hh
  refine T.nil ?_
  refine T.cond false (by kernel_rfl) (by kernel_rfl) (fun h => Bool.noConfusion h) (fun _ => ?_)
  refine T.skip_code ?_
  refine T.region (T.k2 (vi 2) (vi 2) (T.nil ?_))
  refine T.round (T.sr (T.k (.bool true) (T.nil ?_)))
  refine T.seq (T.cond true (by kernel_rfl) (by kernel_rfl) (fun _ => ?_) (fun h => Bool.noConfusion h))
  refine T.skip_code ?_
  refine T.seq (T.block (T.sr (T.k2 (vi 2) (vi 2) (T.nil ?_))))
  refine T.sr (T.k3 (.func (.func 13) #[] #[]) (.slice A 3 c) (vi 2) ?_)
  refine T.l (.pointer (some ((sadr A).add ((2 : Int).toNat * 1)))) (fun w' hh => exec_indexAddr (e := 9) (s := 1) (n := 3) (c := c) (iv := (2 : Int)) (k := .i64) rfl rfl rfl (by kernel_rfl) (by kernel_rfl) (by decide) (by decide) ((hs w' hh).some_ (k := 2) rfl (by decide))) ?_
  refine T.l (.string mkS) (fun w' hh => exec_load1 rfl rfl (by kernel_rfl) (SlOk.wcellF0 (E := eStr) (f := fun x => [.string x]) (hs w' hh) (k := 2) (x := mkS) rfl (fun _ _ _ h => h) rfl)) ?_
  refine T.step (W1.callI 13 [.string mkS] (fun v w' => v = .bool false ∧ Hp w V H w') (by kernel_rfl) (fun _ => by kernel_rfl) (fun w' hh => is_mark_str hh) ?_)
  rintro v w' ⟨rfl, hh⟩
  refine ⟨V, H, hh, ?_⟩
  clear hh
  refine T.nil ?_
  refine T.cond false (by kernel_rfl) (by kernel_rfl) (fun h => Bool.noConfusion h) (fun _ => ?_)
  refine T.skip_code ?_
  refine T.region (T.k2 (vi 3) (vi 3) (T.nil ?_))
  refine T.round (T.sr (T.k (.bool false) (T.nil ?_)))
  refine T.seq (T.cond false (by kernel_rfl) (by kernel_rfl) (fun h => Bool.noConfusion h) (fun _ => ?_))
  refine T.exit ?_
  refine T.sr (T.k (vi (-1)) (T.nil ?_))
  refine T.ret rfl ?_
  exact T.ret1 rfl (rT rfl) fun w' hh => ⟨_, rfl, rfl, hh⟩
theorem contains_str {w : World} {V : View} {H : List HObj} {w1 : World} {A : Option Addr} {c : Nat} (hs : ∀ w', Hp w V H w' → SlOk (vw w') eStr A c [mkS, mkS, mkS]) (hh : Hp w V H w1) :
    Calls Try.prog 12 #[.slice A 3 c, .func (.func 13) #[] #[]] w1 (fun e w2 => ∃ v, e = .returned v ∧ v = .bool false ∧ Hp w V H w2) := by
  refine T.startI (l := [.slice A 3 c, .func (.func 13) #[] #[]]) Try.func12 rfl rfl rfl ?_ hh
  clear hh
  refine T.sr (T.k (.bool false) (T.nil ?_))
  refine T.sr (T.k2 (.slice A 3 c) (.func (.func 13) #[] #[]) ?_)
  refine T.step (W1.callI 39 [.slice A 3 c, .func (.func 13) #[] #[]] (fun v w' => v = .int .i64 (-1) ∧ Hp w V H w') (by kernel_rfl) (fun _ => by kernel_rfl) (fun w' hh => index_str hs hh) ?_)
  rintro v w' ⟨rfl, hh⟩
  refine ⟨V, H, hh, ?_⟩
  clear hh
  refine T.k2 (.bool false) (.bool false) (T.nil ?_)
  refine T.ret rfl ?_
  exact T.ret1 rfl (rT rfl) fun w' hh => ⟨_, rfl, rfl, hh⟩
theorem is_mark_Write {w : World} {V : View} {H : List HObj} {w1 : World} (hh : Hp w V H w1) : Calls Try.prog 15 #[.agg #[vi 0, .string mkS]] w1 (fun e w2 => ∃ v, e = .returned v ∧ v = .bool false ∧ Hp w V H w2) := by
  refine T.startI (l := [.agg #[vi 0, .string mkS]]) Try.func15 rfl rfl rfl ?_ hh
  clear hh
  refine T.sr (T.step (W1.np 29 [vi 0, .string mkS] (fun b => T.k (.bool false) (T.nil ?_))))
  refine T.sr (T.k (.pointer (some ⟨b, 1, none⟩)) ?_)
  refine T.l (.string mkS) (ld1 0) ?_
  refine T.k2 (.bool false) (.bool false) (T.nil ?_)
  refine T.ret rfl ?_
  exact T.ret1 rfl (rT rfl) fun w' hh => ⟨_, rfl, rfl, hh.sub (dr1 kpr)⟩
theorem index_Write {w : World} {V : View} {H : List HObj} {w1 : World} {A : Option Addr} {c : Nat} (hs : ∀ w', Hp w V H w' → SlOk (vw w') eWrite A c [mkW, mkW, mkW]) (hh : Hp w V H w1) :
    Calls Try.prog 40 #[.slice A 3 c, .func (.func 15) #[] #[]] w1 (fun e w2 => ∃ v, e = .returned v ∧ v = .int .i64 (-1) ∧ Hp w V H w2) := by
  refine T.startI (l := [.slice A 3 c, .func (.func 15) #[] #[]]) Try.func40 rfl rfl rfl ?_ hh
  clear hh
  refine T.sr (T.k (vi 0) (T.nil ?_))
  refine T.seq (T.sr (T.k3 (.slice A 3 c) (vi 3) (vi 0) (T.nil ?_)))
  refine T.block (T.rounds 4 ?_)
  refine T.round (T.sr (T.k (.bool true) (T.nil ?_)))
  refine T.seq (T.cond true (by kernel_rfl) (by kernel_rfl) (fun _ => ?_) (fun h => Bool.noConfusion h))
  refine T.skip_code ?_
  refine T.seq (T.block (T.sr (T.k2 (vi 0) (vi 0) (T.nil ?_))))
  refine T.sr (T.k3 (.func (.func 15) #[] #[]) (.slice A 3 c) (vi 0) ?_)
  refine T.l (.pointer (some ((sadr A).add ((0 : Int).toNat * 2)))) (fun w' hh => exec_indexAddr (e := 29) (s := 2) (n := 3) (c := c) (iv := (0 : Int)) (k := .i64) rfl rfl rfl (by kernel_rfl) (by kernel_rfl) (by decide) (by decide) ((hs w' hh).some_ (k := 0) rfl (by decide))) ?_
  refine T.l (.agg #[vi 0, .string mkS]) (fun w' hh => exec_loadN (cs := [vi 0, .string mkS]) rfl rfl (by kernel_rfl) (by kernel_rfl) (fun j u hj => SlOk.wcellF (E := eWrite) (hs w' hh) (k := 0) (x := mkW) rfl j (fun _ _ _ h => h) hj)) ?_
  refine T.step (W1.callI 15 [.agg #[vi 0, .string mkS]] (fun v w' => v = .bool false ∧ Hp w V H w') (by kernel_rfl) (fun _ => by kernel_rfl) (fun w' hh => is_mark_Write hh) ?_)
  rintro v w' ⟨rfl, hh⟩
  refine ⟨V, H, hh, ?_⟩
  clear hh
  refine T.nil ?_
  refine T.cond false (by kernel_rfl) (by kernel_rfl) (fun h => Bool.noConfusion h) (fun _ => ?_)
  refine T.skip_code ?_
  refine T.region (T.k2 (vi 1) (vi 1) (T.nil ?_))
  refine T.round (T.sr (T.k (.bool true) (T.nil ?_)))
  refine T.seq (T.cond true (by kernel_rfl) (by kernel_rfl) (fun _ => ?_) (fun h => Bool.noConfusion h))
  refine T.skip_code ?_
  refine T.seq (T.block (T.sr (T.k2 (vi 1) (vi 1) (T.nil ?_))))
  refine T.sr (T.k3 (.func (.func 15) #[] #[]) (.slice A 3 c) (vi 1) ?_)
  refine T.l (.pointer (some ((sadr A).add ((1 : Int).toNat * 2)))) (fun w' hh => exec_indexAddr (e := 29) (s := 2) (n := 3) (c := c) (iv := (1 : Int)) (k := .i64) rfl rfl rfl (by kernel_rfl) (by kernel_rfl) (by decide) (by decide) ((hs w' hh).some_ (k := 1) rfl (by decide))) ?_
  refine T.l (.agg #[vi 0, .string mkS]) (fun w' hh => exec_loadN (cs := [vi 0, .string mkS]) rfl rfl (by kernel_rfl) (by kernel_rfl) (fun j u hj => SlOk.wcellF (E := eWrite) (hs w' hh) (k := 1) (x := mkW) rfl j (fun _ _ _ h => h) hj)) ?_
  refine T.step (W1.callI 15 [.agg #[vi 0, .string mkS]] (fun v w' => v = .bool false ∧ Hp w V H w') (by kernel_rfl) (fun _ => by kernel_rfl) (fun w' hh => is_mark_Write hh) ?_)
  rintro v w' ⟨rfl, hh⟩
  refine ⟨V, H, hh, ?_⟩
  clear hh
  refine T.nil ?_
  refine T.cond false (by kernel_rfl) (by kernel_rfl) (fun h => Bool.noConfusion h) (fun _ => ?_)
  refine T.skip_code ?_
  refine T.region (T.k2 (vi 2) (vi 2) (T.nil ?_))
  refine T.round (T.sr (T.k (.bool true) (T.nil ?_)))
  refine T.seq (T.cond true (by kernel_rfl) (by kernel_rfl) (fun _ => ?_) (fun h => Bool.noConfusion h))
  refine T.skip_code ?_
  refine T.seq (T.block (T.sr (T.k2 (vi 2) (vi 2) (T.nil ?_))))
  refine T.sr (T.k3 (.func (.func 15) #[] #[]) (.slice A 3 c) (vi 2) ?_)
  refine T.l (.pointer (some ((sadr A).add ((2 : Int).toNat * 2)))) (fun w' hh => exec_indexAddr (e := 29) (s := 2) (n := 3) (c := c) (iv := (2 : Int)) (k := .i64) rfl rfl rfl (by kernel_rfl) (by kernel_rfl) (by decide) (by decide) ((hs w' hh).some_ (k := 2) rfl (by decide))) ?_
  refine T.l (.agg #[vi 0, .string mkS]) (fun w' hh => exec_loadN (cs := [vi 0, .string mkS]) rfl rfl (by kernel_rfl) (by kernel_rfl) (fun j u hj => SlOk.wcellF (E := eWrite) (hs w' hh) (k := 2) (x := mkW) rfl j (fun _ _ _ h => h) hj)) ?_
  refine T.step (W1.callI 15 [.agg #[vi 0, .string mkS]] (fun v w' => v = .bool false ∧ Hp w V H w') (by kernel_rfl) (fun _ => by kernel_rfl) (fun w' hh => is_mark_Write hh) ?_)
  rintro v w' ⟨rfl, hh⟩
  refine ⟨V, H, hh, ?_⟩
  clear hh
  refine T.nil ?_
  refine T.cond false (by kernel_rfl) (by kernel_rfl) (fun h => Bool.noConfusion h) (fun _ => ?_)
  refine T.skip_code ?_
  refine T.region (T.k2 (vi 3) (vi 3) (T.nil ?_))
  refine T.round (T.sr (T.k (.bool false) (T.nil ?_)))
  refine T.seq (T.cond false (by kernel_rfl) (by kernel_rfl) (fun h => Bool.noConfusion h) (fun _ => ?_))
  refine T.exit ?_
  refine T.sr (T.k (vi (-1)) (T.nil ?_))
  refine T.ret rfl ?_
  exact T.ret1 rfl (rT rfl) fun w' hh => ⟨_, rfl, rfl, hh⟩
theorem contains_Write {w : World} {V : View} {H : List HObj} {w1 : World} {A : Option Addr} {c : Nat} (hs : ∀ w', Hp w V H w' → SlOk (vw w') eWrite A c [mkW, mkW, mkW]) (hh : Hp w V H w1) :
    Calls Try.prog 14 #[.slice A 3 c, .func (.func 15) #[] #[]] w1 (fun e w2 => ∃ v, e = .returned v ∧ v = .bool false ∧ Hp w V H w2) := by
  refine T.startI (l := [.slice A 3 c, .func (.func 15) #[] #[]]) Try.func14 rfl rfl rfl ?_ hh
  clear hh
  refine T.sr (T.k (.bool false) (T.nil ?_))
  refine T.sr (T.k2 (.slice A 3 c) (.func (.func 15) #[] #[]) ?_)
  refine T.step (W1.callI 40 [.slice A 3 c, .func (.func 15) #[] #[]] (fun v w' => v = .int .i64 (-1) ∧ Hp w V H w') (by kernel_rfl) (fun _ => by kernel_rfl) (fun w' hh => index_Write hs hh) ?_)
  rintro v w' ⟨rfl, hh⟩
  refine ⟨V, H, hh, ?_⟩
  clear hh
  refine T.k2 (.bool false) (.bool false) (T.nil ?_)
  refine T.ret rfl ?_
  exact T.ret1 rfl (rT rfl) fun w' hh => ⟨_, rfl, rfl, hh⟩
end Go.Proofs.Ytjhkfonoobmecaa
