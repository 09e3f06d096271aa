/- One more pure function of a Go function that changes what it is handed, written by walkgen.py. Its conditions: none. -/
import Derived.Test.YtacjdfhllomccaaGreatDoorFrLJ
import Derived.Test.YtacjdfhllomccaaGreatDoorSh2J
import Derived.Test.YtacjdfhllomccaaGreatDoorEqLJ
import Derived.Test.YtacjdfhllomccaaGreatDoorInsJ
import Derived.Test.YtacjdfhllomccaaGreatDoorRecJ
import Derived.Test.YtacjdfhllomccaaGreatDoorDirFJ
import Derived.Test.YtacjdfhllomccaaGreatDoorTreeOJ
import Derived.Test.YtacjdfhllomccaaGreatDoorMapJ
import Derived.Test.YtacjdfhllomccaaGreatDoorDirLJ
import Derived.Shelf.Sort.Plain
import Derived.Ground.Names2Prog
import Derived.Shelf.Slices.CompactI
import Derived.Shelf.Slices.In.SortNone
import Derived.Test.YtacjdfhllomccaaGreatDoorProg
import Derived.Test.YtacjdfhllomccaaGreatDoorRowJ
import Derived.Test.YtacjdfhllomccaaGreatDoorOpsJ
import Derived.Test.YtacjdfhllomccaaGreatDoorRunFJ
import Derived.Test.YtacjdfhllomccaaGreatDoorRunLJ
namespace Go.Proofs.YtacjdfhllomccaaGreatDoor
set_option linter.unusedVariables false
def fs_FS_Prune_fr2 (F : Nat) (p904 : List DElem) (p906 : Int) (p907 : Int) (p910 : List Int) : Option ((List DElem) × Int) :=
 (prune_Kept F p904 p910).bind fun r1 =>
 bif (r1.2 != 0) then
  some (p904, r1.2)
 else
  some (r1.1, 0)
end Go.Proofs.YtacjdfhllomccaaGreatDoor
/- One more Go function that changes what it is handed, walked over whatever lies beside. Its condition: the pure function yields a result. -/
namespace Go.Proofs.YtacjdfhllomccaaGreatDoor
set_option linter.unusedVariables false
set_option maxRecDepth 100000 in
set_option maxHeartbeats 4000000 in
theorem fs_FS_Prune_fr2_l (F : Nat) (p904 : List DElem) (p906 : Int) (p907 : Int) (p910 : List Int) (r : (List DElem) × Int) (hF : fs_FS_Prune_fr2 F p904 p906 p907 p910 = some r) (w : World) (hGl : Glob w) (b901 : Nat) (A902 : Option Addr) (c903 : Nat) (A908 : Option Addr) (c909 : Nat) (V900 : View) (G900 : List HObj) (w1 : World) (hs905 : SlOk V900 eElem A902 c903 p904) (hs911 : SlOk V900 eInt A908 c909 p910) (hh : Hp w V900 ((box b901 78 [.slice A902 p904.length c903, .int .i64 p906, .int .i64 p907]) :: G900) w1) :
 Calls Tryz.prog 44 #[.pointer (some ⟨b901, 0, none⟩), .slice A908 p910.length c909] w1 (fun e w2 => ∃ v, e = .returned v ∧ ∃ (A1 : Option Addr) (c1 : Nat) (V1 : View), View.le V900 V1 ∧ SlOk V1 eElem A1 c1 r.1 ∧ v = .int .i64 r.2 ∧ Hp w V1 ((box b901 78 [.slice A1 r.1.length c1, .int .i64 p906, .int .i64 p907]) :: G900) w2) := by
 unfold fs_FS_Prune_fr2 at hF
 have hV900 := hh.base
 refine T.startI (l := [pB b901 0, .slice A908 p910.length c909]) Tryz.func44 rfl rfl rfl ?_ hh
 clear hh
 refine T.seq (T.region (T.pk (vi 0) (fun _ => by kernel_rfl) (T.nil (T.seq (T.region (T.p3 (pB b901 0) (pB b901 0) (pB b901 0) (fun _ => by kernel_rfl) (T.look (.slice A902 p904.length c903) (by kernel_rfl) (ld1 0 rfl rfl (fun _ => by kernel_rfl) (by rfl) rfl) ?_)))))))
 refine T.pk (.slice A908 p910.length c909) (fun _ => by kernel_rfl) ?_
 obtain ⟨r1, hb1, hF⟩ := ob hF
 refine T.step (W1.call (vT2 (vSc (eList eElem)) (vSc eInt)) r1 78 #[.slice A902 p904.length c903, .slice A908 p910.length c909] (by kernel_rfl) (fun _ => by kernel_rfl) (fun w' hh => prune_Kept_l F p904 p910 r1 hb1 w' A902 c903 (SlOk.mono hs905 hh.view) A908 c909 (SlOk.mono hs911 hh.view)) ?_)
 intro u V2 hV2 hu
 obtain ⟨u1, u2, rfl, hu1, hu2⟩ := vT2_elim hu
 obtain ⟨A2, c2, rfl, hs2⟩ := vlist_elim hu1
 obtain rfl := sureInt _ _ _ hu2
 refine T.p5 (.tuple #[.slice A2 r1.1.length c2, vi r1.2]) (.slice A2 r1.1.length c2) (vi r1.2) (.slice A2 r1.1.length c2) (vi r1.2) (fun _ => by kernel_rfl) (T.nil (T.seq (T.seq (T.region (T.p2 (vi r1.2) (.bool (r1.2 != 0)) (fun _ => by kernel_rfl) (T.nil ?_))))))
 refine T.cond (r1.2 != 0) (by kernel_rfl) (by kernel_rfl) (fun hc1 => ?_) (fun hc1 => ?_)
 ·
  rw [hc1, cond_true] at hF
  refine T.seq (T.region (T.p2 (vi r1.2) (vi r1.2) (fun _ => by kernel_rfl) (T.nil ?_)))
  have hres := Option.some.inj hF
  subst hres
  refine T.ret rfl ?_
  repeat first | refine T.unthen ?_ | refine T.unblock ?_
  exact T.ret1 rfl (ResIs.tmp rfl) fun w' hh => ⟨_, rfl, ⟨A902, c903, V2, hV2, (SlOk.mono hs905 hV2), rfl, (hh.sub (kp1 kpr))⟩⟩
 rw [hc1, cond_false] at hF
 refine T.skip_code ?_
 refine T.seq (T.region (T.p4 (pB b901 0) (.slice A2 r1.1.length c2) (pB b901 0) (pB b901 0) (fun _ => by kernel_rfl) (T.step (W1.st 0 [.slice A2 r1.1.length c2, vi p906, vi p907] ((box b901 78 [.slice A2 r1.1.length c2, vi p906, vi p907]) :: G900) [.slice A2 r1.1.length c2] (by rfl) rfl rfl rfl rfl rfl rfl (fun _ => by kernel_rfl) ?_))))
 refine T.nil (T.seq (T.region (T.pk (vi 0) (fun _ => by kernel_rfl) (T.nil ?_))))
 have hres := Option.some.inj hF
 subst hres
 refine T.ret rfl ?_
 repeat first | refine T.unthen ?_ | refine T.unblock ?_
 exact T.ret1 rfl (ResIs.tmp rfl) fun w' hh => ⟨_, rfl, ⟨A2, c2, V2, hV2, (SlOk.mono hs2 (vt (made_le _ _) vr)), rfl, (hh.sub (kp1 kpr))⟩⟩
end Go.Proofs.YtacjdfhllomccaaGreatDoor
/- What slices.Insert and slices.Delete do to rows of the call's own, written by ownlib.py. Conditions of each: the row is the call's own, the place lies within it, there is room for one more. -/
namespace Go.Proofs.YtacjdfhllomccaaGreatDoor
open Go.RowKit
set_option linter.unusedVariables false
set_option maxRecDepth 100000 in
set_option maxHeartbeats 4000000 in
theorem own_clone_Snap (w : World) (V : View) (H : List HObj) (w1 : World) (A : Option Addr) (c : Nat) (l : List DSnap) (hs : ∀ w', Hp w V H w' → SlOk (vw w') eSnap A c l) (hr : room l.length 24 = true) (hm : l.length ≤ maxLen)
 (hh : Hp w V H w1) : Calls Tryz.prog 83 #[.slice A l.length c] w1 (fun r w2 => ∃ A' c', r = .returned (.slice A' l.length c') ∧ Hp w V (row 109 eSnap A' c' l :: H) w2) := by
 have hs1 := hs _ hh
 refine T.startI (l := [.slice A l.length c]) Tryz.func83 rfl rfl rfl ?_ hh
 clear hh
 refine T.seq (T.region (T.pk sN (fun _ => by kernel_rfl) (T.nil (T.seq (T.seq (T.region (T.pk (.slice A l.length c) (fun _ => by kernel_rfl) ?_)))))))
 cases A with
 | none =>
  refine T.pk (.bool true) (fun _ => by kernel_rfl) (T.nil ?_)
  refine T.cond true (by kernel_rfl) (by kernel_rfl) (fun _ => ?_) (fun h => Bool.noConfusion h)
  refine T.seq (T.region (T.pk sN (fun _ => by kernel_rfl) (T.nil ?_)))
  obtain rfl : l = [] := by
   cases l with
   | nil => rfl
   | cons x l => exact absurd (hs1.some_ (k := 0) rfl (by decide)) (by decide)
  refine T.rownil 109 eSnap ?_
  refine T.ret rfl ?_
  repeat first | refine T.unthen ?_ | refine T.unblock ?_
  exact T.ret1 rfl (ResIs.tmp rfl) fun w' hh => ⟨none, 0, rfl, hh⟩
 | some a =>
  refine T.pk (.bool false) (fun _ => by kernel_rfl) (T.nil ?_)
  refine T.cond false (by kernel_rfl) (by kernel_rfl) (fun h => Bool.noConfusion h) (fun _ => ?_)
  refine T.skip_code ?_
  refine T.seq (T.region (T.step (W1.new 109 [] (fun b => .slice (some ⟨b, 0, none⟩) 0 0) (by kernel_rfl) (fun _ => by kernel_rfl) (fun b1 => ?_))))
  refine T.pk (.slice (some a) l.length c) (fun _ => by kernel_rfl) ?_
  refine (fun (h : T _ _ _ ((row 109 eSnap (some ⟨b1, 0, none⟩) 0 ([] : List DSnap)) :: _) _ _) => (fun a w' hf hh => h a w' hf (hh.fresh_obj _ ⟨rfl, rfl, rfl, Nat.le_refl _, fun _ _ _ => rfl⟩ ⟨Nat.le_refl _, by decide, .inl rfl⟩ (fun b hb => by cases hb)) : T _ _ _ _ _ _)) ?_
  obtain ⟨ti, hti, hz1, hz2, hz3⟩ := info_parts (P := Tryz.prog) (e := 109) (z := .agg #[.string (ByteArray.mk #[]), vi 0]) (size := 2) (bytes := 24) (by kernel_rfl)
  refine T.step (W1.append (E := eSnap) (l := ([] : List DSnap)) (m := l) 0 _ _ 24 ti _ (by rfl) (by kernel_rfl) rfl (by kernel_rfl) hti hz1 hz2 hz3 rfl (by decide) rfl rfl (fun w' hh => (SlOk.srcF (hs w' (hh.sub (dr1 (dr1 kpr)))) (fun _ _ _ _ h => h))) (by simpa +zetaDelta using hr) (by simpa +zetaDelta using hm) (fun A' c' => ?_))
  refine T.pk (.slice A' (([] : List DSnap) ++ l).length c') (fun _ => by kernel_rfl) (T.nil ?_)
  refine T.ret rfl ?_
  repeat first | refine T.unthen ?_ | refine T.unblock ?_
  exact T.ret1 rfl (ResIs.tmp rfl) fun w' hh => ⟨A', c', rfl, hh.sub (kp1 (dr1 kpr))⟩
set_option maxRecDepth 100000 in
set_option maxHeartbeats 4000000 in
theorem own_insert_Snap (w : World) (V : View) (G : List HObj) (w1 : World) (A : Option Addr) (c : Nat) (l : List DSnap) (k b tb : Nat) (x : DSnap) (hk : k ≤ l.length) (hr : room (l.length + 1) 24 = true) (hm : l.length + 1 ≤ maxLen)
 (hh : Hp w V (row 109 eSnap A c l :: box b tb (DSnap.cells x) :: G) w1) : Calls Tryz.prog 82 #[.slice A l.length c, .int .i64 (k : Int), .slice (some ⟨b, 0, none⟩) 1 1] w1 (fun r w2 => ∃ A' c', r = .returned (.slice A' (insAt l k x).length c') ∧ Hp w V (row 109 eSnap A' c' (insAt l k x) :: box b tb (DSnap.cells x) :: G) w2) := by
 have hVb := hh.base
 have hM : l.length + 1 ≤ 9223372036854775807 := Nat.le_trans hm (by decide)
 have hw1 : IntKind.i64.wrap ((l.length : Int) + 1) = ((l.length + 1 : Nat) : Int) := by rw [IntKind.wrap_i64]; omega
 have hw2 : IntKind.i64.wrap ((k : Int) + 1) = ((k + 1 : Nat) : Int) := by rw [IntKind.wrap_i64]; omega
 have hw3 : IntKind.i64.wrap (((l.length + 1 : Nat) : Int) - (k : Int)) = ((l.length + 1 - k : Nat) : Int) := by rw [IntKind.wrap_i64]; omega
 refine T.startI (l := [.slice A l.length c, vi (k : Int), .slice (some ⟨b, 0, none⟩) 1 1]) Tryz.func82 rfl rfl rfl ?_ hh
 clear hh
 refine T.rowlen 0 rfl (fun hlc hcm => ?_)
 refine T.seq (T.region (T.pk sN (fun _ => by kernel_rfl) (T.nil (T.seq (T.region (T.p2 (.slice A l.length c) (vi (k : Int)) (fun _ => by kernel_rfl) (T.look (.slice (cutA A c k 2) (l.length - k) (c - k)) (by kernel_rfl) (fun w' hh => exec_slice_cap (e := 109) (s := 2) (lx := (some _)) (hx := none) (lo := (k : Int)) (hi := (l.length : Int)) (k := .i64) (k' := .i64) rfl rfl (by kernel_rfl) (by kernel_rfl) rfl rfl (by omega) (by omega) (by omega)) ?_)))))))
 refine T.nil (T.seq (T.region (T.p3 (.slice (some ⟨b, 0, none⟩) 1 1) (vi 1) (vi 1) (fun _ => by kernel_rfl) (T.nil (T.seq (T.seq (T.region (T.p2 (vi 1) (.bool false) (fun _ => by kernel_rfl) (T.nil ?_)))))))))
 refine T.cond false (by kernel_rfl) (by kernel_rfl) (fun h => Bool.noConfusion h) (fun _ => ?_)
 refine T.skip_code ?_
 refine T.seq (T.region (T.p3 (.slice A l.length c) (vi (l.length : Int)) (vi (l.length : Int)) (fun _ => by kernel_rfl) (T.nil (T.seq (T.seq (T.region (T.p3 (vi (k : Int)) (vi (l.length : Int)) (.bool ((k : Int) == (l.length : Int))) (fun _ => by kernel_rfl) (T.nil ?_))))))))
 refine T.cond ((k : Int) == (l.length : Int)) (by kernel_rfl) (by kernel_rfl) (fun hc => ?_) (fun hc => ?_)
 · have hke : k = l.length := by have := eq_of_beq hc; omega
   subst hke
   refine T.seq (T.region (T.p2 (.slice A l.length c) (.slice (some ⟨b, 0, none⟩) 1 1) (fun _ => by kernel_rfl) ?_))
   obtain ⟨ti, hti, hz1, hz2, hz3⟩ := info_parts (P := Tryz.prog) (e := 109) (z := .agg #[.string (ByteArray.mk #[]), vi 0]) (size := 2) (bytes := 24) (by kernel_rfl)
   refine T.step (W1.append (E := eSnap) (l := l) (m := [x]) 0 _ _ 24 ti _ (by rfl) (by kernel_rfl) rfl (by kernel_rfl) hti hz1 hz2 hz3 rfl (by decide) rfl rfl (fun w' hh => (SlOk.srcF (slok_lit (E := eSnap) (f := DSnap.cells) [x] (fun _ _ => rfl) (Nat.le_of_ble_eq_true (by rfl)) (fun j => hh.cellBox (i := 1) (by rfl) j)) (fun _ _ _ _ h => h))) hr hm (fun A' c' => ?_))
   refine T.pk (.slice A' (l ++ [x]).length c') (fun _ => by kernel_rfl) (T.nil ?_)
   refine T.ret rfl ?_
   repeat first | refine T.unthen ?_ | refine T.unblock ?_
   exact T.ret1 rfl (ResIs.tmp rfl) fun w' hh => ⟨A', c', by rw [insAt_end], by rw [insAt_end]; exact hh⟩
 have hkn : k < l.length := by have : ¬ ((k : Int) = (l.length : Int)) := ne_of_beq_false hc; omega
 refine T.skip_code ?_
 refine T.seq (T.seq (T.region (T.p3 (vi (l.length : Int)) (vi 1) (vi (IntKind.i64.wrap ((l.length : Int) + 1))) (fun _ => by kernel_rfl) ?_)))
 refine T.reslot 28 (vi ((l.length + 1 : Nat) : Int)) rfl (by rw [hw1]) ?_
 refine T.p3 (.slice A l.length c) (vi (c : Int)) (.bool (decide ((c : Int) < ((l.length + 1 : Nat) : Int)))) (fun _ => by kernel_rfl) (T.nil ?_)
 refine T.cond (decide ((c : Int) < ((l.length + 1 : Nat) : Int))) (by kernel_rfl) (by kernel_rfl) (fun hc => ?_) (fun hc => ?_)
 · have hg : c < k + (l.length + 1 - k) := by have := of_decide_eq_true hc; omega
   have hL1 : (l.take k ++ List.replicate (l.length + 1 - k) ((DSnap.mk (ByteArray.mk #[]) 0))).length = l.length + 1 := by simp only [List.length_append, List.length_take, List.length_replicate]; omega
   refine T.seq (T.region (T.p2 (.slice A l.length c) (vi (k : Int)) (fun _ => by kernel_rfl) (T.look (.slice (cutA A c 0 2) k c) (by kernel_rfl) (fun w' hh => exec_slice_cap (e := 109) (s := 2) (lx := none) (hx := (some _)) (lo := 0) (hi := (k : Int)) (k := .i64) (k' := .i64) rfl rfl (by kernel_rfl) (by kernel_rfl) rfl rfl (by omega) (by omega) (by omega)) ?_)))
   refine T.reslot 34 (.slice A k c) rfl (by rw [cutA_zero]) ?_
   refine T.p3 (vi (l.length : Int)) (vi 1) (vi (IntKind.i64.wrap ((l.length : Int) + 1))) (fun _ => by kernel_rfl) ?_
   refine T.reslot 37 (vi ((l.length + 1 : Nat) : Int)) rfl (by rw [hw1]) ?_
   refine T.p2 (vi (k : Int)) (vi (IntKind.i64.wrap (((l.length + 1 : Nat) : Int) - (k : Int)))) (fun _ => by kernel_rfl) ?_
   refine T.reslot 39 (vi ((l.length + 1 - k : Nat) : Int)) rfl (by rw [hw3]) ?_
   obtain ⟨ti, hti, hz1, hz2, hz3⟩ := info_parts (P := Tryz.prog) (e := 109) (z := .agg #[.string (ByteArray.mk #[]), vi 0]) (size := 2) (bytes := 24) (by kernel_rfl)
   refine T.step (W1.growzTo (E := eSnap) (x := (DSnap.mk (ByteArray.mk #[]) 0)) (z := .agg #[.string (ByteArray.mk #[]), vi 0]) (kn := .i64) 0 k (l.length + 1 - k) _ _ 24 ti (by rfl) hk (by omega) (by omega) hg (by kernel_rfl) rfl (by kernel_rfl) (by kernel_rfl) hti hz1 hz2 hz3 (fun _ => rfl) rfl (by decide) rfl rfl (by rw [show k + (l.length + 1 - k) = l.length + 1 by omega]; exact hr) (by omega) (fun A' c' => ?_))
   refine T.pk (.slice A' (l.take k ++ List.replicate (l.length + 1 - k) ((DSnap.mk (ByteArray.mk #[]) 0))).length c') (fun _ => by kernel_rfl) (T.nil ?_)
   refine T.rowlen 0 rfl (fun hlc' hcm' => ?_)
   refine T.seq (T.region (T.p2 (.slice A' (l.take k ++ List.replicate (l.length + 1 - k) ((DSnap.mk (ByteArray.mk #[]) 0))).length c') (vi (k : Int)) (fun _ => by kernel_rfl) (T.look (.slice (cutA A' c' k 2) ((l.take k ++ List.replicate (l.length + 1 - k) ((DSnap.mk (ByteArray.mk #[]) 0))).length - k) (c' - k)) (by kernel_rfl) (fun w' hh => exec_slice_cap (e := 109) (s := 2) (lx := (some _)) (hx := none) (lo := (k : Int)) (hi := (((l.take k ++ List.replicate (l.length + 1 - k) ((DSnap.mk (ByteArray.mk #[]) 0))).length : Nat) : Int)) (k := .i64) (k' := .i64) rfl rfl (by kernel_rfl) (by kernel_rfl) rfl rfl (by omega) (by omega) (by omega)) ?_)))
   refine T.pk (.slice (some ⟨b, 0, none⟩) 1 1) (fun _ => by kernel_rfl) (T.step (W1.copy (E := eSnap) (l := (l.take k ++ List.replicate (l.length + 1 - k) ((DSnap.mk (ByteArray.mk #[]) 0)))) (m := [x]) 0 k ((l.take k ++ List.replicate (l.length + 1 - k) ((DSnap.mk (ByteArray.mk #[]) 0))).length - k) _ _ (by rfl) (by kernel_rfl) rfl (by kernel_rfl) (fun _ => by kernel_rfl) (by decide) rfl rfl (by omega) (fun w' hh => (SlOk.srcF (slok_lit (E := eSnap) (f := DSnap.cells) [x] (fun _ _ => rfl) (Nat.le_of_ble_eq_true (by rfl)) (fun j => hh.cellBox (i := 2) (by rfl) j)) (fun _ _ _ _ h => h))) ?_))
   refine T.nil ?_
   have hL2 : (over (l.take k ++ List.replicate (l.length + 1 - k) ((DSnap.mk (ByteArray.mk #[]) 0))) k ([x].take ((l.take k ++ List.replicate (l.length + 1 - k) ((DSnap.mk (ByteArray.mk #[]) 0))).length - k))).length = (l.take k ++ List.replicate (l.length + 1 - k) ((DSnap.mk (ByteArray.mk #[]) 0))).length := over_length _ _ _ (by rw [List.length_take]; have : [x].length = 1 := rfl; omega)
   have hld : (l.drop k).length = l.length - k := List.length_drop
   have hcut : lslice l (k : Int) (l.length : Int) = some (l.drop k) := by unfold lslice; rw [if_pos ⟨by omega, by omega, by omega⟩]; simp
   refine T.seq ?_
   refine T.held [] (by kernel_rfl) ?_
   refine TA.keep (Hp.old vr hVb kp0 ol0) fun o1_ => ?_
   refine TA.tp 0 (.slice A' (l.take k ++ List.replicate (l.length + 1 - k) ((DSnap.mk (ByteArray.mk #[]) 0))).length c') rfl (fun _ => by kernel_rfl) (fun _ _ _ h => h) o1_ ?_
   refine TA.tp 1 (vi (k : Int)) rfl (fun _ => by kernel_rfl) (fun _ _ _ h => h) o1_ ?_
   refine TA.tp 2 (vi 1) rfl (fun _ => by kernel_rfl) (fun _ _ _ h => h) o1_ ?_
   refine TA.tp 3 (vi (IntKind.i64.wrap ((k : Int) + 1))) rfl (fun _ => by kernel_rfl) (fun _ _ _ h => h) o1_ ?_
   refine T.reslot 49 (vi ((k + 1 : Nat) : Int)) rfl (by rw [hw2]) ?_
   refine TA.keep (Hp.old vr hVb kp0 ol0) fun o2_ => ?_
   refine TA.tk 4 (.slice (cutA A' c' (k + 1) 2) ((l.take k ++ List.replicate (l.length + 1 - k) ((DSnap.mk (ByteArray.mk #[]) 0))).length - (k + 1)) (c' - (k + 1))) rfl (by kernel_rfl) (fun _ _ _ h => h) o2_ (fun w' hh => exec_slice_cap (e := 109) (s := 2) (lx := (some _)) (hx := none) (lo := ((k + 1 : Nat) : Int)) (hi := (((l.take k ++ List.replicate (l.length + 1 - k) ((DSnap.mk (ByteArray.mk #[]) 0))).length : Nat) : Int)) (k := .i64) (k' := .i64) rfl rfl (by kernel_rfl) (by kernel_rfl) rfl rfl (by omega) (by omega) (by omega)) ?_
   refine TA.tp 5 (.slice A l.length c) rfl (fun _ => by kernel_rfl) (fun _ _ _ h => h) o2_ ?_
   refine TA.tp 6 (vi (k : Int)) rfl (fun _ => by kernel_rfl) (fun _ _ _ h => h) o2_ ?_
   refine TA.tk 7 (.slice (cutA A c k 2) (l.length - k) (c - k)) rfl (by kernel_rfl) (fun _ _ _ h => h) o2_ (fun w' hh => exec_slice_cap (e := 109) (s := 2) (lx := (some _)) (hx := none) (lo := (k : Int)) (hi := (l.length : Int)) (k := .i64) (k' := .i64) rfl rfl (by kernel_rfl) (by kernel_rfl) rfl rfl (by omega) (by omega) (by omega)) ?_
   refine T.reslot 53 (.slice (cutA A c k 2) (l.drop k).length (c - k)) rfl (by rw [hld]) ?_
   refine TA.all [8] (by kernel_rfl) rfl ⟨?_, trivial⟩
   refine TA.br rfl (W1.copy (E := eSnap) (l := over (l.take k ++ List.replicate (l.length + 1 - k) ((DSnap.mk (ByteArray.mk #[]) 0))) k ([x].take ((l.take k ++ List.replicate (l.length + 1 - k) ((DSnap.mk (ByteArray.mk #[]) 0))).length - k))) (m := l.drop k) 0 (k + 1) ((l.take k ++ List.replicate (l.length + 1 - k) ((DSnap.mk (ByteArray.mk #[]) 0))).length - (k + 1)) _ _ (by rfl) (by kernel_rfl) rfl (by kernel_rfl) (fun _ => by kernel_rfl) (by decide) rfl rfl (by rw [hL2]; omega) (fun w' hh => (SlOk.srcF (SlOk.cut (hh.row_slOk (i := 1) (by rfl)) hcut) (fun _ _ _ _ h => h))) ?_)
   refine TA.on (Hp.old vr hVb kp0 ol0) ?_
   refine TA.done (by kernel_rfl) ?_
   refine T.reH (H' := (row 109 eSnap A' c' (insAt l k x) :: row 109 eSnap A c l :: box b tb (DSnap.cells x) :: G)) (congrArg (fun q => row 109 eSnap A' c' q :: row 109 eSnap A c l :: box b tb (DSnap.cells x) :: G) (over_ins2 x _ hkn (by omega) (by omega))) ?_
   refine T.seq (T.region (T.p2 (.slice A' (l.take k ++ List.replicate (l.length + 1 - k) ((DSnap.mk (ByteArray.mk #[]) 0))).length c') (.slice A' (l.take k ++ List.replicate (l.length + 1 - k) ((DSnap.mk (ByteArray.mk #[]) 0))).length c') (fun _ => by kernel_rfl) (T.nil ?_)))
   refine T.ret rfl ?_
   repeat first | refine T.unthen ?_ | refine T.unblock ?_
   exact T.ret1 rfl (ResIs.tmp rfl) fun w' hh => ⟨A', c', by rw [insAt_length x hk, hL1], hh.sub (kp1 (dr1 kpr))⟩
 have hroom : l.length + 1 ≤ c := by have := of_decide_eq_false hc; omega
 have hld : (l.drop k).length = l.length - k := List.length_drop
 have hcut : lslice l (k : Int) (l.length : Int) = some (l.drop k) := by unfold lslice; rw [if_pos ⟨by omega, by omega, by omega⟩]; simp
 have hlt : (l.take (k + 1)).length = k + 1 := by rw [List.length_take]; omega
 have hl3 : (l.take (k + 1) ++ l.drop k).length = l.length + 1 := by rw [List.length_append, hlt, hld]; omega
 refine T.skip_code ?_
 refine T.seq (T.region (T.p4 (.slice A l.length c) (vi (l.length : Int)) (vi 1) (vi (IntKind.i64.wrap ((l.length : Int) + 1))) (fun _ => by kernel_rfl) ?_))
 refine T.reslot 59 (vi ((l.length + 1 : Nat) : Int)) rfl (by rw [hw1]) ?_
 refine T.look (.slice (cutA A c 0 2) (l.length + 1) c) (by kernel_rfl) (fun w' hh => exec_slice_cap (e := 109) (s := 2) (lx := none) (hx := (some _)) (lo := 0) (hi := ((l.length + 1 : Nat) : Int)) (k := .i64) (k' := .i64) rfl rfl (by kernel_rfl) (by kernel_rfl) rfl rfl (by omega) (by omega) (by omega)) ?_
 refine T.reslot 60 (.slice A (l.length + 1) c) rfl (by rw [cutA_zero]) ?_
 refine T.pk (.slice A (l.length + 1) c) (fun _ => by kernel_rfl) (T.nil (T.seq (T.seq (T.region (T.p5 (.slice (some ⟨b, 0, none⟩) 1 1) (.slice A (l.length + 1) c) (vi (k : Int)) (vi 1) (vi (IntKind.i64.wrap ((k : Int) + 1))) (fun _ => by kernel_rfl) ?_)))))
 refine T.reslot 65 (vi ((k + 1 : Nat) : Int)) rfl (by rw [hw2]) ?_
 refine T.look (.slice (cutA A c (k + 1) 2) (l.length + 1 - (k + 1)) (c - (k + 1))) (by kernel_rfl) (fun w' hh => exec_slice_cap (e := 109) (s := 2) (lx := (some _)) (hx := none) (lo := ((k + 1 : Nat) : Int)) (hi := ((l.length + 1 : Nat) : Int)) (k := .i64) (k' := .i64) rfl rfl (by kernel_rfl) (by kernel_rfl) rfl rfl (by omega) (by omega) (by omega)) ?_
 refine T.look (.bool false) (by kernel_rfl) (fun w' hh => exec_overlaps (E := eSnap) (e := 109) (t := 69) (tR := 4) (s := 2) (i := 1) (j := 0) (off := (k + 1) * 2) rfl rfl rfl Tryz.func114 (by kernel_rfl) (by kernel_rfl) (by kernel_rfl) (by kernel_rfl) (by kernel_rfl) (fun _ => by kernel_rfl) hh (by rfl) (by rfl) (by decide) (fun g hg => cutA_some hg (by omega)) (by omega) (by decide)) ?_
 refine T.pk (.bool true) (fun _ => by kernel_rfl) (T.nil ?_)
 refine T.cond true (by kernel_rfl) (by kernel_rfl) (fun _ => ?_) (fun h => Bool.noConfusion h)
 refine T.seq ?_
 refine T.held [] (by kernel_rfl) ?_
 refine TA.keep (Hp.old vr hVb kp0 ol0) fun o3_ => ?_
 refine TA.tp 0 (.slice A (l.length + 1) c) rfl (fun _ => by kernel_rfl) (fun _ _ _ h => h) o3_ ?_
 refine TA.tp 1 (vi (k : Int)) rfl (fun _ => by kernel_rfl) (fun _ _ _ h => h) o3_ ?_
 refine TA.tp 2 (vi 1) rfl (fun _ => by kernel_rfl) (fun _ _ _ h => h) o3_ ?_
 refine TA.tp 3 (vi (IntKind.i64.wrap ((k : Int) + 1))) rfl (fun _ => by kernel_rfl) (fun _ _ _ h => h) o3_ ?_
 refine T.reslot 72 (vi ((k + 1 : Nat) : Int)) rfl (by rw [hw2]) ?_
 refine TA.keep (Hp.old vr hVb kp0 ol0) fun o4_ => ?_
 refine TA.tk 4 (.slice (cutA A c (k + 1) 2) (l.length + 1 - (k + 1)) (c - (k + 1))) rfl (by kernel_rfl) (fun _ _ _ h => h) o4_ (fun w' hh => exec_slice_cap (e := 109) (s := 2) (lx := (some _)) (hx := none) (lo := ((k + 1 : Nat) : Int)) (hi := ((l.length + 1 : Nat) : Int)) (k := .i64) (k' := .i64) rfl rfl (by kernel_rfl) (by kernel_rfl) rfl rfl (by omega) (by omega) (by omega)) ?_
 refine TA.tp 5 (.slice A (l.length + 1) c) rfl (fun _ => by kernel_rfl) (fun _ _ _ h => h) o4_ ?_
 refine TA.tp 6 (vi (k : Int)) rfl (fun _ => by kernel_rfl) (fun _ _ _ h => h) o4_ ?_
 refine TA.tk 7 (.slice (cutA A c k 2) (l.length + 1 - k) (c - k)) rfl (by kernel_rfl) (fun _ _ _ h => h) o4_ (fun w' hh => exec_slice_cap (e := 109) (s := 2) (lx := (some _)) (hx := none) (lo := (k : Int)) (hi := ((l.length + 1 : Nat) : Int)) (k := .i64) (k' := .i64) rfl rfl (by kernel_rfl) (by kernel_rfl) rfl rfl (by omega) (by omega) (by omega)) ?_
 refine TA.all [8] (by kernel_rfl) rfl ⟨?_, trivial⟩
 refine TA.br rfl (W1.copyTo (E := eSnap) (l := l) (m := l.drop k) 0 (k + 1) (l.length + 1 - (k + 1)) (l.length + 1 - k) _ _ (by rfl) (by kernel_rfl) rfl (by kernel_rfl) (fun _ => by kernel_rfl) (by decide) rfl rfl (by rw [hld]; omega) (by omega) (by omega) (by omega) (by omega) (fun w' hh => (SlOk.srcF (SlOk.cut (hh.row_slOk (i := 0) (by rfl)) hcut) (fun _ _ _ _ h => h))) ?_)
 refine TA.on (Hp.old vr hVb kp0 ol0) ?_
 refine TA.done (by kernel_rfl) ?_
 refine T.seq (T.region (T.p2 (.slice A (l.length + 1) c) (vi (k : Int)) (fun _ => by kernel_rfl) (T.look (.slice (cutA A c k 2) (l.length + 1 - k) (c - k)) (by kernel_rfl) (fun w' hh => exec_slice_cap (e := 109) (s := 2) (lx := (some _)) (hx := none) (lo := (k : Int)) (hi := ((l.length + 1 : Nat) : Int)) (k := .i64) (k' := .i64) rfl rfl (by kernel_rfl) (by kernel_rfl) rfl rfl (by omega) (by omega) (by omega)) ?_)))
 refine T.pk (.slice (some ⟨b, 0, none⟩) 1 1) (fun _ => by kernel_rfl) (T.step (W1.copy (E := eSnap) (l := l.take (k + 1) ++ l.drop k) (m := [x]) 0 k (l.length + 1 - k) _ _ (by rfl) (by kernel_rfl) rfl (by kernel_rfl) (fun _ => by kernel_rfl) (by decide) rfl rfl (by omega) (fun w' hh => (SlOk.srcF (slok_lit (E := eSnap) (f := DSnap.cells) [x] (fun _ _ => rfl) (Nat.le_of_ble_eq_true (by rfl)) (fun j => hh.cellBox (i := 1) (by rfl) j)) (fun _ _ _ _ h => h))) ?_))
 refine T.nil ?_
 refine T.reH (H' := (row 109 eSnap A c (insAt l k x) :: box b tb (DSnap.cells x) :: G)) (congrArg (fun q => row 109 eSnap A c q :: box b tb (DSnap.cells x) :: G) (over_ins1 x hkn (by omega))) ?_
 refine T.seq (T.region (T.p2 (.slice A (l.length + 1) c) (.slice A (l.length + 1) c) (fun _ => by kernel_rfl) (T.nil ?_)))
 refine T.ret rfl ?_
 repeat first | refine T.unthen ?_ | refine T.unblock ?_
 exact T.ret1 rfl (ResIs.tmp rfl) fun w' hh => ⟨A, c, by rw [insAt_length x hk], hh⟩
end Go.Proofs.YtacjdfhllomccaaGreatDoor
/- Pure functions, written by walkgen.py out of the Go functions of group Snap. Their conditions: none. -/
namespace Go.Proofs.YtacjdfhllomccaaGreatDoor
set_option linter.unusedVariables false
def snap_Check (F : Nat) (p0 : (List DSnap)) : Option (Int) :=
 bif decide ((20 : Int) < (p0.length : Int)) then
  some 2
 else
  (iter (σ := Int) (ρ := (Unit) ⊕ Int) (fun x1 =>
   bif decide (x1 < (p0.length : Int)) then
    (idx p0 x1).bind fun e1 =>
    (
     (dir_Name F e1.name).bind fun r1 =>
      bif (!r1) then
       some true
      else
       bif decide ((0 : Int) < x1) then
        (idx p0 (IntKind.i64.wrap (x1 - 1))).bind fun e2 =>
        some (!(slt e2.name e1.name))
       else
        some false : Option (Bool)).bind fun z1 =>
    bif z1 then
     some (.inr (.inr 3))
    else
     bif ((decide (e1.tid < 0)) || (decide ((2147483647 : Int) < e1.tid))) then
      some (.inr (.inr 9))
     else
      some (.inl (IntKind.i64.wrap (x1 + 1)))
    else
     some (.inr (.inl ()))) F 0).bind fun z => match z with
   | .inl _ =>
    some 0
   | .inr q => some q
def snap_place (F : Nat) (p0 : (List DSnap)) (p1 : ByteArray) : Option (Int × Bool) :=
 (
  (iter (σ := Int × Int) (ρ := Int) (fun x => match x with
   | (x1, x2) =>
    bif decide (x1 < x2) then
     (
      (idx p0 (IntKind.i64.wrap (shr .u64 (IntKind.u64.wrap (IntKind.i64.wrap (x1 + x2))) 1))).bind fun e1 =>
       some (!(slt e1.name p1)) : Option (Bool)).bind fun z3 =>
     bif (!z3) then
      some (.inl (IntKind.i64.wrap ((IntKind.i64.wrap (shr .u64 (IntKind.u64.wrap (IntKind.i64.wrap (x1 + x2))) 1)) + 1), x2))
     else
      some (.inl (x1, IntKind.i64.wrap (shr .u64 (IntKind.u64.wrap (IntKind.i64.wrap (x1 + x2))) 1)))
     else
      some (.inr x1)) F (0, (p0.length : Int))).bind fun z2 =>
   some z2 : Option (Int)).bind fun z1 =>
 (
  bif decide (z1 < (p0.length : Int)) then
   (idx p0 z1).bind fun e2 =>
   some (seq e2.name p1)
   else
    some false : Option (Bool)).bind fun z4 =>
 some (z1, z4)
def snap_Find (F : Nat) (p0 : (List DSnap)) (p1 : ByteArray) : Option (Int × Int) :=
 (snap_Check F p0).bind fun r1 =>
 bif (r1 != 0) then
  some (0, r1)
 else
  (snap_place F p0 p1).bind fun r2 =>
  bif (!r2.2) then
   some (0, 4)
  else
   (idx p0 r2.1).bind fun e1 =>
   some (e1.tid, 0)
def snap_Add (F : Nat) (p0 : (List DSnap)) (p1 : ByteArray) (p2 : Int) : Option (((List DSnap)) × Int) :=
 (snap_Check F p0).bind fun r1 =>
 bif (r1 != 0) then
  some ([], r1)
 else
  (snap_Check F [(DSnap.mk p1 p2)]).bind fun r2 =>
  bif (r2 != 0) then
   some ([], r2)
  else
   (snap_place F p0 p1).bind fun r3 =>
   bif r3.2 then
    some ([], 5)
   else
    bif ((p0.length : Int) == 20) then
     some ([], 8)
    else
     (grow 24 ([] : List DSnap) p0).bind fun _ =>
     (inss 24 p0 r3.1 (DSnap.mk p1 p2)).bind fun _ =>
     some ((insAt p0 r3.1.toNat (DSnap.mk p1 p2)), 0)
end Go.Proofs.YtacjdfhllomccaaGreatDoor
/- The Go functions of group Snap compute the pure functions of that group: written by walkgen.py. Condition of each: the pure function yields a result. -/
namespace Go.Proofs.YtacjdfhllomccaaGreatDoor
set_option linter.unusedVariables false
set_option maxRecDepth 100000 in
set_option maxHeartbeats 4000000 in
theorem snap_Check_l (F : Nat) (p0 : (List DSnap)) (r : Int) (hF : snap_Check F p0 = some r) (w : World) (A1 : Option Addr) (c1 : Nat) (hs1 : SlOk (vw w) eSnap A1 c1 p0) :
 Calls Tryz.prog 80 #[.slice A1 p0.length c1] w (Post (vSc eInt) r w) := by
 unfold snap_Check at hF
 refine T.start (l := [.slice A1 p0.length c1]) Tryz.func80 rfl rfl rfl ?_
 refine T.seq (T.region (T.pk (vi 0) (fun _ => by kernel_rfl) (T.nil (T.seq (T.seq (T.region (T.p3 (.slice A1 p0.length c1) (vi (p0.length : Int)) (.bool (decide ((20 : Int) < (p0.length : Int)))) (fun _ => by kernel_rfl) (T.nil ?_))))))))
 refine T.cond (decide ((20 : Int) < (p0.length : Int))) (by kernel_rfl) (by kernel_rfl) (fun hc1 => ?_) (fun hc1 => ?_)
 ·
  rw [hc1, cond_true] at hF
  refine T.seq (T.region (T.pk (vi 2) (fun _ => by kernel_rfl) (T.nil ?_)))
  cases hF
  refine T.ret rfl ?_
  exact T.ret1 rfl (ResIs.tmp rfl) fun w' hh => ⟨_, rfl, hh.below, (show _ from rfl)⟩
 rw [hc1, cond_false] at hF
 refine T.skip_code ?_
 refine T.seq (T.seq (T.region (T.p3 (.slice A1 p0.length c1) (vi (p0.length : Int)) (vi 0) (fun _ => by kernel_rfl) (T.nil ?_))))
 obtain ⟨q1, hz1, hF⟩ := ob hF
 refine T.mid (fun a w' => q1 = Sum.inl () ∧ Fr 43 [] a ∧ Hp w (vw w) [] w') ?_ ?_
 ·
  refine T.block ?_
  refine T.iter (fun x1 a w' => Fr 43 [(0, .slice A1 p0.length c1), (8, .slice A1 p0.length c1), (9, vi (p0.length : Int)), (10, vi x1)] a ∧ Hp w (vw w) [] w') hz1 ?_ ?_
  ·
   exact fun a w' hf hh => ⟨(Fr.sel hf rfl), (hh.sub List.Sublist.slnil)⟩
  rintro x1 y1 hY1 hr1 a w' ⟨hf, hh⟩
  refine (?_ : T 43 w (vw w) [] [(0, .slice A1 p0.length c1), (8, .slice A1 p0.length c1), (9, vi (p0.length : Int)), (10, vi x1)] _) a w' hf hh
  clear hf hh
  try dsimp only at hY1
  refine T.seq (T.region (T.pk (.bool (decide (x1 < (p0.length : Int)))) (fun _ => by kernel_rfl) (T.nil (T.seq ?_))))
  refine T.cond (decide (x1 < (p0.length : Int))) (by kernel_rfl) (by kernel_rfl) (fun hc2 => ?_) (fun hc2 => ?_)
  ·
   rw [hc2, cond_true] at hY1
   refine T.skip_code ?_
   refine T.seq (T.block (T.seq (T.region (T.pk (vi x1) (fun _ => by kernel_rfl) ?_))))
   obtain ⟨e1, hb1, hY1⟩ := ob hY1
   obtain ⟨hi1, hi2, hi3⟩ := idx_some hb1
   refine T.look (.pointer (some ((sadr A1).add (x1.toNat * 2)))) (by kernel_rfl) (fun w' hh => exec_indexAddr (e := 109) (s := 2) rfl rfl rfl (by kernel_rfl) (by kernel_rfl) hi1 hi2 (hs1.some_ hi3 (by decide))) ?_
   let v2_ : List Value := [.string e1.name, vi e1.tid]
   refine T.look (.agg #[.string e1.name, vi e1.tid]) (by kernel_rfl) (fun w' hh => exec_loadN (cs := v2_) rfl rfl (by kernel_rfl) (by kernel_rfl) (fun j u hj => (hh.cell_view (SlOk.cellF (E := eSnap) hs1 hi3 j (fun _ _ _ h => h) hj)))) ?_
   refine T.step (W1.np 109 [.string (ByteArray.mk #[]), vi 0] (fun _ => by kernel_rfl) (fun b1 => ?_))
   refine T.pk (vi x1) (fun _ => by kernel_rfl) ?_
   let i1_ : HObj := box b1 109 v2_
   refine T.step (W1.st 0 v2_ (i1_ :: []) v2_ (by rfl) rfl rfl rfl rfl rfl rfl (fun _ => by kernel_rfl) ?_)
   refine T.nil (T.seq ?_)
   obtain ⟨z1, hX1, hY1⟩ := ob hY1
   refine T.cut (fun a w' => Fr 43 [(0, .slice A1 p0.length c1), (4, pB b1 0), (8, .slice A1 p0.length c1), (9, vi (p0.length : Int)), (10, vi x1), (33, .bool z1)] a ∧ Hp w (vw w) (i1_ :: []) w') ?_ ?_
   ·
    refine T.quiet (by kernel_rfl) (by kernel_rfl) ?_
    refine TQ.pure (pB b1 0) (by kernel_rfl) (fun _ => by kernel_rfl) ?_
    refine TQ.look (.string e1.name) (by kernel_rfl) (ld1 0 rfl rfl (fun _ => by kernel_rfl) (by rfl) rfl) ?_
    obtain ⟨r1, hb2, hX1⟩ := ob hX1
    refine TQ.call (vSc eBool) r1 91 #[.string e1.name] (.bool r1) (fun V u hu => sureBool V u _ hu) (by kernel_rfl) (fun _ => by kernel_rfl) (fun w' hh => dir_Name_l F e1.name r1 hb2 w' ) ?_
    refine TQ.pure (.bool (!r1)) (by kernel_rfl) (fun _ => by kernel_rfl) ?_
    refine TQ.pure (.bool (!r1)) (by kernel_rfl) (fun _ => by kernel_rfl) ?_
    cases hg1 : (!r1)
    ·
     skip
     rw [hg1, cond_false] at hX1
     refine TQ.pure (vi x1) (by kernel_rfl) (fun _ => by kernel_rfl) ?_
     refine TQ.pure (.bool (decide ((0 : Int) < x1))) (by kernel_rfl) (fun _ => by kernel_rfl) ?_
     refine TQ.pure (.bool (decide ((0 : Int) < x1))) (by kernel_rfl) (fun _ => by kernel_rfl) ?_
     cases hg2 : decide ((0 : Int) < x1)
     ·
      skip
      rw [hg2, cond_false] at hX1
      refine TQ.pass (by kernel_rfl) (by kernel_rfl) ?_
      refine TQ.pass (by kernel_rfl) (by kernel_rfl) ?_
      refine TQ.pass (by kernel_rfl) (by kernel_rfl) ?_
      refine TQ.pass (by kernel_rfl) (by kernel_rfl) ?_
      refine TQ.pass (by kernel_rfl) (by kernel_rfl) ?_
      refine TQ.pass (by kernel_rfl) (by kernel_rfl) ?_
      refine TQ.pass (by kernel_rfl) (by kernel_rfl) ?_
      refine TQ.pass (by kernel_rfl) (by kernel_rfl) ?_
      refine TQ.pass (by kernel_rfl) (by kernel_rfl) ?_
      refine TQ.pure (.bool false) (by kernel_rfl) (fun _ => by kernel_rfl) ?_
      refine TQ.pure (.bool false) (by kernel_rfl) (fun _ => by kernel_rfl) ?_
      refine TQ.nil ?_
      cases hX1
      exact fun a w' hf hh => ⟨(Fr.sel hf rfl), (hh.sub (kp1 kp0))⟩
     skip
     rw [hg2, cond_true] at hX1
     refine TQ.pure (.slice A1 p0.length c1) (by kernel_rfl) (fun _ => by kernel_rfl) ?_
     refine TQ.pure (vi x1) (by kernel_rfl) (fun _ => by kernel_rfl) ?_
     refine TQ.pure (vi (IntKind.i64.wrap (x1 - 1))) (by kernel_rfl) (fun _ => by kernel_rfl) ?_
     obtain ⟨e2, hb3, hX1⟩ := ob hX1
     obtain ⟨hi4, hi5, hi6⟩ := idx_some hb3
     refine TQ.look (.pointer (some ((sadr A1).add (((IntKind.i64.wrap (x1 - 1)).toNat) * 2)))) (by kernel_rfl) (fun w' hh => exec_indexAddr (e := 109) (s := 2) rfl rfl rfl (by kernel_rfl) (by kernel_rfl) hi4 hi5 (hs1.some_ hi6 (by decide))) ?_
     refine TQ.pure (.pointer (some ((sadr A1).add (((IntKind.i64.wrap (x1 - 1)).toNat) * 2)))) (by kernel_rfl) (fun _ => by kernel_rfl) ?_
     refine TQ.look (.string e2.name) (by kernel_rfl) (fun w' hh => exec_load1 rfl rfl (by kernel_rfl) (hh.cell_view (SlOk.cellF0 (E := eSnap) hs1 hi6 (fun _ _ _ h => h) rfl))) ?_
     refine TQ.pure (pB b1 0) (by kernel_rfl) (fun _ => by kernel_rfl) ?_
     refine TQ.look (.string e1.name) (by kernel_rfl) (ld1 0 rfl rfl (fun _ => by kernel_rfl) (by rfl) rfl) ?_
     refine TQ.pure (.bool (!(slt e2.name e1.name))) (by kernel_rfl) (fun _ => by kernel_rfl) ?_
     refine TQ.pure (.bool (!(slt e2.name e1.name))) (by kernel_rfl) (fun _ => by kernel_rfl) ?_
     refine TQ.pure (.bool (!(slt e2.name e1.name))) (by kernel_rfl) (fun _ => by kernel_rfl) ?_
     refine TQ.nil ?_
     cases hX1
     exact fun a w' hf hh => ⟨(Fr.sel hf rfl), (hh.sub (kp1 kp0))⟩
    skip
    rw [hg1, cond_true] at hX1
    refine TQ.pass (by kernel_rfl) (by kernel_rfl) ?_
    refine TQ.pass (by kernel_rfl) (by kernel_rfl) ?_
    refine TQ.pass (by kernel_rfl) (by kernel_rfl) ?_
    refine TQ.pass (by kernel_rfl) (by kernel_rfl) ?_
    refine TQ.pass (by kernel_rfl) (by kernel_rfl) ?_
    refine TQ.pass (by kernel_rfl) (by kernel_rfl) ?_
    refine TQ.pass (by kernel_rfl) (by kernel_rfl) ?_
    refine TQ.pass (by kernel_rfl) (by kernel_rfl) ?_
    refine TQ.pass (by kernel_rfl) (by kernel_rfl) ?_
    refine TQ.pass (by kernel_rfl) (by kernel_rfl) ?_
    refine TQ.pass (by kernel_rfl) (by kernel_rfl) ?_
    refine TQ.pass (by kernel_rfl) (by kernel_rfl) ?_
    refine TQ.pass (by kernel_rfl) (by kernel_rfl) ?_
    refine TQ.pure (.bool true) (by kernel_rfl) (fun _ => by kernel_rfl) ?_
    refine TQ.nil ?_
    cases hX1
    exact fun a w' hf hh => ⟨(Fr.sel hf rfl), (hh.sub (kp1 kp0))⟩
   rintro a w' ⟨hf, hh⟩
   refine (?_ : T 43 w (vw w) (i1_ :: []) [(0, .slice A1 p0.length c1), (4, pB b1 0), (8, .slice A1 p0.length c1), (9, vi (p0.length : Int)), (10, vi x1), (33, .bool z1)] _) a w' hf hh
   clear hf hh
   refine T.cond z1 (by kernel_rfl) (by kernel_rfl) (fun hc3 => ?_) (fun hc3 => ?_)
   ·
    rw [hc3, cond_true] at hY1
    refine T.seq (T.region (T.pk (vi 3) (fun _ => by kernel_rfl) (T.nil ?_)))
    cases hY1
    cases (hr1 _ rfl)
    try dsimp only at hF
    cases hF
    refine T.ret rfl ?_
    exact T.ret1 rfl (ResIs.tmp rfl) fun w' hh => ⟨_, rfl, hh.below, (show _ from rfl)⟩
   rw [hc3, cond_false] at hY1
   refine T.skip_code ?_
   refine T.cut (fun a w' => Fr 43 [(0, .slice A1 p0.length c1), (8, .slice A1 p0.length c1), (9, vi (p0.length : Int)), (10, vi x1), (41, .bool ((decide (e1.tid < 0)) || (decide ((2147483647 : Int) < e1.tid))))] a ∧ Hp w (vw w) [] w') ?_ ?_
   ·
    refine T.region (T.pk (pB b1 1) (fun _ => by kernel_rfl) (T.look (vi e1.tid) (by kernel_rfl) (ld1 0 rfl rfl (fun _ => by kernel_rfl) (by rfl) rfl) ?_))
    refine T.p2 (.bool (decide (e1.tid < 0))) (.bool (decide (e1.tid < 0))) (fun _ => by kernel_rfl) ?_
    cases hg3 : decide (e1.tid < 0)
    ·
     skip
     refine T.pk (pB b1 1) (fun _ => by kernel_rfl) (T.look (vi e1.tid) (by kernel_rfl) (ld1 0 rfl rfl (fun _ => by kernel_rfl) (by rfl) rfl) ?_)
     refine T.p2 (.bool (decide ((2147483647 : Int) < e1.tid))) (.bool (decide ((2147483647 : Int) < e1.tid))) (fun _ => by kernel_rfl) (T.nil ?_)
     exact fun a w' hf hh => ⟨(Fr.sel hf rfl), (hh.sub (dr1 kp0))⟩
    skip
    refine T.pass (by kernel_rfl) (by kernel_rfl) (T.pass (by kernel_rfl) (by kernel_rfl) (T.pass (by kernel_rfl) (by kernel_rfl) (T.pk (.bool true) (fun _ => by kernel_rfl) (T.nil ?_))))
    exact fun a w' hf hh => ⟨(Fr.sel hf rfl), (hh.sub (dr1 kp0))⟩
   rintro a w' ⟨hf, hh⟩
   refine (?_ : T 43 w (vw w) [] [(0, .slice A1 p0.length c1), (8, .slice A1 p0.length c1), (9, vi (p0.length : Int)), (10, vi x1), (41, .bool ((decide (e1.tid < 0)) || (decide ((2147483647 : Int) < e1.tid))))] _) a w' hf hh
   clear hf hh
   refine T.cond ((decide (e1.tid < 0)) || (decide ((2147483647 : Int) < e1.tid))) (by kernel_rfl) (by kernel_rfl) (fun hc4 => ?_) (fun hc4 => ?_)
   ·
    rw [hc4, cond_true] at hY1
    refine T.seq (T.region (T.pk (vi 9) (fun _ => by kernel_rfl) (T.nil ?_)))
    cases hY1
    cases (hr1 _ rfl)
    try dsimp only at hF
    cases hF
    refine T.ret rfl ?_
    exact T.ret1 rfl (ResIs.tmp rfl) fun w' hh => ⟨_, rfl, hh.below, (show _ from rfl)⟩
   rw [hc4, cond_false] at hY1
   refine T.skip_code ?_
   refine T.region (T.p2 (vi (IntKind.i64.wrap (x1 + 1))) (vi (IntKind.i64.wrap (x1 + 1))) (fun _ => by kernel_rfl) (T.nil ?_))
   cases hY1
   exact fun a w' hf hh => ⟨(IntKind.i64.wrap (x1 + 1)), rfl, (Fr.sel hf rfl), (hh.sub List.Sublist.slnil)⟩
  rw [hc2, cond_false] at hY1
  refine T.exit ?_
  cases hY1
  cases (hr1 _ rfl)
  exact fun a w' hf hh => ⟨rfl, (Fr.nil hf), (hh.sub List.Sublist.slnil)⟩
 rintro a w' ⟨rfl, hf, hh⟩
 try dsimp only at hF
 refine (?_ : T 43 w (vw w) [] [] _) a w' hf hh
 clear hf hh
 refine T.seq (T.region (T.pk (vi 0) (fun _ => by kernel_rfl) (T.nil ?_)))
 cases hF
 refine T.ret rfl ?_
 exact T.ret1 rfl (ResIs.tmp rfl) fun w' hh => ⟨_, rfl, hh.below, (show _ from rfl)⟩
set_option maxRecDepth 100000 in
set_option maxHeartbeats 4000000 in
theorem snap_place_l (F : Nat) (p0 : (List DSnap)) (p1 : ByteArray) (r : Int × Bool) (hF : snap_place F p0 p1 = some r) (w : World) (A1 : Option Addr) (c1 : Nat) (hs1 : SlOk (vw w) eSnap A1 c1 p0) :
 Calls Tryz.prog 81 #[.slice A1 p0.length c1, .string p1] w (Post (vT2 (vSc eInt) (vSc eBool)) r w) := by
 unfold snap_place at hF
 refine T.start (l := [.slice A1 p0.length c1, .string p1]) Tryz.func81 rfl rfl rfl ?_
 refine T.seq (T.region (T.step (W1.np 69 [.slice A1 p0.length c1] (fun _ => by kernel_rfl) (fun b1 => ?_))))
 refine T.step (W1.np 9 [.string p1] (fun _ => by kernel_rfl) (fun b2 => ?_))
 refine T.p2 (vi 0) (.bool false) (fun _ => by kernel_rfl) (T.nil (T.seq (T.region (T.look (.slice A1 p0.length c1) (by kernel_rfl) (ld1 1 rfl rfl (fun _ => by kernel_rfl) (by rfl) rfl) ?_))))
 refine T.p2 (vi (p0.length : Int)) (.func (.func 113) #[] #[pB b1 0, pB b2 0]) (fun _ => by kernel_rfl) ?_
 obtain ⟨z1, hX1, hF⟩ := ob hF
 let i3_ : HObj := box b1 69 [.slice A1 p0.length c1]
 let t4_ : List HObj := (box b2 9 [.string p1]) :: i3_ :: []
 refine T.step (W1.within 112 [vi (p0.length : Int), .func (.func 113) #[] #[pB b1 0, pB b2 0]] (fun v w' => v = vi z1 ∧ Hp w (vw w) t4_ w') Tryz.func112 rfl rfl (by kernel_rfl) (fun _ => by kernel_rfl) rfl ?_ ?_)
 ·
  refine T.seq (T.region (T.pk (vi 0) (fun _ => by kernel_rfl) (T.nil (T.seq (T.region (T.p3 (vi (p0.length : Int)) (vi 0) (vi (p0.length : Int)) (fun _ => by kernel_rfl) (T.nil ?_)))))))
  obtain ⟨z2, hz1, hX1⟩ := ob hX1
  refine T.cut (fun a w' => Fr 26 [(5, vi z2)] a ∧ Hp w (vw w) t4_ w') ?_ ?_
  ·
   refine T.block ?_
   refine T.iter (fun s1 a w' => ∃ (x1 : Int) (x2 : Int), s1 = (x1, x2) ∧ Fr 26 [(1, .func (.func 113) #[] #[pB b1 0, pB b2 0]), (5, vi x1), (6, vi x2)] a ∧ Hp w (vw w) t4_ w') hz1 ?_ ?_
   ·
    exact fun a w' hf hh => ⟨0, (p0.length : Int), rfl, (Fr.sel hf rfl), (hh.sub (kp1 (kp1 kp0)))⟩
   rintro s1 y1 hY1 hr1 a w' ⟨x1, x2, rfl, hf, hh⟩
   refine (?_ : T 26 w (vw w) t4_ [(1, .func (.func 113) #[] #[pB b1 0, pB b2 0]), (5, vi x1), (6, vi x2)] _) a w' hf hh
   clear hf hh
   try dsimp only at hY1
   refine T.seq (T.seq (T.region (T.p3 (vi x1) (vi x2) (.bool (decide (x1 < x2))) (fun _ => by kernel_rfl) (T.nil ?_))))
   refine T.cond (decide (x1 < x2)) (by kernel_rfl) (by kernel_rfl) (fun hc1 => ?_) (fun hc1 => ?_)
   ·
    rw [hc1, cond_true] at hY1
    refine T.skip_code ?_
    refine T.block (T.seq (T.region (T.p7 (vi x1) (vi x2) (vi (IntKind.i64.wrap (x1 + x2))) (.int .u64 (IntKind.u64.wrap (IntKind.i64.wrap (x1 + x2)))) (.int .u64 (shr .u64 (IntKind.u64.wrap (IntKind.i64.wrap (x1 + x2))) 1)) (vi (IntKind.i64.wrap (shr .u64 (IntKind.u64.wrap (IntKind.i64.wrap (x1 + x2))) 1))) (vi (IntKind.i64.wrap (shr .u64 (IntKind.u64.wrap (IntKind.i64.wrap (x1 + x2))) 1))) (fun _ => by kernel_rfl) (T.nil (T.seq (T.region (T.p2 (.func (.func 113) #[] #[pB b1 0, pB b2 0]) (vi (IntKind.i64.wrap (shr .u64 (IntKind.u64.wrap (IntKind.i64.wrap (x1 + x2))) 1))) (fun _ => by kernel_rfl) ?_)))))))
    obtain ⟨z3, hX2, hY1⟩ := ob hY1
    refine T.step (W1.within 113 [vi (IntKind.i64.wrap (shr .u64 (IntKind.u64.wrap (IntKind.i64.wrap (x1 + x2))) 1)), pB b1 0, pB b2 0] (fun v w' => v = .bool z3 ∧ Hp w (vw w) t4_ w') Tryz.func113 rfl rfl (by kernel_rfl) (fun _ => by kernel_rfl) rfl ?_ ?_)
    ·
     refine T.seq (T.region (T.pk (.bool false) (fun _ => by kernel_rfl) (T.nil (T.seq ?_))))
     refine T.quiet (by kernel_rfl) (by kernel_rfl) ?_
     refine TQ.look (.slice A1 p0.length c1) (by kernel_rfl) (ld1 1 rfl rfl (fun _ => by kernel_rfl) (by rfl) rfl) ?_
     refine TQ.pure (vi (IntKind.i64.wrap (shr .u64 (IntKind.u64.wrap (IntKind.i64.wrap (x1 + x2))) 1))) (by kernel_rfl) (fun _ => by kernel_rfl) ?_
     obtain ⟨e1, hb1, hX2⟩ := ob hX2
     obtain ⟨hi1, hi2, hi3⟩ := idx_some hb1
     refine TQ.look (.pointer (some ((sadr A1).add (((IntKind.i64.wrap (shr .u64 (IntKind.u64.wrap (IntKind.i64.wrap (x1 + x2))) 1)).toNat) * 2)))) (by kernel_rfl) (fun w' hh => exec_indexAddr (e := 109) (s := 2) rfl rfl rfl (by kernel_rfl) (by kernel_rfl) hi1 hi2 (hs1.some_ hi3 (by decide))) ?_
     refine TQ.pure (.pointer (some ((sadr A1).add (((IntKind.i64.wrap (shr .u64 (IntKind.u64.wrap (IntKind.i64.wrap (x1 + x2))) 1)).toNat) * 2)))) (by kernel_rfl) (fun _ => by kernel_rfl) ?_
     refine TQ.look (.string e1.name) (by kernel_rfl) (fun w' hh => exec_load1 rfl rfl (by kernel_rfl) (hh.cell_view (SlOk.cellF0 (E := eSnap) hs1 hi3 (fun _ _ _ h => h) rfl))) ?_
     refine TQ.look (.string p1) (by kernel_rfl) (ld1 0 rfl rfl (fun _ => by kernel_rfl) (by rfl) rfl) ?_
     refine TQ.pure (.bool (!(slt e1.name p1))) (by kernel_rfl) (fun _ => by kernel_rfl) ?_
     refine TQ.pure (.bool (!(slt e1.name p1))) (by kernel_rfl) (fun _ => by kernel_rfl) ?_
     refine TQ.nil ?_
     cases hX2
     refine T.ret rfl ?_
     exact T.ret1 rfl (ResIs.tmp rfl) fun w' hh => ⟨_, rfl, ⟨rfl, (hh.sub (kp1 (kp1 kp0)))⟩⟩
    rintro v w' ⟨rfl, hh⟩
    refine ⟨(vw w), t4_, hh, ?_⟩
    clear hh
    refine T.pk (.bool (!z3)) (fun _ => by kernel_rfl) (T.nil ?_)
    refine T.cond (!z3) (by kernel_rfl) (by kernel_rfl) (fun hc2 => ?_) (fun hc2 => ?_)
    ·
     rw [hc2, cond_true] at hY1
     refine T.region (T.p3 (vi (IntKind.i64.wrap (shr .u64 (IntKind.u64.wrap (IntKind.i64.wrap (x1 + x2))) 1))) (vi (IntKind.i64.wrap ((IntKind.i64.wrap (shr .u64 (IntKind.u64.wrap (IntKind.i64.wrap (x1 + x2))) 1)) + 1))) (vi (IntKind.i64.wrap ((IntKind.i64.wrap (shr .u64 (IntKind.u64.wrap (IntKind.i64.wrap (x1 + x2))) 1)) + 1))) (fun _ => by kernel_rfl) (T.nil ?_))
     cases hY1
     exact fun a w' hf hh => ⟨(IntKind.i64.wrap ((IntKind.i64.wrap (shr .u64 (IntKind.u64.wrap (IntKind.i64.wrap (x1 + x2))) 1)) + 1), x2), rfl, (IntKind.i64.wrap ((IntKind.i64.wrap (shr .u64 (IntKind.u64.wrap (IntKind.i64.wrap (x1 + x2))) 1)) + 1)), x2, rfl, (Fr.sel hf rfl), (hh.sub (kp1 (kp1 kp0)))⟩
    rw [hc2, cond_false] at hY1
    refine T.region (T.p2 (vi (IntKind.i64.wrap (shr .u64 (IntKind.u64.wrap (IntKind.i64.wrap (x1 + x2))) 1))) (vi (IntKind.i64.wrap (shr .u64 (IntKind.u64.wrap (IntKind.i64.wrap (x1 + x2))) 1))) (fun _ => by kernel_rfl) (T.nil ?_))
    cases hY1
    exact fun a w' hf hh => ⟨(x1, IntKind.i64.wrap (shr .u64 (IntKind.u64.wrap (IntKind.i64.wrap (x1 + x2))) 1)), rfl, x1, (IntKind.i64.wrap (shr .u64 (IntKind.u64.wrap (IntKind.i64.wrap (x1 + x2))) 1)), rfl, (Fr.sel hf rfl), (hh.sub (kp1 (kp1 kp0)))⟩
   rw [hc1, cond_false] at hY1
   refine T.exit ?_
   cases hY1
   cases (hr1 _ rfl)
   exact fun a w' hf hh => ⟨(Fr.sel hf rfl), (hh.sub (kp1 (kp1 kp0)))⟩
  rintro a w' ⟨hf, hh⟩
  refine (?_ : T 26 w (vw w) t4_ [(5, vi z2)] _) a w' hf hh
  clear hf hh
  refine T.seq (T.region (T.p2 (vi z2) (vi z2) (fun _ => by kernel_rfl) (T.nil ?_)))
  cases hX1
  refine T.ret rfl ?_
  exact T.ret1 rfl (ResIs.tmp rfl) fun w' hh => ⟨_, rfl, ⟨rfl, (hh.sub (kp1 (kp1 kp0)))⟩⟩
 rintro v w' ⟨rfl, hh⟩
 refine ⟨(vw w), t4_, hh, ?_⟩
 clear hh
 refine T.pk (vi z1) (fun _ => by kernel_rfl) (T.nil ?_)
 obtain ⟨z4, hX3, hF⟩ := ob hF
 refine T.cut (fun a w' => Fr 25 [(4, vi z1), (5, .bool z4)] a ∧ Hp w (vw w) [] w') ?_ ?_
 ·
  refine T.quiet (by kernel_rfl) (by kernel_rfl) ?_
  refine TQ.pure (vi z1) (by kernel_rfl) (fun _ => by kernel_rfl) ?_
  refine TQ.pure (vi z1) (by kernel_rfl) (fun _ => by kernel_rfl) ?_
  refine TQ.look (.slice A1 p0.length c1) (by kernel_rfl) (ld1 1 rfl rfl (fun _ => by kernel_rfl) (by rfl) rfl) ?_
  refine TQ.pure (vi (p0.length : Int)) (by kernel_rfl) (fun _ => by kernel_rfl) ?_
  refine TQ.pure (.bool (decide (z1 < (p0.length : Int)))) (by kernel_rfl) (fun _ => by kernel_rfl) ?_
  refine TQ.pure (.bool (decide (z1 < (p0.length : Int)))) (by kernel_rfl) (fun _ => by kernel_rfl) ?_
  cases hg1 : decide (z1 < (p0.length : Int))
  ·
   skip
   rw [hg1, cond_false] at hX3
   refine TQ.pass (by kernel_rfl) (by kernel_rfl) ?_
   refine TQ.pass (by kernel_rfl) (by kernel_rfl) ?_
   refine TQ.pass (by kernel_rfl) (by kernel_rfl) ?_
   refine TQ.pass (by kernel_rfl) (by kernel_rfl) ?_
   refine TQ.pass (by kernel_rfl) (by kernel_rfl) ?_
   refine TQ.pass (by kernel_rfl) (by kernel_rfl) ?_
   refine TQ.pass (by kernel_rfl) (by kernel_rfl) ?_
   refine TQ.pure (.bool false) (by kernel_rfl) (fun _ => by kernel_rfl) ?_
   refine TQ.pure (vi z1) (by kernel_rfl) (fun _ => by kernel_rfl) ?_
   refine TQ.pure (.bool false) (by kernel_rfl) (fun _ => by kernel_rfl) ?_
   refine TQ.nil ?_
   cases hX3
   exact fun a w' hf hh => ⟨(Fr.sel hf rfl), (hh.sub (dr1 (dr1 kp0)))⟩
  skip
  rw [hg1, cond_true] at hX3
  refine TQ.look (.slice A1 p0.length c1) (by kernel_rfl) (ld1 1 rfl rfl (fun _ => by kernel_rfl) (by rfl) rfl) ?_
  refine TQ.pure (vi z1) (by kernel_rfl) (fun _ => by kernel_rfl) ?_
  obtain ⟨e2, hb2, hX3⟩ := ob hX3
  obtain ⟨hi4, hi5, hi6⟩ := idx_some hb2
  refine TQ.look (.pointer (some ((sadr A1).add (z1.toNat * 2)))) (by kernel_rfl) (fun w' hh => exec_indexAddr (e := 109) (s := 2) rfl rfl rfl (by kernel_rfl) (by kernel_rfl) hi4 hi5 (hs1.some_ hi6 (by decide))) ?_
  refine TQ.pure (.pointer (some ((sadr A1).add (z1.toNat * 2)))) (by kernel_rfl) (fun _ => by kernel_rfl) ?_
  refine TQ.look (.string e2.name) (by kernel_rfl) (fun w' hh => exec_load1 rfl rfl (by kernel_rfl) (hh.cell_view (SlOk.cellF0 (E := eSnap) hs1 hi6 (fun _ _ _ h => h) rfl))) ?_
  refine TQ.look (.string p1) (by kernel_rfl) (ld1 0 rfl rfl (fun _ => by kernel_rfl) (by rfl) rfl) ?_
  refine TQ.pure (.bool (seq e2.name p1)) (by kernel_rfl) (fun _ => by kernel_rfl) ?_
  refine TQ.pure (.bool (seq e2.name p1)) (by kernel_rfl) (fun _ => by kernel_rfl) ?_
  refine TQ.pure (vi z1) (by kernel_rfl) (fun _ => by kernel_rfl) ?_
  refine TQ.pure (.bool (seq e2.name p1)) (by kernel_rfl) (fun _ => by kernel_rfl) ?_
  refine TQ.nil ?_
  cases hX3
  exact fun a w' hf hh => ⟨(Fr.sel hf rfl), (hh.sub (dr1 (dr1 kp0)))⟩
 rintro a w' ⟨hf, hh⟩
 refine (?_ : T 25 w (vw w) [] [(4, vi z1), (5, .bool z4)] _) a w' hf hh
 clear hf hh
 cases hF
 refine T.ret rfl ?_
 exact T.ret2 rfl (ResIs.tmp rfl) (ResIs.tmp rfl) fun w' hh => ⟨_, rfl, hh.below, (vT2.mk (show _ from rfl) (show _ from rfl))⟩
set_option maxRecDepth 100000 in
set_option maxHeartbeats 4000000 in
theorem snap_Find_l (F : Nat) (p0 : (List DSnap)) (p1 : ByteArray) (r : Int × Int) (hF : snap_Find F p0 p1 = some r) (w : World) (A1 : Option Addr) (c1 : Nat) (hs1 : SlOk (vw w) eSnap A1 c1 p0) :
 Calls Tryz.prog 49 #[.slice A1 p0.length c1, .string p1] w (Post (vT2 (vSc eInt) (vSc eInt)) r w) := by
 unfold snap_Find at hF
 refine T.start (l := [.slice A1 p0.length c1, .string p1]) Tryz.func49 rfl rfl rfl ?_
 refine T.seq (T.region (T.p2 (vi 0) (vi 0) (fun _ => by kernel_rfl) (T.nil (T.seq (T.seq (T.region (T.pk (.slice A1 p0.length c1) (fun _ => by kernel_rfl) ?_)))))))
 obtain ⟨r1, hb1, hF⟩ := ob hF
 refine T.step (W1.call (vSc eInt) r1 80 #[.slice A1 p0.length c1] (by kernel_rfl) (fun _ => by kernel_rfl) (fun w' hh => snap_Check_l F p0 r1 hb1 w' A1 c1 (SlOk.mono hs1 hh.view)) ?_)
 intro u V1 hV1 hu
 obtain rfl := sureInt _ _ _ hu
 refine T.pk (vi r1) (fun _ => by kernel_rfl) (T.nil (T.seq (T.region (T.p2 (vi r1) (.bool (r1 != 0)) (fun _ => by kernel_rfl) (T.nil ?_)))))
 refine T.cond (r1 != 0) (by kernel_rfl) (by kernel_rfl) (fun hc1 => ?_) (fun hc1 => ?_)
 ·
  rw [hc1, cond_true] at hF
  refine T.seq (T.region (T.p3 (vi r1) (vi 0) (vi r1) (fun _ => by kernel_rfl) (T.nil ?_)))
  cases hF
  refine T.ret rfl ?_
  exact T.ret2 rfl (ResIs.tmp rfl) (ResIs.tmp rfl) fun w' hh => ⟨_, rfl, hh.below, (vT2.mk (show _ from rfl) (show _ from rfl))⟩
 rw [hc1, cond_false] at hF
 refine T.skip_code ?_
 refine T.seq (T.region (T.p2 (.slice A1 p0.length c1) (.string p1) (fun _ => by kernel_rfl) ?_))
 obtain ⟨r2, hb2, hF⟩ := ob hF
 refine T.step (W1.call (vT2 (vSc eInt) (vSc eBool)) r2 81 #[.slice A1 p0.length c1, .string p1] (by kernel_rfl) (fun _ => by kernel_rfl) (fun w' hh => snap_place_l F p0 p1 r2 hb2 w' A1 c1 (SlOk.mono (SlOk.mono hs1 hV1) hh.view)) ?_)
 intro u V2 hV2 hu
 obtain rfl := (Sure.t2 sureInt sureBool) _ _ _ hu
 refine T.p5 (.tuple #[vi r2.1, .bool r2.2]) (vi r2.1) (.bool r2.2) (vi r2.1) (.bool r2.2) (fun _ => by kernel_rfl) (T.nil (T.seq (T.seq (T.region (T.p2 (.bool r2.2) (.bool (!r2.2)) (fun _ => by kernel_rfl) (T.nil ?_))))))
 refine T.cond (!r2.2) (by kernel_rfl) (by kernel_rfl) (fun hc2 => ?_) (fun hc2 => ?_)
 ·
  rw [hc2, cond_true] at hF
  refine T.seq (T.region (T.p2 (vi 0) (vi 4) (fun _ => by kernel_rfl) (T.nil ?_)))
  cases hF
  refine T.ret rfl ?_
  exact T.ret2 rfl (ResIs.tmp rfl) (ResIs.tmp rfl) fun w' hh => ⟨_, rfl, hh.below, (vT2.mk (show _ from rfl) (show _ from rfl))⟩
 rw [hc2, cond_false] at hF
 refine T.skip_code ?_
 refine T.seq (T.region (T.p2 (.slice A1 p0.length c1) (vi r2.1) (fun _ => by kernel_rfl) ?_))
 obtain ⟨e1, hb3, hF⟩ := ob hF
 obtain ⟨hi1, hi2, hi3⟩ := idx_some hb3
 refine T.look (.pointer (some ((sadr A1).add (r2.1.toNat * 2)))) (by kernel_rfl) (fun w' hh => exec_indexAddr (e := 109) (s := 2) rfl rfl rfl (by kernel_rfl) (by kernel_rfl) hi1 hi2 ((SlOk.mono hs1 (vt hV1 hV2)).some_ hi3 (by decide))) ?_
 refine T.pk (.pointer (some (((sadr A1).add (r2.1.toNat * 2)).add 1))) (fun _ => by kernel_rfl) (T.look (vi e1.tid) (by kernel_rfl) (fun w' hh => exec_load1 rfl rfl (by kernel_rfl) (hh.cell_view (SlOk.cellF (E := eSnap) (SlOk.mono hs1 (vt hV1 hV2)) hi3 1 (fun _ _ _ h => h) rfl))) ?_)
 refine T.p2 (vi e1.tid) (vi 0) (fun _ => by kernel_rfl) (T.nil ?_)
 cases hF
 refine T.ret rfl ?_
 exact T.ret2 rfl (ResIs.tmp rfl) (ResIs.tmp rfl) fun w' hh => ⟨_, rfl, hh.below, (vT2.mk (show _ from rfl) (show _ from rfl))⟩
set_option maxRecDepth 100000 in
set_option maxHeartbeats 4000000 in
theorem snap_Add_l (F : Nat) (p0 : (List DSnap)) (p1 : ByteArray) (p2 : Int) (r : ((List DSnap)) × Int) (hF : snap_Add F p0 p1 p2 = some r) (w : World) (A1 : Option Addr) (c1 : Nat) (hs1 : SlOk (vw w) eSnap A1 c1 p0) :
 Calls Tryz.prog 47 #[.slice A1 p0.length c1, .string p1, .int .i64 p2] w (Post (vT2 (vSc (eList eSnap)) (vSc eInt)) r w) := by
 unfold snap_Add at hF
 refine T.start (l := [.slice A1 p0.length c1, .string p1, vi p2]) Tryz.func47 rfl rfl rfl ?_
 refine T.seq (T.region (T.p2 sN (vi 0) (fun _ => by kernel_rfl) (T.nil (T.seq (T.seq (T.region (T.pk (.slice A1 p0.length c1) (fun _ => by kernel_rfl) ?_)))))))
 obtain ⟨r1, hb1, hF⟩ := ob hF
 refine T.step (W1.call (vSc eInt) r1 80 #[.slice A1 p0.length c1] (by kernel_rfl) (fun _ => by kernel_rfl) (fun w' hh => snap_Check_l F p0 r1 hb1 w' A1 c1 (SlOk.mono hs1 hh.view)) ?_)
 intro u V1 hV1 hu
 obtain rfl := sureInt _ _ _ hu
 refine T.pk (vi r1) (fun _ => by kernel_rfl) (T.nil (T.seq (T.region (T.p2 (vi r1) (.bool (r1 != 0)) (fun _ => by kernel_rfl) (T.nil ?_)))))
 refine T.cond (r1 != 0) (by kernel_rfl) (by kernel_rfl) (fun hc1 => ?_) (fun hc1 => ?_)
 ·
  rw [hc1, cond_true] at hF
  refine T.seq (T.region (T.p3 (vi r1) sN (vi r1) (fun _ => by kernel_rfl) (T.nil ?_)))
  cases hF
  refine T.ret rfl ?_
  exact T.ret2 rfl (ResIs.tmp rfl) (ResIs.tmp rfl) fun w' hh => ⟨_, rfl, hh.below, (vT2.mk ⟨_, _, rfl, (SlOk.nil _ _)⟩ (show _ from rfl))⟩
 rw [hc1, cond_false] at hF
 refine T.skip_code ?_
 refine T.seq (T.seq (T.region (T.p3 (.string p1) (vi p2) (.agg #[.string p1, vi p2]) (fun _ => by kernel_rfl) (T.step (W1.ns 109 [.string p1, vi p2] (fun _ => by kernel_rfl) (fun b1 => ?_))))))
 obtain ⟨r2, hb2, hF⟩ := ob hF
 refine T.step (W1.call (vSc eInt) r2 80 #[.slice (some ⟨b1, 0, none⟩) 1 1] (by kernel_rfl) (fun _ => by kernel_rfl) (fun w' hh => snap_Check_l F [(DSnap.mk p1 p2)] r2 hb2 w' (some ⟨b1, 0, none⟩) 1 (slok_lit (E := eSnap) (f := DSnap.cells) [(DSnap.mk p1 p2)] (fun _ _ => rfl) (Nat.le_of_ble_eq_true (by rfl)) (fun j => hh.cellBox (i := 0) (by rfl) j))) ?_)
 intro u V2 hV2 hu
 obtain rfl := sureInt _ _ _ hu
 refine T.pk (vi r2) (fun _ => by kernel_rfl) (T.nil (T.seq (T.region (T.p2 (vi r2) (.bool (r2 != 0)) (fun _ => by kernel_rfl) (T.nil ?_)))))
 refine T.cond (r2 != 0) (by kernel_rfl) (by kernel_rfl) (fun hc2 => ?_) (fun hc2 => ?_)
 ·
  rw [hc2, cond_true] at hF
  refine T.seq (T.region (T.p3 (vi r2) sN (vi r2) (fun _ => by kernel_rfl) (T.nil ?_)))
  cases hF
  refine T.ret rfl ?_
  exact T.ret2 rfl (ResIs.tmp rfl) (ResIs.tmp rfl) fun w' hh => ⟨_, rfl, hh.below, (vT2.mk ⟨_, _, rfl, (SlOk.nil _ _)⟩ (show _ from rfl))⟩
 rw [hc2, cond_false] at hF
 refine T.skip_code ?_
 refine T.seq (T.region (T.p2 (.slice A1 p0.length c1) (.string p1) (fun _ => by kernel_rfl) ?_))
 obtain ⟨r3, hb3, hF⟩ := ob hF
 refine T.step (W1.call (vT2 (vSc eInt) (vSc eBool)) r3 81 #[.slice A1 p0.length c1, .string p1] (by kernel_rfl) (fun _ => by kernel_rfl) (fun w' hh => snap_place_l F p0 p1 r3 hb3 w' A1 c1 (SlOk.mono (SlOk.mono hs1 (vt hV1 hV2)) hh.view)) ?_)
 intro u V3 hV3 hu
 obtain rfl := (Sure.t2 sureInt sureBool) _ _ _ hu
 refine T.p5 (.tuple #[vi r3.1, .bool r3.2]) (vi r3.1) (.bool r3.2) (vi r3.1) (.bool r3.2) (fun _ => by kernel_rfl) (T.nil (T.seq (T.seq (T.region (T.pk (.bool r3.2) (fun _ => by kernel_rfl) (T.nil ?_))))))
 refine T.cond r3.2 (by kernel_rfl) (by kernel_rfl) (fun hc3 => ?_) (fun hc3 => ?_)
 ·
  rw [hc3, cond_true] at hF
  refine T.seq (T.region (T.p2 sN (vi 5) (fun _ => by kernel_rfl) (T.nil ?_)))
  cases hF
  refine T.ret rfl ?_
  exact T.ret2 rfl (ResIs.tmp rfl) (ResIs.tmp rfl) fun w' hh => ⟨_, rfl, hh.below, (vT2.mk ⟨_, _, rfl, (SlOk.nil _ _)⟩ (show _ from rfl))⟩
 rw [hc3, cond_false] at hF
 refine T.skip_code ?_
 refine T.seq (T.seq (T.region (T.p3 (.slice A1 p0.length c1) (vi (p0.length : Int)) (.bool ((p0.length : Int) == 20)) (fun _ => by kernel_rfl) (T.nil ?_))))
 refine T.cond ((p0.length : Int) == 20) (by kernel_rfl) (by kernel_rfl) (fun hc4 => ?_) (fun hc4 => ?_)
 ·
  rw [hc4, cond_true] at hF
  refine T.seq (T.region (T.p2 sN (vi 8) (fun _ => by kernel_rfl) (T.nil ?_)))
  cases hF
  refine T.ret rfl ?_
  exact T.ret2 rfl (ResIs.tmp rfl) (ResIs.tmp rfl) fun w' hh => ⟨_, rfl, hh.below, (vT2.mk ⟨_, _, rfl, (SlOk.nil _ _)⟩ (show _ from rfl))⟩
 rw [hc4, cond_false] at hF
 refine T.skip_code ?_
 refine T.seq (T.region (T.pk (.slice A1 p0.length c1) (fun _ => by kernel_rfl) ?_))
 obtain ⟨y1, hb4, hF⟩ := ob hF
 obtain ⟨hb4_r, hb4_m, _⟩ := grow_some hb4
 let i5_ : HObj := box b1 109 [.string p1, vi p2]
 refine T.step (W1.cln 83 [.slice A1 p0.length c1] (fun _ => by kernel_rfl) (fun w' hh => own_clone_Snap w V3 (i5_ :: []) w' _ _ _ (fun w' hh => (SlOk.mono (SlOk.mono hs1 (vt (vt hV1 hV2) hV3)) hh.view)) (by simpa +zetaDelta using hb4_r) (by simpa +zetaDelta using hb4_m) hh) (fun A2 c2 => ?_))
 refine T.p4 (vi r3.1) (.string p1) (vi p2) (.agg #[.string p1, vi p2]) (fun _ => by kernel_rfl) (T.step (W1.ns 109 [.string p1, vi p2] (fun _ => by kernel_rfl) (fun b2 => ?_)))
 obtain ⟨y2, hb5, hF⟩ := ob hF
 obtain ⟨hy1, hy2, hy3, hy4, rfl⟩ := inss_some hb5
 let i6_ : HObj := box b2 109 [.string p1, vi p2]
 refine T.step (W1.callI 82 [.slice A2 p0.length c2, vi r3.1, .slice (some ⟨b2, 0, none⟩) 1 1] (fun v w' => ∃ (A3 : Option Addr) (c3 : Nat), v = .slice A3 (insAt p0 r3.1.toNat (DSnap.mk p1 p2)).length c3 ∧ Hp w V3 ((row 109 eSnap A3 c3 (insAt p0 r3.1.toNat (DSnap.mk p1 p2))) :: i6_ :: i5_ :: []) w') (by kernel_rfl) (fun _ => by kernel_rfl) (fun w' hh => by have hcall := (own_insert_Snap _ _ (i5_ :: []) w' _ _ _ (r3.1).toNat _ _ ((DSnap.mk p1 p2)) hy2 hy3 hy4 (hh.perm (pt sw0 pz))); rw [hy1] at hcall; exact hcall.mono (by rintro e_ w_ ⟨A_, c_, rfl, h_⟩; exact ⟨_, rfl, A_, c_, rfl, h_⟩)) ?_)
 rintro v w' ⟨A3, c3, rfl, hh⟩
 refine ⟨V3, (i6_ :: (row 109 eSnap A3 c3 (insAt p0 r3.1.toNat (DSnap.mk p1 p2))) :: i5_ :: []), hh.perm (pt sw0 pz), ?_⟩
 clear hh
 refine T.p2 (.slice A3 ((insAt p0 r3.1.toNat (DSnap.mk p1 p2)).length) c3) (vi 0) (fun _ => by kernel_rfl) (T.nil ?_)
 cases hF
 refine T.ret rfl ?_
 exact T.ret2 rfl (ResIs.tmp rfl) (ResIs.tmp rfl) fun w' hh => ⟨_, rfl, hh.below, (vT2.mk ⟨_, _, rfl, (hh.row_fresh (i := 1) (by rfl) (fun _ h => h))⟩ (show _ from rfl))⟩
end Go.Proofs.YtacjdfhllomccaaGreatDoor
/- Contracts of library functions at this program, laid by the shelf in plain words. Their conditions: as each states. -/
namespace Go.Proofs.YtacjdfhllomccaaGreatDoor
open Go.Shelf
def Tryz.laysI189_ren : Go.Shelf.Ren := ⟨fun | 189 => 84 | 125 => 117 | 257 => 116 | 128 => 141 | 129 => 142 | 294 => 132 | 295 => 133 | 296 => 134 | 297 => 135 | 298 => 136 | 299 => 137 | 216 => 138 | 300 => 139 | 301 => 140 | 328 => 160 | 329 => 161 | 330 => 162 | 331 => 163 | 332 => 164 | 215 => 165 | 343 => 180 | n => n, fun | 28 => 55 | 3 => 3 | 46 => 150 | 0 => 0 | 51 => 170 | 53 => 93 | 4 => 4 | 183 => 163 | 182 => 162 | 131 => 110 | 5 => 5 | 9 => 9 | 218 => 186 | 222 => 190 | 228 => 206 | 229 => 207 | n => n, fun | n => n⟩
theorem Tryz.laysI189 : Go.Proofs.Lays.n189 Tryz.prog Tryz.laysI189_ren := {
 mixed := by kernel_rfl
 f125 := Tryz.func117.trans (congrArg some (by kernel_rfl))
 f128 := Tryz.func141.trans (congrArg some (by kernel_rfl))
 f129 := Tryz.func142.trans (congrArg some (by kernel_rfl))
 f189 := Tryz.func84.trans (congrArg some (by kernel_rfl))
 f215 := Tryz.func165.trans (congrArg some (by kernel_rfl))
 f216 := Tryz.func138.trans (congrArg some (by kernel_rfl))
 f257 := Tryz.func116.trans (congrArg some (by kernel_rfl))
 f294 := Tryz.func132.trans (congrArg some (by kernel_rfl))
 f295 := Tryz.func133.trans (congrArg some (by kernel_rfl))
 f296 := Tryz.func134.trans (congrArg some (by kernel_rfl))
 f297 := Tryz.func135.trans (congrArg some (by kernel_rfl))
 f298 := Tryz.func136.trans (congrArg some (by kernel_rfl))
 f299 := Tryz.func137.trans (congrArg some (by kernel_rfl))
 f300 := Tryz.func139.trans (congrArg some (by kernel_rfl))
 f301 := Tryz.func140.trans (congrArg some (by kernel_rfl))
 f328 := Tryz.func160.trans (congrArg some (by kernel_rfl))
 f329 := Tryz.func161.trans (congrArg some (by kernel_rfl))
 f330 := Tryz.func162.trans (congrArg some (by kernel_rfl))
 f331 := Tryz.func163.trans (congrArg some (by kernel_rfl))
 f332 := Tryz.func164.trans (congrArg some (by kernel_rfl))
 f343 := Tryz.func180.trans (congrArg some (by kernel_rfl))
 t0 := Tryz.underlying0
 a0 := Tryz.isAgg0
 z0 := Tryz.sizeOf0
 v0 := Tryz.zeroValue0
 t3 := Tryz.underlying3
 a3 := Tryz.isAgg3
 z3 := Tryz.sizeOf3
 v3 := Tryz.zeroValue3
 t4 := Tryz.underlying4
 a4 := Tryz.isAgg4
 z4 := Tryz.sizeOf4
 v4 := Tryz.zeroValue4
 t5 := Tryz.underlying5
 a5 := Tryz.isAgg5
 z5 := Tryz.sizeOf5
 v5 := Tryz.zeroValue5
 t9 := Tryz.underlying9
 a9 := Tryz.isAgg9
 z9 := Tryz.sizeOf9
 v9 := Tryz.zeroValue9
 t28 := Tryz.underlying55
 a28 := Tryz.isAgg55
 z28 := Tryz.sizeOf55
 v28 := Tryz.zeroValue55
 t46 := Tryz.underlying150
 a46 := Tryz.isAgg150
 z46 := Tryz.sizeOf150
 v46 := Tryz.zeroValue150
 t51 := Tryz.underlying170
 a51 := Tryz.isAgg170
 z51 := Tryz.sizeOf170
 v51 := Tryz.zeroValue170
 t53 := Tryz.underlying93
 a53 := Tryz.isAgg93
 z53 := Tryz.sizeOf93
 v53 := Tryz.zeroValue93
 t131 := Tryz.underlying110
 a131 := Tryz.isAgg110
 z131 := Tryz.sizeOf110
 v131 := Tryz.zeroValue110
 t182 := Tryz.underlying162
 a182 := Tryz.isAgg162
 z182 := Tryz.sizeOf162
 v182 := Tryz.zeroValue162
 t183 := Tryz.underlying163
 a183 := Tryz.isAgg163
 z183 := Tryz.sizeOf163
 v183 := Tryz.zeroValue163
 t218 := Tryz.underlying186
 a218 := Tryz.isAgg186
 z218 := Tryz.sizeOf186
 v218 := Tryz.zeroValue186
 t222 := Tryz.underlying190
 a222 := Tryz.isAgg190
 z222 := Tryz.sizeOf190
 v222 := Tryz.zeroValue190
 t228 := Tryz.underlying206
 a228 := Tryz.isAgg206
 z228 := Tryz.sizeOf206
 v228 := Tryz.zeroValue206
 t229 := Tryz.underlying207
 a229 := Tryz.isAgg207
 z229 := Tryz.sizeOf207
 v229 := Tryz.zeroValue207 }
open Go.Sort Go.RowKit in
theorem Tryz.slices_Sort_int (blk off cap : Nat) (zs : List Int) (w : World) (hH : Holds (Value.int .i64) w blk off zs.toArray) (hblk : blk < w.heap.size) (hsz : zs.length < 4611686018427387904) :
 Calls Tryz.prog 84 #[.slice (some ⟨blk, off, none⟩) zs.length cap] w fun e w' =>
  e = .returned (.tuple #[]) ∧ ∃ n os, w' = Go.Sort.grow (putRow (Value.int .i64) (Sort.ahead w n) blk off (zs.mergeSort fun x y => decide (x ≤ y)).toArray) os := Any.slices_Sort_int Tryz.laysI189 blk off cap zs w hH hblk hsz
def Tryz.laysINm220_ren : Go.Shelf.Ren := ⟨fun | 20 => 85 | n => n, fun | 22 => 55 | 3 => 3 | 4 => 4 | 0 => 0 | n => n, fun | n => n⟩
theorem Tryz.laysINm220 : Go.Proofs.Lays2.n20 Tryz.prog Tryz.laysINm220_ren := {
 mixed := by kernel_rfl
 f20 := Tryz.func85.trans (congrArg some (by kernel_rfl))
 t0 := Tryz.underlying0
 a0 := Tryz.isAgg0
 z0 := Tryz.sizeOf0
 v0 := Tryz.zeroValue0
 t3 := Tryz.underlying3
 a3 := Tryz.isAgg3
 z3 := Tryz.sizeOf3
 v3 := Tryz.zeroValue3
 t4 := Tryz.underlying4
 a4 := Tryz.isAgg4
 z4 := Tryz.sizeOf4
 v4 := Tryz.zeroValue4
 t22 := Tryz.underlying55
 a22 := Tryz.isAgg55
 z22 := Tryz.sizeOf55
 v22 := Tryz.zeroValue55
 i3 := by kernel_rfl }
open Go.RowKit Go.Lib Go.Sort in
theorem Tryz.slices_Compact_int (blk off cap : Nat) (zs : List Int) (w : World) (hH : Holds (Value.int .i64) w blk off zs.toArray) (hsz : zs.length ≤ 9223372036854775807) (hcap : zs.length ≤ cap) :
 Calls Tryz.prog 85 #[.slice (some ⟨blk, off, none⟩) zs.length cap] w fun e w' => e = .returned (.slice (some ⟨blk, off, none⟩) (Lib.compact zs).length cap) ∧ ∃ q, w' = putRow (Value.int .i64) (Sort.ahead w q) blk off (Lib.compact zs ++ List.replicate (zs.length - (Lib.compact zs).length) 0).toArray := Any.slices_Compact_int Tryz.laysINm220 blk off cap zs w hH hsz hcap
open Go.RowKit Go.Lib Go.Sort in
theorem Tryz.slices_Compact_int_empty (a : Option Addr) (cap : Nat) (w : World) :
 Calls Tryz.prog 85 #[.slice a 0 cap] w fun e w' => e = .returned (.slice a 0 cap) ∧ w' = w := Any.slices_Compact_int_empty Tryz.laysINm220 a cap w
open Go.RowKit Go.Sort in
theorem Tryz.slices_Sort_int_none (p : Option Addr) (cap : Nat) (w : World) :
 Calls Tryz.prog 84 #[.slice p 0 cap] w fun e w' => e = .returned (.tuple #[]) ∧ w' = w := Any.slices_Sort_int_none Tryz.laysI189 p cap w
end Go.Proofs.YtacjdfhllomccaaGreatDoor
/- Rows of ints of the call's own, sorted and compacted by the library's functions. Its conditions: as each states. -/
namespace Go.Proofs.YtacjdfhllomccaaGreatDoor
open Go.Sort
def isort (l : List Int) : List Int := l.mergeSort fun x y => decide (x ≤ y)
def sortO (l : List Int) : Option (List Int) := if l.length < 4611686018427387904 then some (isort l) else none
theorem sortO_some {l y : List Int} (h : sortO l = some y) : l.length < 4611686018427387904 ∧ y = isort l := by
 unfold sortO at h
 split at h
 · cases h; exact ⟨by assumption, rfl⟩
 · cases h
theorem isort_length (l : List Int) : (isort l).length = l.length := by unfold isort; simp
theorem int_cells {V : View} {xs : List Value} {l : List Int} (h : RowRep V eInt xs l) : xs = l.map (Value.int .i64) := by
 obtain ⟨h1, h2⟩ := h
 apply List.ext_getElem?
 intro k
 rw [List.getElem?_map]
 cases hk : l[k]? with
 | none =>
  rw [List.getElem?_eq_none_iff] at hk
  rw [List.getElem?_eq_none (by rw [h1]; show l.length * 1 ≤ k; omega)]; rfl
 | some x =>
  have h3 : (xs.drop (k * 1)).take 1 = [Value.int .i64 x] := h2 k x hk
  have h4 : ((xs.drop (k * 1)).take 1)[0]? = some (Value.int .i64 x) := by rw [h3]; rfl
  rw [List.getElem?_take, if_pos (by omega), List.getElem?_drop] at h4
  rw [show k * 1 + 0 = k by omega] at h4
  rw [h4]; rfl
theorem int_row {V : View} (l : List Int) : RowRep V eInt (l.map (Value.int .i64)) l := by
 refine ⟨by rw [List.length_map]; show l.length = l.length * 1; omega, fun k x hk => ?_⟩
 show ((l.map (Value.int .i64)).drop (k * 1)).take 1 = [Value.int .i64 x]
 rw [show k * 1 = k by omega]
 have hl : k < l.length := (List.getElem?_eq_some_iff.1 hk).1
 rw [List.drop_eq_getElem_cons (by rw [List.length_map]; exact hl), List.take_succ_cons, List.take_zero, List.getElem_map]
 rw [(List.getElem?_eq_some_iff.1 hk).2]
section
variable {w : World} {V : View} {G : List HObj} {w1 : World} {A : Option Addr} {c : Nat} {l : List Int} {t : TypeId}
theorem row_ints (hh : Hp w V (row t eInt A c l :: G) w1) (hl : l ≠ []) : ∃ g, A = some ⟨g, 0, none⟩ ∧ Holds (Value.int .i64) w1 g 0 l.toArray ∧ g < w1.heap.size ∧
 ∀ (d : List Int) (n : Nat) (os : Array Obj), d.length = l.length → Hp w V (row t eInt A c d :: G) (Go.Sort.grow (putRow (Value.int .i64) (Go.Sort.ahead w1 n) g 0 d.toArray) os) := by
 obtain ⟨h1, h2, h3⟩ := hh.objs _ List.mem_cons_self
 have hlp : 0 < l.length := by cases l with | nil => exact absurd rfl hl | cons => simp
 rcases h3 with h3 | ⟨g, cur, fz, xs, h⟩
 · omega
 have hfz := h.plain rfl
 subst hfz
 have hxs := int_cells h.rep
 have hsz : cur.size = c := by rw [h.size]; show c * 1 = c; omega
 have hget : ∀ j (hj : j < l.length), cur[j]? = some (Value.int .i64 l[j]) := fun j hj => by
  have h4 : (cur.toList.take (l.length * eInt.size))[j]? = some (Value.int .i64 l[j]) := by
   rw [h.take, hxs, List.getElem?_map, List.getElem?_eq_getElem hj]; rfl
  rw [List.getElem?_take, if_pos (show j < l.length * eInt.size by show j < l.length * 1; omega)] at h4
  rw [← Array.getElem?_toList]; exact h4
 have hgl := lt_of_heap h.heap
 refine ⟨g, h.adr, fun j hj => ⟨?_, ?_⟩, hgl, fun d n os hd => ?_⟩
 · have hj' : j < l.length := by simpa using hj
   rw [Nat.zero_add, cell_of_row w1 g j cur t (0, 0) h.heap, hget j hj']
   simp [hj']
 · simp [World.frozen?, h.heap]
 · have hheap : (Go.Sort.grow (putRow (Value.int .i64) (Go.Sort.ahead w1 n) g 0 d.toArray) os).heap = (w1.heap.modify g (onCells (putCells (Value.int .i64) 0 d.toArray))) ++ os := rfl
   have hat : ∀ k, k < w1.heap.size → (Go.Sort.grow (putRow (Value.int .i64) (Go.Sort.ahead w1 n) g 0 d.toArray) os).heap[k]? = (w1.heap.modify g (onCells (putCells (Value.int .i64) 0 d.toArray)))[k]? := fun k hk => by
    rw [hheap, Array.getElem?_append, if_pos (by simpa using hk)]
   have hset := hh.turn (i := 0) (x := row t eInt A c l) (y := row t eInt A c d) (o := some g) (w' := Go.Sort.grow (putRow (Value.int .i64) (Go.Sort.ahead w1 n) g 0 d.toArray) os) rfl
    ⟨rfl, rfl, rfl, by rw [hheap]; simp, fun k hk hne => by
     rw [hat k hk, Array.getElem?_modify, if_neg (fun e => hne (by rw [e]))]⟩
    ⟨by omega, h2, .inr ⟨g, putCells (Value.int .i64) 0 d.toArray cur, (0, 0), d.map (Value.int .i64), ⟨h.adr, by rw [hat g hgl, Array.getElem?_modify, if_pos rfl, h.heap]; rfl, fun _ => rfl, fun i _ => by omega,
     by rw [← hsz]; show (putCells (Value.int .i64) 0 d.toArray cur).size = cur.size * 1; simp [putCells], ?_, int_row d⟩⟩⟩
    (fun b hb => .inl hb) (fun b e => by
     injection e with e
     subst e
     show rowblk A c = some g
     unfold rowblk; rw [if_neg (by omega), h.adr]; rfl)
   · exact hset
   · apply List.ext_getElem?
     intro k
     rw [List.getElem?_take, List.getElem?_map]
     show (if k < d.length * 1 then _ else _) = _
     by_cases hk : k < d.length
     · rw [if_pos (by omega), Array.getElem?_toList]
       have hkc : k < cur.size := by omega
       simp [putCells, hk, hkc]
     · rw [if_neg (by omega), List.getElem?_eq_none (by omega)]; rfl
theorem own_sort_int (hm : l.length < 4611686018427387904) (hh : Hp w V (row t eInt A c l :: G) w1) : Calls Tryz.prog 84 #[.slice A l.length c] w1 (fun r w2 => r = .returned (.tuple #[]) ∧ Hp w V (row t eInt A c (isort l) :: G) w2) := by
 by_cases hl : l = []
 · subst hl
   exact (Tryz.slices_Sort_int_none A c w1).mono (by rintro e w2 ⟨rfl, rfl⟩; exact ⟨rfl, by simpa [isort] using hh⟩)
 · obtain ⟨g, hA, hH, hg, hput⟩ := row_ints hh hl
   subst hA
   refine (Tryz.slices_Sort_int g 0 c l w1 hH hg hm).mono ?_
   rintro e w2 ⟨rfl, n, os, rfl⟩
   exact ⟨rfl, hput _ n os (isort_length l)⟩
theorem compact_len (l : List Int) : (Lib.compact l).length ≤ l.length := by
 unfold Lib.compact Lib.compactUpTo
 rw [List.length_map]
 exact Nat.le_trans (List.length_filter_le _ _) (by simp)
theorem own_compact_int (hh : Hp w V (row t eInt A c l :: G) w1) : Calls Tryz.prog 85 #[.slice A l.length c] w1 (fun r w2 => r = .returned (.slice A (Lib.compact l).length c) ∧ Hp w V (row t eInt A c (Lib.compact l) :: G) w2) := by
 by_cases hl : l = []
 · subst hl
   exact (Tryz.slices_Compact_int_empty A c w1).mono (by rintro e w2 ⟨rfl, rfl⟩; exact ⟨rfl, hh⟩)
 · have hlc := (hh.objs _ List.mem_cons_self).1
   have hm : l.length ≤ maxLen := by have h1 := hh.objs _ List.mem_cons_self; exact Nat.le_trans h1.1 h1.2.1
   obtain ⟨g, hA, hH, hg, hput⟩ := row_ints hh hl
   subst hA
   refine (Tryz.slices_Compact_int g 0 c l w1 hH (by unfold maxLen at hm; omega) hlc).mono ?_
   rintro e w2 ⟨rfl, q, rfl⟩
   refine ⟨rfl, ?_⟩
   have h5 := hput (Lib.compact l ++ List.replicate (l.length - (Lib.compact l).length) 0) q #[] (by rw [List.length_append, List.length_replicate]; have := compact_len l; omega)
   rw [grow_empty] at h5
   exact h5.turn (i := 0) (o := none) rfl ⟨rfl, rfl, rfl, Nat.le_refl _, fun _ _ _ => rfl⟩ (rowb_prefix (h5.objs _ List.mem_cons_self) (List.prefix_append _ _)) (fun b hb => .inl hb) (fun b e => by cases e)
end
end Go.Proofs.YtacjdfhllomccaaGreatDoor
/- Pure functions, written by walkgen.py out of the Go functions of group Times. Their conditions: none. -/
namespace Go.Proofs.YtacjdfhllomccaaGreatDoor
set_option linter.unusedVariables false
def snap_Times (F : Nat) (p0 : (List DSnap)) : Option (((List Int)) × Int) :=
 (snap_Check F p0).bind fun r1 =>
 bif (r1 != 0) then
  some ([], r1)
 else
  (iter (σ := (List Int) × Int) (ρ := (List Int)) (fun x => match x with
   | (x1, x2) =>
    bif decide (x2 < (p0.length : Int)) then
     (idx p0 x2).bind fun e1 =>
     (grow 8 x1 [e1.tid]).bind fun _ =>
     some (.inl ((x1 ++ [e1.tid]), IntKind.i64.wrap (x2 + 1)))
     else
      some (.inr x1)) F ([], 0)).bind fun z1 =>
  (sortO z1).bind fun _ =>
  some ((Lib.compact (isort z1)), 0)
end Go.Proofs.YtacjdfhllomccaaGreatDoor
/- The Go functions of group Times compute the pure functions of that group: written by walkgen.py. Condition of each: the pure function yields a result. -/
namespace Go.Proofs.YtacjdfhllomccaaGreatDoor
set_option linter.unusedVariables false
set_option maxRecDepth 100000 in
set_option maxHeartbeats 4000000 in
theorem snap_Times_l (F : Nat) (p0 : (List DSnap)) (r : ((List Int)) × Int) (hF : snap_Times F p0 = some r) (w : World) (A1 : Option Addr) (c1 : Nat) (hs1 : SlOk (vw w) eSnap A1 c1 p0) :
 Calls Tryz.prog 48 #[.slice A1 p0.length c1] w (Post (vT2 (vSc (eList eInt)) (vSc eInt)) r w) := by
 unfold snap_Times at hF
 refine T.start (l := [.slice A1 p0.length c1]) Tryz.func48 rfl rfl rfl ?_
 refine T.seq (T.region (T.p2 sN (vi 0) (fun _ => by kernel_rfl) (T.nil (T.seq (T.seq (T.region (T.pk (.slice A1 p0.length c1) (fun _ => by kernel_rfl) ?_)))))))
 obtain ⟨r1, hb1, hF⟩ := ob hF
 refine T.step (W1.call (vSc eInt) r1 80 #[.slice A1 p0.length c1] (by kernel_rfl) (fun _ => by kernel_rfl) (fun w' hh => snap_Check_l F p0 r1 hb1 w' A1 c1 (SlOk.mono hs1 hh.view)) ?_)
 intro u V1 hV1 hu
 obtain rfl := sureInt _ _ _ hu
 refine T.pk (vi r1) (fun _ => by kernel_rfl) (T.nil (T.seq (T.region (T.p2 (vi r1) (.bool (r1 != 0)) (fun _ => by kernel_rfl) (T.nil ?_)))))
 refine T.cond (r1 != 0) (by kernel_rfl) (by kernel_rfl) (fun hc1 => ?_) (fun hc1 => ?_)
 ·
  rw [hc1, cond_true] at hF
  refine T.seq (T.region (T.p3 (vi r1) sN (vi r1) (fun _ => by kernel_rfl) (T.nil ?_)))
  cases hF
  refine T.ret rfl ?_
  exact T.ret2 rfl (ResIs.tmp rfl) (ResIs.tmp rfl) fun w' hh => ⟨_, rfl, hh.below, (vT2.mk ⟨_, _, rfl, (SlOk.nil _ _)⟩ (show _ from rfl))⟩
 rw [hc1, cond_false] at hF
 refine T.skip_code ?_
 refine T.seq (T.region (T.pk sN (fun _ => by kernel_rfl) (T.nil (T.seq (T.seq (T.region (T.p3 (.slice A1 p0.length c1) (vi (p0.length : Int)) (vi 0) (fun _ => by kernel_rfl) (T.nil ?_))))))))
 refine T.rownil 3 eInt ?_
 obtain ⟨z1, hz1, hF⟩ := ob hF
 refine T.mid (fun a w' => ∃ (A3 : Option Addr) (c3 : Nat), Fr 29 [(5, .slice A3 z1.length c3)] a ∧ Hp w V1 ((row 3 eInt A3 c3 z1) :: []) w') ?_ ?_
 ·
  refine T.block ?_
  refine T.iter (fun s1 a w' => ∃ (x1 : List Int) (x2 : Int), s1 = (x1, x2) ∧ ∃ (A2 : Option Addr) (c2 : Nat), Fr 29 [(5, .slice A2 x1.length c2), (13, .slice A1 p0.length c1), (14, vi (p0.length : Int)), (15, vi x2)] a ∧ Hp w V1 ((row 3 eInt A2 c2 x1) :: []) w') hz1 ?_ ?_
  ·
   exact fun a w' hf hh => ⟨[], 0, rfl, none, 0, (Fr.sel hf rfl), (hh.sub (kp1 kp0))⟩
  rintro s1 y1 hY1 hr1 a w' ⟨x1, x2, rfl, A2, c2, hf, hh⟩
  refine (?_ : T 29 w V1 ((row 3 eInt A2 c2 x1) :: []) [(5, .slice A2 x1.length c2), (13, .slice A1 p0.length c1), (14, vi (p0.length : Int)), (15, vi x2)] _) a w' hf hh
  clear hf hh
  try dsimp only at hY1
  refine T.seq (T.region (T.pk (.bool (decide (x2 < (p0.length : Int)))) (fun _ => by kernel_rfl) (T.nil (T.seq ?_))))
  refine T.cond (decide (x2 < (p0.length : Int))) (by kernel_rfl) (by kernel_rfl) (fun hc2 => ?_) (fun hc2 => ?_)
  ·
   rw [hc2, cond_true] at hY1
   refine T.skip_code ?_
   refine T.seq (T.block (T.seq (T.region ?_)))
   obtain ⟨e1, hb2, hY1⟩ := ob hY1
   obtain ⟨hi1, hi2, hi3⟩ := idx_some hb2
   refine T.look (.pointer (some ((sadr A1).add (x2.toNat * 2)))) (by kernel_rfl) (fun w' hh => exec_indexAddr (e := 109) (s := 2) rfl rfl rfl (by kernel_rfl) (by kernel_rfl) hi1 hi2 ((SlOk.mono hs1 hV1).some_ hi3 (by decide))) ?_
   let v2_ : List Value := [.string e1.name, vi e1.tid]
   refine T.look (.agg #[.string e1.name, vi e1.tid]) (by kernel_rfl) (fun w' hh => exec_loadN (cs := v2_) rfl rfl (by kernel_rfl) (by kernel_rfl) (fun j u hj => (hh.cell_view (SlOk.cellF (E := eSnap) (SlOk.mono hs1 hV1) hi3 j (fun _ _ _ h => h) hj)))) ?_
   refine T.step (W1.np 109 [.string (ByteArray.mk #[]), vi 0] (fun _ => by kernel_rfl) (fun b1 => ?_))
   refine T.step (W1.st 0 v2_ ((box b1 109 v2_) :: (row 3 eInt A2 c2 x1) :: []) v2_ (by rfl) rfl rfl rfl rfl rfl rfl (fun _ => by kernel_rfl) ?_)
   refine T.nil (T.region (T.p2 (.slice A2 x1.length c2) (pB b1 1) (fun _ => by kernel_rfl) (T.look (vi e1.tid) (by kernel_rfl) (ld1 0 rfl rfl (fun _ => by kernel_rfl) (by rfl) rfl) ?_)))
   refine T.step (W1.ns 3 [vi e1.tid] (fun _ => by kernel_rfl) (fun b2 => ?_))
   obtain ⟨y2, hb3, hY1⟩ := ob hY1
   obtain ⟨hb3_r, hb3_m, rfl⟩ := grow_some hb3
   obtain ⟨ti, hti, hz1, hz2, hz3⟩ := info_parts (P := Tryz.prog) (e := 3) (z := vi 0) (size := 1) (bytes := 8) (by kernel_rfl)
   refine T.step (W1.append (E := eInt) (l := x1) (m := [e1.tid]) 2 _ _ 8 ti _ (by rfl) (by kernel_rfl) rfl (by kernel_rfl) hti hz1 hz2 hz3 rfl (by decide) rfl rfl (fun w' hh => (SlOk.srcF (slok_lit (E := eInt) (f := (fun x => [vi x])) [e1.tid] (fun _ _ => rfl) (Nat.le_of_ble_eq_true (by rfl)) (fun j => hh.cellBox (i := 0) (by rfl) j)) (fun _ _ _ _ h => h))) hb3_r hb3_m (fun A4 c4 => ?_))
   refine T.pk (.slice A4 ((x1 ++ [e1.tid]).length) c4) (fun _ => by kernel_rfl) (T.nil (T.region (T.p2 (vi (IntKind.i64.wrap (x2 + 1))) (vi (IntKind.i64.wrap (x2 + 1))) (fun _ => by kernel_rfl) (T.nil ?_))))
   cases hY1
   exact fun a w' hf hh => ⟨((x1 ++ [e1.tid]), IntKind.i64.wrap (x2 + 1)), rfl, (x1 ++ [e1.tid]), (IntKind.i64.wrap (x2 + 1)), rfl, A4, c4, (Fr.sel hf rfl), (hh.sub (dr2 (kp1 kp0)))⟩
  rw [hc2, cond_false] at hY1
  refine T.exit ?_
  cases hY1
  cases (hr1 _ rfl)
  exact fun a w' hf hh => ⟨A2, c2, (Fr.sel hf rfl), (hh.sub (kp1 kp0))⟩
 rintro a w' ⟨A3, c3, hf, hh⟩
 refine (?_ : T 29 w V1 ((row 3 eInt A3 c3 z1) :: []) [(5, .slice A3 z1.length c3)] _) a w' hf hh
 clear hf hh
 refine T.seq (T.region (T.pk (.slice A3 z1.length c3) (fun _ => by kernel_rfl) ?_))
 obtain ⟨y3, hb4, hF⟩ := ob hF
 obtain ⟨hy1, rfl⟩ := sortO_some hb4
 refine T.step (W1.callI 84 [.slice A3 z1.length c3] (fun v w' => v = .tuple #[] ∧ Hp w V1 ((row 3 eInt A3 c3 (isort z1)) :: []) w') (by kernel_rfl) (fun _ => by kernel_rfl) (fun w' hh => (own_sort_int hy1 (hh.perm pz)).mono (by rintro e_ w_ ⟨rfl, h_⟩; exact ⟨_, rfl, rfl, h_⟩)) ?_)
 rintro v w' ⟨rfl, hh⟩
 refine ⟨V1, ((row 3 eInt A3 c3 (isort z1)) :: []), hh.perm pz, ?_⟩
 clear hh
 have hl1 : (isort z1).length = z1.length := (by exact isort_length _)
 refine T.reslot 5 (.slice A3 ((isort z1).length) c3) rfl (by simp +zetaDelta only [hl1]) ?_
 refine T.reslot 25 (.slice A3 ((isort z1).length) c3) rfl (by simp +zetaDelta only [hl1]) ?_
 refine T.nil (T.seq (T.region (T.pk (.slice A3 ((isort z1).length) c3) (fun _ => by kernel_rfl) ?_)))
 let i1_ : HObj := row 3 eInt A3 c3 (Lib.compact (isort z1))
 refine T.step (W1.callI 85 [.slice A3 ((isort z1).length) c3] (fun v w' => v = .slice A3 (Lib.compact (isort z1)).length c3 ∧ Hp w V1 (i1_ :: []) w') (by kernel_rfl) (fun _ => by kernel_rfl) (fun w' hh => (own_compact_int (hh.perm pz)).mono (by rintro e_ w_ ⟨rfl, h_⟩; exact ⟨_, rfl, rfl, h_⟩)) ?_)
 rintro v w' ⟨rfl, hh⟩
 refine ⟨V1, (i1_ :: []), hh.perm pz, ?_⟩
 clear hh
 refine T.p2 (.slice A3 ((Lib.compact (isort z1)).length) c3) (vi 0) (fun _ => by kernel_rfl) (T.nil ?_)
 cases hF
 refine T.ret rfl ?_
 exact T.ret2 rfl (ResIs.tmp rfl) (ResIs.tmp rfl) fun w' hh => ⟨_, rfl, hh.below, (vT2.mk ⟨_, _, rfl, (hh.row_fresh (i := 0) (by rfl) (fun _ h => h))⟩ (show _ from rfl))⟩
end Go.Proofs.YtacjdfhllomccaaGreatDoor
/- Pure functions, written by walkgen.py out of the Go functions of group Beg. Their conditions: none. -/
namespace Go.Proofs.YtacjdfhllomccaaGreatDoor
set_option linter.unusedVariables false
def annaltop_begun (F : Nat) : Option (Bool) :=
 (run_Put F ([] : List DElem) (DKey.mk 0 0 0) (ByteArray.mk #[97]) 1).bind fun r1 =>
 (
  bif (r1.2 == 0) then
   bif ((r1.1.length : Int) == 1) then
    (idx r1.1 0).bind fun e1 =>
    some (seq e1.val (ByteArray.mk #[97]))
   else
    some false
   else
    some false : Option (Bool)).bind fun z1 =>
 some z1
end Go.Proofs.YtacjdfhllomccaaGreatDoor
/- The Go functions of group Beg compute the pure functions of that group: written by walkgen.py. Condition of each: the pure function yields a result. -/
namespace Go.Proofs.YtacjdfhllomccaaGreatDoor
set_option linter.unusedVariables false
set_option maxRecDepth 100000 in
set_option maxHeartbeats 4000000 in
theorem annaltop_begun_l (F : Nat) (r : Bool) (hF : annaltop_begun F = some r) (w : World)  :
 Calls Tryz.prog 46 #[] w (Post (vSc eBool) r w) := by
 unfold annaltop_begun at hF
 refine T.start (l := []) Tryz.func46 rfl rfl rfl ?_
 refine T.seq (T.region (T.pk (.bool false) (fun _ => by kernel_rfl) (T.nil (T.seq (T.region (T.pk (.agg #[vi 0, vi 0, vi 0]) (fun _ => by kernel_rfl) ?_))))))
 obtain ⟨r1, hb1, hF⟩ := ob hF
 refine T.step (W1.call (vT2 (vSc (eList eElem)) (vSc eInt)) r1 79 #[sN, .agg #[vi 0, vi 0, vi 0], .string (ByteArray.mk #[97]), vi 1] (by kernel_rfl) (fun _ => by kernel_rfl) (fun w' hh => run_Put_l F ([] : List DElem) (DKey.mk 0 0 0) (ByteArray.mk #[97]) 1 r1 hb1 w' none 0 (SlOk.nil _ _)) ?_)
 intro u V1 hV1 hu
 obtain ⟨u1, u2, rfl, hu1, hu2⟩ := vT2_elim hu
 obtain ⟨A1, c1, rfl, hs1⟩ := vlist_elim hu1
 obtain rfl := sureInt _ _ _ hu2
 refine T.p5 (.tuple #[.slice A1 r1.1.length c1, vi r1.2]) (.slice A1 r1.1.length c1) (vi r1.2) (.slice A1 r1.1.length c1) (vi r1.2) (fun _ => by kernel_rfl) (T.nil ?_)
 obtain ⟨z1, hX1, hF⟩ := ob hF
 refine T.cut (fun a w' => Fr 22 [(0, .bool z1)] a ∧ Hp w V1 [] w') ?_ ?_
 ·
  refine T.region (T.p3 (vi r1.2) (.bool (r1.2 == 0)) (.bool (r1.2 == 0)) (fun _ => by kernel_rfl) ?_)
  cases hg1 : (r1.2 == 0)
  ·
   skip
   rw [hg1, cond_false] at hX1
   refine T.pass (by kernel_rfl) (by kernel_rfl) (T.pass (by kernel_rfl) (by kernel_rfl) (T.pass (by kernel_rfl) (by kernel_rfl) (T.p2 (.bool false) (.bool false) (fun _ => by kernel_rfl) (T.pass (by kernel_rfl) (by kernel_rfl) (T.pass (by kernel_rfl) (by kernel_rfl) (T.pass (by kernel_rfl) (by kernel_rfl) (T.pass (by kernel_rfl) (by kernel_rfl) (T.pass (by kernel_rfl) (by kernel_rfl) (T.p2 (.bool false) (.bool false) (fun _ => by kernel_rfl) (T.nil ?_))))))))))
   cases hX1
   exact fun a w' hf hh => ⟨(Fr.sel hf rfl), (hh.sub List.Sublist.slnil)⟩
  skip
  rw [hg1, cond_true] at hX1
  refine T.p5 (.slice A1 r1.1.length c1) (vi (r1.1.length : Int)) (.bool ((r1.1.length : Int) == 1)) (.bool ((r1.1.length : Int) == 1)) (.bool ((r1.1.length : Int) == 1)) (fun _ => by kernel_rfl) ?_
  cases hg2 : ((r1.1.length : Int) == 1)
  ·
   skip
   rw [hg2, cond_false] at hX1
   refine T.pass (by kernel_rfl) (by kernel_rfl) (T.pass (by kernel_rfl) (by kernel_rfl) (T.pass (by kernel_rfl) (by kernel_rfl) (T.pass (by kernel_rfl) (by kernel_rfl) (T.pass (by kernel_rfl) (by kernel_rfl) (T.p2 (.bool false) (.bool false) (fun _ => by kernel_rfl) (T.nil ?_))))))
   cases hX1
   exact fun a w' hf hh => ⟨(Fr.sel hf rfl), (hh.sub List.Sublist.slnil)⟩
  skip
  rw [hg2, cond_true] at hX1
  refine T.pk (.slice A1 r1.1.length c1) (fun _ => by kernel_rfl) ?_
  obtain ⟨e1, hb2, hX1⟩ := ob hX1
  obtain ⟨hi1, hi2, hi3⟩ := idx_some hb2
  refine T.look (.pointer (some ((sadr A1).add (((0 : Int).toNat) * 6)))) (by kernel_rfl) (fun w' hh => exec_indexAddr (e := 44) (s := 6) rfl rfl rfl (by kernel_rfl) (by kernel_rfl) hi1 hi2 ((SlOk.mono hs1 (vt (made_le _ _) vr)).some_ hi3 (by decide))) ?_
  refine T.pk (.pointer (some (((sadr A1).add (((0 : Int).toNat) * 6)).add 5))) (fun _ => by kernel_rfl) (T.look (.string e1.val) (by kernel_rfl) (fun w' hh => exec_load1 rfl rfl (by kernel_rfl) (hh.cell_view (SlOk.cellF (E := eElem) (SlOk.mono hs1 (vt (made_le _ _) vr)) hi3 5 (fun _ _ _ h => h) rfl))) ?_)
  refine T.p3 (.bool (seq e1.val (ByteArray.mk #[97]))) (.bool (seq e1.val (ByteArray.mk #[97]))) (.bool (seq e1.val (ByteArray.mk #[97]))) (fun _ => by kernel_rfl) (T.nil ?_)
  cases hX1
  exact fun a w' hf hh => ⟨(Fr.sel hf rfl), (hh.sub List.Sublist.slnil)⟩
 rintro a w' ⟨hf, hh⟩
 refine (?_ : T 22 w V1 [] [(0, .bool z1)] _) a w' hf hh
 clear hf hh
 cases hF
 refine T.ret rfl ?_
 exact T.ret1 rfl (ResIs.tmp rfl) fun w' hh => ⟨_, rfl, hh.below, (show _ from rfl)⟩
end Go.Proofs.YtacjdfhllomccaaGreatDoor
/- Pure functions, written by walkgen.py out of the Go functions of group WTopSnaps. Their conditions: none. -/
namespace Go.Proofs.YtacjdfhllomccaaGreatDoor
set_option linter.unusedVariables false
def annaltop_TopSnaps (F : Nat) (p0 : (List ByteArray)) (p1 : (List ByteArray)) (p2 : Int) : Option (Bool) :=
 (
  (annaltop_begun F).bind fun r1 =>
   bif (!r1) then
    some true
   else
    some false : Option (Bool)).bind fun z1 =>
 bif z1 then
  some false
 else
  (lslice p0 0 (if (12 : Int) < (p0.length : Int) then 12 else (p0.length : Int))).bind fun s1 =>
  (iter (σ := (List ByteArray) × (List DElem) × Int × Int × (List DSnap) × Int) (ρ := ((List ByteArray) × (List DElem) × Int × Int × (List DSnap)) ⊕ Bool) (fun x => match x with
   | (x1, x2, x3, x4, x5, x6) =>
    bif decide (x6 < (s1.length : Int)) then
     (
      (idx s1 x6).bind fun e1 =>
       (fs_FS_Write_fr F x2 x3 x4 (ByteArray.mk #[47, 97]) e1).bind fun r4 =>
       bif (r4.2.2.2 != 0) then
        some (.inr (.inr (.inr (decide ((320 : Int) < (e1.size : Int))))))
       else
        (
         bif decide ((p1.length : Int) ≤ x6) then
          some true
          else
           (annalkeep_Within (IntKind.i64.wrap (p2 + x6)) 3).bind fun r5 =>
           some (r5 == 0) : Option (Bool)).bind fun z12 =>
        bif z12 then
         some (.inl (x1, r4.1, r4.2.1, r4.2.2.1, x5))
        else
         (idx p1 x6).bind fun e2 =>
         (snap_Add F x5 e2 r4.2.1).bind fun r6 =>
         bif (r6.2 == 0) then
          (idx p1 x6).bind fun e3 =>
          (grow 16 x1 [e3, e1]).bind fun _ =>
          some (.inl ((x1 ++ [e3, e1]), r4.1, r4.2.1, r4.2.2.1, r6.1))
         else
          some (.inl (x1, r4.1, r4.2.1, r4.2.2.1, x5)) : Option (((List ByteArray) × (List DElem) × Int × Int × (List DSnap)) ⊕ (((List ByteArray) × (List DElem) × Int × Int × (List DSnap) × Int) ⊕ (((List ByteArray) × (List DElem) × Int × Int × (List DSnap)) ⊕ Bool)))).bind fun z => match z with
      | .inl (z7, z8, z9, z10, z11) =>
       some (.inl (z7, z8, z9, z10, z11, IntKind.i64.wrap (x6 + 1)))
      | .inr q => some q
     else
      some (.inr (.inl (x1, x2, x3, x4, x5)))) F ([], [(DElem.mk (DKey.mk 0 1 0) 1 0 (ByteArray.mk #[100]))], 1, 2, [], 0)).bind fun z => match z with
   | .inl (z2, z3, z4, z5, z6) =>
    (snap_Times F z6).bind fun r7 =>
    (
     bif (r7.2 != 0) then
      some (z3, true)
      else
       (fs_FS_Prune_fr2 F z3 z4 z5 r7.1).bind fun r8 =>
       some (r8.1, (r8.2 != 0)) : Option ((List DElem) × Bool)).bind fun z => match z with
     | (z13, z14) =>
      bif z14 then
       some false
      else
       (iter (σ := Int) (ρ := (Unit) ⊕ Bool) (fun x7 =>
        bif decide (x7 < (z2.length : Int)) then
         (idx z2 x7).bind fun e4 =>
         (snap_Find F z6 e4).bind fun r9 =>
         (fs_FS_Read_fr F z13 z4 z5 (ByteArray.mk #[47, 97]) r9.1).bind fun r10 =>
         (
          bif (r9.2 != 0) then
           some true
           else
            bif (r10.2 != 0) then
             some true
            else
             (idx z2 (IntKind.i64.wrap (x7 + 1))).bind fun e5 =>
             some (!(seq r10.1 e5)) : Option (Bool)).bind fun z15 =>
         bif z15 then
          some (.inr (.inr false))
         else
          some (.inl (IntKind.i64.wrap (x7 + 2)))
         else
          some (.inr (.inl ()))) F 0).bind fun z => match z with
        | .inl _ =>
         some true
        | .inr q => some q
   | .inr q => some q
end Go.Proofs.YtacjdfhllomccaaGreatDoor
/- The Go functions of group WTopSnaps compute the pure functions of that group: written by walkgen.py. Condition of each: the pure function yields a result. -/
namespace Go.Proofs.YtacjdfhllomccaaGreatDoor
set_option linter.unusedVariables false
set_option maxRecDepth 100000 in
set_option maxHeartbeats 4000000 in
theorem annaltop_TopSnaps_l (F : Nat) (p0 : (List ByteArray)) (p1 : (List ByteArray)) (p2 : Int) (r : Bool) (hF : annaltop_TopSnaps F p0 p1 p2 = some r) (w : World) (hGl : Glob w) (A1 : Option Addr) (c1 : Nat) (hs1 : SlOk (vw w) eStr A1 c1 p0) (A2 : Option Addr) (c2 : Nat) (hs2 : SlOk (vw w) eStr A2 c2 p1) :
 Calls Tryz.prog 14 #[.slice A1 p0.length c1, .slice A2 p1.length c2, .int .i64 p2] w (Post (vSc eBool) r w) := by
 unfold annaltop_TopSnaps at hF
 refine T.start (l := [.slice A1 p0.length c1, .slice A2 p1.length c2, vi p2]) Tryz.func14 rfl rfl rfl ?_
 refine T.seq (T.region (T.pk (.bool false) (fun _ => by kernel_rfl) (T.nil (T.seq (T.region ?_)))))
 let v8_ : List Value := [vi 0, vi 1, vi 0, vi 1, vi 0, .string (ByteArray.mk #[100])]
 refine T.step (W1.within 15 [] (fun v w' => ∃ (b3 : Nat) (b2 : Nat), v = pB b3 0 ∧ Hp w (vw w) ((box b3 78 [.slice (some ⟨b2, 0, none⟩) 1 1, vi 1, vi 2]) :: (box b2 44 v8_) :: []) w') Tryz.func15 rfl rfl (by kernel_rfl) (fun _ => by kernel_rfl) rfl ?_ ?_)
 ·
  refine T.seq (T.region (T.pk (.pointer none) (fun _ => by kernel_rfl) (T.nil (T.seq (T.region (T.step (W1.within 50 [vi 1] (fun v w' => v = .agg #[vi 0, vi 1, vi 0] ∧ Hp w (vw w) [] w') Tryz.func50 rfl rfl (by kernel_rfl) (fun _ => by kernel_rfl) rfl ?_ ?_)))))))
  ·
   refine T.seq (T.region (T.step (W1.np 42 [vi 0, vi 0, vi 0] (fun _ => by kernel_rfl) (fun b1 => ?_))))
   refine T.nil (T.seq (T.region (T.p2 (vi 1) (.agg #[vi 0, vi 1, vi 0]) (fun _ => by kernel_rfl) ?_)))
   let v9_ : List Value := [vi 0, vi 1, vi 0]
   refine T.step (W1.st 0 v9_ ((box b1 42 v9_) :: []) v9_ (by rfl) rfl rfl rfl rfl rfl rfl (fun _ => by kernel_rfl) ?_)
   refine T.nil ?_
   refine T.ret rfl ?_
   exact T.ret1 rfl (ResIs.cellN 0 rfl (by rfl) (fun _ => by kernel_rfl) (fun _ => by kernel_rfl)) fun w' hh => ⟨_, rfl, ⟨rfl, (hh.sub (dr1 kp0))⟩⟩
  rintro v w' ⟨rfl, hh⟩
  refine ⟨(vw w), [], hh, ?_⟩
  clear hh
  refine T.pk (.agg #[vi 0, vi 1, vi 0, vi 1, vi 0, .string (ByteArray.mk #[100])]) (fun _ => by kernel_rfl) (T.step (W1.ns 44 v8_ (fun _ => by kernel_rfl) (fun b2 => ?_)))
  refine T.pk (.agg #[.slice (some ⟨b2, 0, none⟩) 1 1, vi 1, vi 2]) (fun _ => by kernel_rfl) (T.step (W1.np 78 [.slice (some ⟨b2, 0, none⟩) 1 1, vi 1, vi 2] (fun _ => by kernel_rfl) (fun b3 => ?_)))
  refine T.pk (pB b3 0) (fun _ => by kernel_rfl) (T.nil ?_)
  refine T.ret rfl ?_
  exact T.ret1 rfl (ResIs.tmp rfl) fun w' hh => ⟨_, rfl, ⟨b3, b2, rfl, (hh.sub (kp1 (kp1 kp0)))⟩⟩
 rintro v w' ⟨b3, b2, rfl, hh⟩
 let i1_ : HObj := box b3 78 [.slice (some ⟨b2, 0, none⟩) 1 1, vi 1, vi 2]
 let i2_ : HObj := box b2 44 v8_
 let t3_ : List HObj := i1_ :: i2_ :: []
 refine ⟨(vw w), t3_, hh, ?_⟩
 clear hh
 refine T.pk (pB b3 0) (fun _ => by kernel_rfl) (T.nil (T.seq ?_))
 obtain ⟨z1, hX1, hF⟩ := ob hF
 refine T.cut (fun a w' => ∃ (V1 : View), View.le (vw w) V1 ∧ Fr 129 [(0, .slice A1 p0.length c1), (1, .slice A2 p1.length c2), (2, vi p2), (7, pB b3 0), (27, .bool z1)] a ∧ Hp w V1 t3_ w') ?_ ?_
 ·
  refine T.region ?_
  obtain ⟨r1, hb1, hX1⟩ := ob hX1
  refine T.step (W1.call (vSc eBool) r1 46 #[] (by kernel_rfl) (fun _ => by kernel_rfl) (fun w' hh => annaltop_begun_l F r1 hb1 w' ) ?_)
  intro u V2 hV2 hu
  obtain rfl := sureBool _ _ _ hu
  refine T.p2 (.bool (!r1)) (.bool (!r1)) (fun _ => by kernel_rfl) ?_
  cases hg1 : (!r1)
  ·
   skip
   rw [hg1, cond_false] at hX1
   refine T.p3 (pB b3 0) (.bool false) (.bool false) (fun _ => by kernel_rfl) (T.nil ?_)
   cases hX1
   exact fun a w' hf hh => ⟨V2, hV2, (Fr.sel hf rfl), (hh.sub (kp1 (kp1 kp0)))⟩
  skip
  rw [hg1, cond_true] at hX1
  refine T.pass (by kernel_rfl) (by kernel_rfl) (T.pass (by kernel_rfl) (by kernel_rfl) (T.pk (.bool true) (fun _ => by kernel_rfl) (T.nil ?_)))
  cases hX1
  exact fun a w' hf hh => ⟨V2, hV2, (Fr.sel hf rfl), (hh.sub (kp1 (kp1 kp0)))⟩
 rintro a w' ⟨V1, hV1, hf, hh⟩
 refine (?_ : T 129 w V1 t3_ [(0, .slice A1 p0.length c1), (1, .slice A2 p1.length c2), (2, vi p2), (7, pB b3 0), (27, .bool z1)] _) a w' hf hh
 clear hf hh
 refine T.cond z1 (by kernel_rfl) (by kernel_rfl) (fun hc1 => ?_) (fun hc1 => ?_)
 ·
  rw [hc1, cond_true] at hF
  refine T.seq (T.region (T.pk (.bool false) (fun _ => by kernel_rfl) (T.nil ?_)))
  cases hF
  refine T.ret rfl ?_
  exact T.ret1 rfl (ResIs.tmp rfl) fun w' hh => ⟨_, rfl, hh.below, (show _ from rfl)⟩
 rw [hc1, cond_false] at hF
 refine T.skip_code ?_
 refine T.seq (T.region (T.pk sN (fun _ => by kernel_rfl) (T.nil (T.seq (T.region (T.pk sN (fun _ => by kernel_rfl) (T.nil (T.seq (T.seq (T.region (T.p4 (.slice A1 p0.length c1) (.slice A1 p0.length c1) (vi (p0.length : Int)) (vi (if (12 : Int) < (p0.length : Int) then 12 else (p0.length : Int))) (fun _ => by kernel_rfl) ?_)))))))))))
 obtain ⟨s1, hb2, hF⟩ := ob hF
 refine T.look (.slice A1 s1.length c1) (by kernel_rfl) (fun w' hh => exec_slice_list0 (e := 9) (s := 1) (lx := none) (hx := (some _)) (k := .i64) (k' := .i64) rfl rfl (by kernel_rfl) (by kernel_rfl) ((SlOk.mono hs1 hV1)).1 rfl rfl hb2) ?_
 refine T.p2 (vi (s1.length : Int)) (vi 0) (fun _ => by kernel_rfl) (T.nil ?_)
 refine T.litrow (E := eElem) (f := DElem.cells) (l := [(DElem.mk (DKey.mk 0 1 0) 1 0 (ByteArray.mk #[100]))]) 1 _ (by rfl) (fun _ _ => rfl) (Nat.succ_pos _) (Nat.le_of_ble_eq_true (by rfl)) rfl ?_
 refine T.reH (H' := (i1_ :: (row 44 eElem (some ⟨b2, 0, none⟩) ([(DElem.mk (DKey.mk 0 1 0) 1 0 (ByteArray.mk #[100]))].length) [(DElem.mk (DKey.mk 0 1 0) 1 0 (ByteArray.mk #[100]))]) :: [])) (by rfl) ?_
 refine T.freezeF (E := eElem) (H' := ((box b3 78 [.slice (some ⟨b2, 0, none⟩) ([(DElem.mk (DKey.mk 0 1 0) 1 0 (ByteArray.mk #[100]))].length) ([(DElem.mk (DKey.mk 0 1 0) 1 0 (ByteArray.mk #[100]))].length), vi 1, vi 2]) :: [])) 1 (by rfl) rfl (fun _ _ _ _ h => h) (fun V3 hV3 hs3 => ?_)
 refine T.rownil 9 eStr ?_
 obtain ⟨q1, hz1, hF⟩ := ob hF
 refine T.mid (fun a w' => ∃ (z2 : List ByteArray) (z3 : List DElem) (z4 : Int) (z5 : Int) (z6 : List DSnap), q1 = Sum.inl (z2, z3, z4, z5, z6) ∧ ∃ (A7 : Option Addr) (c7 : Nat) (A8 : Option Addr) (c8 : Nat) (A9 : Option Addr) (c9 : Nat) (V5 : View), View.le V3 V5 ∧ SlOk V5 eElem A8 c8 z3 ∧ SlOk (made w V5) eSnap A9 c9 z6 ∧ Fr 129 [(7, pB b3 0), (8, .slice A9 z6.length c9), (9, .slice A7 z2.length c7)] a ∧ Hp w V5 ((row 9 eStr A7 c7 z2) :: (box b3 78 [.slice A8 z3.length c8, vi z4, vi z5]) :: []) w') ?_ ?_
 ·
  refine T.block ?_
  refine T.iter (fun s2 a w' => ∃ (x1 : List ByteArray) (x2 : List DElem) (x3 : Int) (x4 : Int) (x5 : List DSnap) (x6 : Int), s2 = (x1, x2, x3, x4, x5, x6) ∧ ∃ (A3 : Option Addr) (c3 : Nat) (A4 : Option Addr) (c4 : Nat) (A5 : Option Addr) (c5 : Nat) (A6 : Option Addr) (c6 : Nat) (V4 : View), View.le V3 V4 ∧ SlOk V4 eElem A4 c4 x2 ∧ SlOk (made w V4) eSnap A5 c5 x5 ∧ SlOk V4 eStr A6 c6 s1 ∧ Fr 129 [(1, .slice A2 p1.length c2), (2, vi p2), (7, pB b3 0), (8, .slice A5 x5.length c5), (9, .slice A3 x1.length c3), (32, .slice A6 s1.length c6), (33, vi (s1.length : Int)), (34, vi x6)] a ∧ Hp w V4 ((row 9 eStr A3 c3 x1) :: (box b3 78 [.slice A4 x2.length c4, vi x3, vi x4]) :: []) w') hz1 ?_ ?_
  ·
   exact fun a w' hf hh => ⟨[], [(DElem.mk (DKey.mk 0 1 0) 1 0 (ByteArray.mk #[100]))], 1, 2, [], 0, rfl, none, 0, (some ⟨b2, 0, none⟩), ([(DElem.mk (DKey.mk 0 1 0) 1 0 (ByteArray.mk #[100]))].length), none, 0, A1, c1, V3, vr, (SlOk.mono hs3 (vt (made_le _ _) vr)), (SlOk.nil _ _), (SlOk.cut0 (SlOk.mono hs1 (vt hV1 hV3)) hb2), (Fr.sel hf rfl), (hh.sub (kp1 (kp1 kp0)))⟩
  rintro s2 y1 hY1 hr1 a w' ⟨x1, x2, x3, x4, x5, x6, rfl, A3, c3, A4, c4, A5, c5, A6, c6, V4, hV4, hs4, hs5, hs6, hf, hh⟩
  refine (?_ : T 129 w V4 ((row 9 eStr A3 c3 x1) :: (box b3 78 [.slice A4 x2.length c4, vi x3, vi x4]) :: []) [(1, .slice A2 p1.length c2), (2, vi p2), (7, pB b3 0), (8, .slice A5 x5.length c5), (9, .slice A3 x1.length c3), (32, .slice A6 s1.length c6), (33, vi (s1.length : Int)), (34, vi x6)] _) a w' hf hh
  clear hf hh
  try dsimp only at hY1
  refine T.seq (T.region (T.pk (.bool (decide (x6 < (s1.length : Int)))) (fun _ => by kernel_rfl) (T.nil (T.seq ?_))))
  refine T.cond (decide (x6 < (s1.length : Int))) (by kernel_rfl) (by kernel_rfl) (fun hc2 => ?_) (fun hc2 => ?_)
  ·
   rw [hc2, cond_true] at hY1
   refine T.skip_code ?_
   obtain ⟨q2, hX2, hY1⟩ := ob hY1
   refine T.cut (fun a w' => ∃ (z7 : List ByteArray) (z8 : List DElem) (z9 : Int) (z10 : Int) (z11 : List DSnap), q2 = Sum.inl (z7, z8, z9, z10, z11) ∧ ∃ (A10 : Option Addr) (c10 : Nat) (A11 : Option Addr) (c11 : Nat) (A12 : Option Addr) (c12 : Nat) (V6 : View), View.le V4 V6 ∧ SlOk V6 eElem A11 c11 z8 ∧ SlOk (made w V6) eSnap A12 c12 z11 ∧ Fr 129 [(1, .slice A2 p1.length c2), (2, vi p2), (7, pB b3 0), (8, .slice A12 z11.length c12), (9, .slice A10 z7.length c10), (32, .slice A6 s1.length c6), (33, vi (s1.length : Int)), (34, vi x6)] a ∧ Hp w V6 ((row 9 eStr A10 c10 z7) :: (box b3 78 [.slice A11 z8.length c11, vi z9, vi z10]) :: []) w') ?_ ?_
   ·
    refine T.block (T.seq (T.region (T.pk (vi x6) (fun _ => by kernel_rfl) ?_)))
    obtain ⟨e1, hb3, hX2⟩ := ob hX2
    obtain ⟨hi1, hi2, hi3⟩ := idx_some hb3
    refine T.look (.pointer (some ((sadr A6).add (x6.toNat * 1)))) (by kernel_rfl) (fun w' hh => exec_indexAddr (e := 9) (s := 1) rfl rfl rfl (by kernel_rfl) (by kernel_rfl) hi1 hi2 (hs6.some_ hi3 (by decide))) ?_
    refine T.look (.string e1) (by kernel_rfl) (fun w' hh => exec_load1 rfl rfl (by kernel_rfl) (hh.cell_view (SlOk.cellF0 (E := eStr) hs6 hi3 (fun _ _ _ h => h) rfl))) ?_
    refine T.p2 (vi x6) (.string e1) (fun _ => by kernel_rfl) (T.nil (T.seq (T.seq (T.region (T.p2 (pB b3 0) (.string e1) (fun _ => by kernel_rfl) ?_)))))
    obtain ⟨r4, hb4, hX2⟩ := ob hX2
    refine T.step (W1.callI 23 [pB b3 0, .string (ByteArray.mk #[47, 97]), .string e1] (fun v w' => ∃ (A13 : Option Addr) (c13 : Nat) (V7 : View), View.le V4 V7 ∧ SlOk V7 eElem A13 c13 r4.1 ∧ v = vi r4.2.2.2 ∧ Hp w V7 ((box b3 78 [.slice A13 r4.1.length c13, vi r4.2.1, vi r4.2.2.1]) :: (row 9 eStr A3 c3 x1) :: []) w') (by kernel_rfl) (fun _ => by kernel_rfl) (fun w' hh => fs_FS_Write_fr_l F x2 x3 x4 (ByteArray.mk #[47, 97]) e1 r4 hb4 w hGl b3 A4 c4 V4 ((row 9 eStr A3 c3 x1) :: []) w' hs4 (hh.ix 2 [1, 0])) ?_)
    rintro v w' ⟨A13, c13, V7, hV7, hs11, rfl, hh⟩
    let i4_ : HObj := box b3 78 [.slice A13 r4.1.length c13, vi r4.2.1, vi r4.2.2.1]
    let t5_ : List HObj := (row 9 eStr A3 c3 x1) :: i4_ :: []
    refine ⟨V7, t5_, hh.ix 2 [1, 0], ?_⟩
    clear hh
    refine T.pk (.bool (r4.2.2.2 != 0)) (fun _ => by kernel_rfl) (T.nil ?_)
    refine T.cond (r4.2.2.2 != 0) (by kernel_rfl) (by kernel_rfl) (fun hc3 => ?_) (fun hc3 => ?_)
    ·
     rw [hc3, cond_true] at hX2
     refine T.seq (T.region (T.p4 (.string e1) (vi (e1.size : Int)) (.bool (decide ((320 : Int) < (e1.size : Int)))) (.bool (decide ((320 : Int) < (e1.size : Int)))) (fun _ => by kernel_rfl) (T.nil ?_)))
     cases hX2
     try dsimp only at hY1
     cases hY1
     cases (hr1 _ rfl)
     try dsimp only at hF
     cases hF
     refine T.ret rfl ?_
     exact T.ret1 rfl (ResIs.tmp rfl) fun w' hh => ⟨_, rfl, hh.below, (show _ from rfl)⟩
    rw [hc3, cond_false] at hX2
    refine T.skip_code ?_
    refine T.seq ?_
    obtain ⟨z12, hX3, hX2⟩ := ob hX2
    refine T.cut (fun a w' => ∃ (V8 : View), View.le V7 V8 ∧ Fr 129 [(1, .slice A2 p1.length c2), (2, vi p2), (7, pB b3 0), (8, .slice A5 x5.length c5), (9, .slice A3 x1.length c3), (10, vi x6), (11, .string e1), (32, .slice A6 s1.length c6), (33, vi (s1.length : Int)), (34, vi x6), (56, .bool z12)] a ∧ Hp w V8 t5_ w') ?_ ?_
    ·
     refine T.region (T.p5 (vi x6) (.slice A2 p1.length c2) (vi (p1.length : Int)) (.bool (decide ((p1.length : Int) ≤ x6))) (.bool (decide ((p1.length : Int) ≤ x6))) (fun _ => by kernel_rfl) ?_)
     cases hg2 : decide ((p1.length : Int) ≤ x6)
     ·
      skip
      rw [hg2, cond_false] at hX3
      refine T.p3 (vi p2) (vi x6) (vi (IntKind.i64.wrap (p2 + x6))) (fun _ => by kernel_rfl) ?_
      obtain ⟨r5, hb5, hX3⟩ := ob hX3
      refine T.step (W1.call (vSc eInt) r5 22 #[vi (IntKind.i64.wrap (p2 + x6)), vi 3] (by kernel_rfl) (fun _ => by kernel_rfl) (fun w' hh => annalkeep_Within_l (IntKind.i64.wrap (p2 + x6)) 3 r5 hb5 w' ) ?_)
      intro u V9 hV9 hu
      obtain rfl := sureInt _ _ _ hu
      refine T.p2 (.bool (r5 == 0)) (.bool (r5 == 0)) (fun _ => by kernel_rfl) (T.nil ?_)
      cases hX3
      exact fun a w' hf hh => ⟨V9, hV9, (Fr.sel hf rfl), (hh.sub (kp1 (kp1 kp0)))⟩
     skip
     rw [hg2, cond_true] at hX3
     refine T.pass (by kernel_rfl) (by kernel_rfl) (T.pass (by kernel_rfl) (by kernel_rfl) (T.pass (by kernel_rfl) (by kernel_rfl) (T.pass (by kernel_rfl) (by kernel_rfl) (T.pass (by kernel_rfl) (by kernel_rfl) (T.pk (.bool true) (fun _ => by kernel_rfl) (T.nil ?_))))))
     cases hX3
     exact fun a w' hf hh => ⟨V7, vr, (Fr.sel hf rfl), (hh.sub (kp1 (kp1 kp0)))⟩
    rintro a w' ⟨V8, hV8, hf, hh⟩
    refine (?_ : T 129 w V8 t5_ [(1, .slice A2 p1.length c2), (2, vi p2), (7, pB b3 0), (8, .slice A5 x5.length c5), (9, .slice A3 x1.length c3), (10, vi x6), (11, .string e1), (32, .slice A6 s1.length c6), (33, vi (s1.length : Int)), (34, vi x6), (56, .bool z12)] _) a w' hf hh
    clear hf hh
    refine T.cond z12 (by kernel_rfl) (by kernel_rfl) (fun hc4 => ?_) (fun hc4 => ?_)
    ·
     rw [hc4, cond_true] at hX2
     refine T.exit ?_
     cases hX2
     exact fun a w' hf hh => ⟨x1, r4.1, r4.2.1, r4.2.2.1, x5, rfl, A3, c3, A13, c13, A5, c5, V8, (vt hV7 hV8), (SlOk.mono hs11 hV8), (SlOk.mono hs5 (made_mono (vt hV7 hV8))), (Fr.sel hf rfl), (hh.sub (kp1 (kp1 kp0)))⟩
    rw [hc4, cond_false] at hX2
    refine T.skip_code ?_
    refine T.seq ?_
    refine T.held t5_ (by kernel_rfl) ?_
    have w10_ := vt (vt (vt (vt hV1 hV3) hV4) hV7) hV8
    refine TA.keep (Hp.old vr w10_ (kp1 (kp1 kp0)) (oR1 (oB1 ol0))) fun o11_ => ?_
    refine TA.tp 0 (.slice A5 x5.length c5) rfl (fun _ => by kernel_rfl) (fun _ _ _ h => h) o11_ ?_
    refine TA.tp 1 (.slice A2 p1.length c2) rfl (fun _ => by kernel_rfl) (fun _ _ _ h => h) o11_ ?_
    refine TA.tp 2 (vi x6) rfl (fun _ => by kernel_rfl) (fun _ _ _ h => h) o11_ ?_
    obtain ⟨e2, hb6, hX2⟩ := ob hX2
    obtain ⟨hi4, hi5, hi6⟩ := idx_some hb6
    refine TA.tk 3 (.pointer (some ((sadr A2).add (x6.toNat * 1)))) rfl (by kernel_rfl) (fun _ _ _ h => h) o11_ (fun w' hh => exec_indexAddr (e := 9) (s := 1) rfl rfl rfl (by kernel_rfl) (by kernel_rfl) hi4 hi5 ((SlOk.mono hs2 w10_).some_ hi6 (by decide))) ?_
    refine TA.tk 4 (.string e2) rfl (by kernel_rfl) (fun _ _ _ h => h) o11_ (fun w' hh => exec_load1 rfl rfl (by kernel_rfl) (hh.cell_view (SlOk.cellF0 (E := eStr) (SlOk.mono hs2 w10_) hi6 (fun _ _ _ h => h) rfl))) ?_
    refine TA.tp 5 (pB b3 0) rfl (fun _ => by kernel_rfl) (fun _ _ _ h => h) o11_ ?_
    refine TA.all [6] (by kernel_rfl) rfl ⟨?_, trivial⟩
    refine TA.br rfl (W1.within 21 [pB b3 0] (fun v w' => v = vi r4.2.1 ∧ Hp w V8 t5_ w') Tryz.func21 rfl rfl (by kernel_rfl) (fun _ => by kernel_rfl) rfl ?_ ?_)
    ·
     refine T.seq (T.region (T.pk (vi 0) (fun _ => by kernel_rfl) (T.nil (T.seq (T.region (T.p3 (pB b3 0) (pB b3 0) (pB b3 1) (fun _ => by kernel_rfl) (T.look (vi r4.2.1) (by kernel_rfl) (ld1 1 rfl rfl (fun _ => by kernel_rfl) (by rfl) rfl) ?_)))))))
     refine T.pk (vi r4.2.1) (fun _ => by kernel_rfl) (T.nil ?_)
     refine T.ret rfl ?_
     exact T.ret1 rfl (ResIs.tmp rfl) fun w' hh => ⟨_, rfl, ⟨rfl, (hh.sub (kp1 (kp1 kp0)))⟩⟩
    rintro v w' ⟨rfl, hh⟩
    refine ⟨V8, t5_, hh, ?_⟩
    clear hh
    refine TA.on (Hp.old vr w10_ (kp1 (kp1 kp0)) (oR1 (oB1 ol0))) ?_
    refine TA.all [7] (by kernel_rfl) rfl ⟨?_, trivial⟩
    obtain ⟨r6, hb7, hX2⟩ := ob hX2
    refine TA.br rfl (W1.call (vT2 (vSc (eList eSnap)) (vSc eInt)) r6 47 #[.slice A5 x5.length c5, .string e2, vi r4.2.1] (by kernel_rfl) (fun _ => by kernel_rfl) (fun w' hh => snap_Add_l F x5 e2 r4.2.1 r6 hb7 w' A5 c5 (SlOk.mono (SlOk.mono hs5 (vt (made_le _ _) (vt hV7 hV8))) hh.view)) ?_)
    intro u V10 hV10 hu
    obtain ⟨u1, u2, rfl, hu1, hu2⟩ := vT2_elim hu
    obtain ⟨A14, c14, rfl, hs12⟩ := vlist_elim hu1
    obtain rfl := sureInt _ _ _ hu2
    refine TA.onk (Hp.old hV10 w10_ (kp1 (kp1 kp0)) (oR1 (oB1 ol0))) fun o12_ => ?_
    refine TA.tp 8 (.tuple #[.slice A14 r6.1.length c14, vi r6.2]) rfl (fun _ => by kernel_rfl) (fun _ _ _ h => h) o12_ ?_
    refine TA.tp 9 (.slice A14 r6.1.length c14) rfl (fun _ => by kernel_rfl) (fun _ _ _ h => h) o12_ ?_
    refine TA.tp 10 (vi r6.2) rfl (fun _ => by kernel_rfl) (fun _ _ _ h => h) o12_ ?_
    refine TA.tp 11 (.slice A14 r6.1.length c14) rfl (fun _ => by kernel_rfl) (fun _ _ _ h => h) o12_ ?_
    refine TA.tp 12 (vi r6.2) rfl (fun _ => by kernel_rfl) (fun _ _ _ h => h) o12_ ?_
    refine TA.done (by kernel_rfl) ?_
    refine T.seq (T.region (T.p2 (vi r6.2) (.bool (r6.2 == 0)) (fun _ => by kernel_rfl) (T.nil ?_)))
    refine T.cond (r6.2 == 0) (by kernel_rfl) (by kernel_rfl) (fun hc5 => ?_) (fun hc5 => ?_)
    ·
     rw [hc5, cond_true] at hX2
     refine T.seq (T.region (T.p2 (.slice A14 r6.1.length c14) (.slice A14 r6.1.length c14) (fun _ => by kernel_rfl) (T.nil (T.region (T.p3 (.slice A3 x1.length c3) (.slice A2 p1.length c2) (vi x6) (fun _ => by kernel_rfl) ?_)))))
     obtain ⟨e3, hb8, hX2⟩ := ob hX2
     obtain ⟨hi7, hi8, hi9⟩ := idx_some hb8
     refine T.look (.pointer (some ((sadr A2).add (x6.toNat * 1)))) (by kernel_rfl) (fun w' hh => exec_indexAddr (e := 9) (s := 1) rfl rfl rfl (by kernel_rfl) (by kernel_rfl) hi7 hi8 ((SlOk.mono hs2 (vt (vt (vt (vt (vt hV1 hV3) hV4) hV7) hV8) hV10)).some_ hi9 (by decide))) ?_
     refine T.look (.string e3) (by kernel_rfl) (fun w' hh => exec_load1 rfl rfl (by kernel_rfl) (hh.cell_view (SlOk.cellF0 (E := eStr) (SlOk.mono hs2 (vt (vt (vt (vt (vt hV1 hV3) hV4) hV7) hV8) hV10)) hi9 (fun _ _ _ h => h) rfl))) ?_
     refine T.pk (.string e1) (fun _ => by kernel_rfl) (T.step (W1.new 9 [.string e3, .string e1] (fun b => .slice (some ⟨b, 0, none⟩) 2 2) (by kernel_rfl) (fun _ => by kernel_rfl) (fun b4 => ?_)))
     obtain ⟨y2, hb9, hX2⟩ := ob hX2
     obtain ⟨hb9_r, hb9_m, rfl⟩ := grow_some hb9
     obtain ⟨ti, hti, hz1, hz2, hz3⟩ := info_parts (P := Tryz.prog) (e := 9) (z := .string (ByteArray.mk #[])) (size := 1) (bytes := 16) (by kernel_rfl)
     refine T.step (W1.append (E := eStr) (l := x1) (m := [e3, e1]) 1 _ _ 16 ti _ (by rfl) (by kernel_rfl) rfl (by kernel_rfl) hti hz1 hz2 hz3 rfl (by decide) rfl rfl (fun w' hh => (SlOk.srcF (slok_lit (E := eStr) (f := (fun x => [.string x])) [e3, e1] (fun _ _ => rfl) (Nat.le_of_ble_eq_true (by rfl)) (fun j => hh.cellBox (i := 0) (by rfl) j)) (fun _ _ _ _ h => h))) hb9_r hb9_m (fun A15 c15 => ?_))
     refine T.pk (.slice A15 ((x1 ++ [e3, e1]).length) c15) (fun _ => by kernel_rfl) (T.nil ?_)
     cases hX2
     exact fun a w' hf hh => ⟨(x1 ++ [e3, e1]), r4.1, r4.2.1, r4.2.2.1, r6.1, rfl, A15, c15, A13, c13, A14, c14, V10, (vt (vt hV7 hV8) hV10), (SlOk.mono hs11 (vt hV8 hV10)), (SlOk.mono hs12 (made_mono vr)), (Fr.sel hf rfl), (hh.sub (dr1 (kp1 (kp1 kp0))))⟩
    rw [hc5, cond_false] at hX2
    refine T.skip_code ?_
    cases hX2
    exact fun a w' hf hh => ⟨x1, r4.1, r4.2.1, r4.2.2.1, x5, rfl, A3, c3, A13, c13, A5, c5, V10, (vt (vt hV7 hV8) hV10), (SlOk.mono hs11 (vt hV8 hV10)), (SlOk.mono hs5 (made_mono (vt (vt hV7 hV8) hV10))), (Fr.sel hf rfl), (hh.sub (kp1 (kp1 kp0)))⟩
   rintro a w' ⟨z7, z8, z9, z10, z11, rfl, A10, c10, A11, c11, A12, c12, V6, hV6, hs9, hs10, hf, hh⟩
   try dsimp only at hY1
   refine (?_ : T 129 w V6 ((row 9 eStr A10 c10 z7) :: (box b3 78 [.slice A11 z8.length c11, vi z9, vi z10]) :: []) [(1, .slice A2 p1.length c2), (2, vi p2), (7, pB b3 0), (8, .slice A12 z11.length c12), (9, .slice A10 z7.length c10), (32, .slice A6 s1.length c6), (33, vi (s1.length : Int)), (34, vi x6)] _) a w' hf hh
   clear hf hh
   refine T.region (T.p2 (vi (IntKind.i64.wrap (x6 + 1))) (vi (IntKind.i64.wrap (x6 + 1))) (fun _ => by kernel_rfl) (T.nil ?_))
   cases hY1
   exact fun a w' hf hh => ⟨(z7, z8, z9, z10, z11, IntKind.i64.wrap (x6 + 1)), rfl, z7, z8, z9, z10, z11, (IntKind.i64.wrap (x6 + 1)), rfl, A10, c10, A11, c11, A12, c12, A6, c6, V6, (vt hV4 hV6), hs9, (SlOk.mono hs10 (made_mono vr)), (SlOk.mono hs6 hV6), (Fr.sel hf rfl), (hh.sub (kp1 (kp1 kp0)))⟩
  rw [hc2, cond_false] at hY1
  refine T.exit ?_
  cases hY1
  cases (hr1 _ rfl)
  exact fun a w' hf hh => ⟨x1, x2, x3, x4, x5, rfl, A3, c3, A4, c4, A5, c5, V4, hV4, hs4, (SlOk.mono hs5 (made_mono vr)), (Fr.sel hf rfl), (hh.sub (kp1 (kp1 kp0)))⟩
 rintro a w' ⟨z2, z3, z4, z5, z6, rfl, A7, c7, A8, c8, A9, c9, V5, hV5, hs7, hs8, hf, hh⟩
 try dsimp only at hF
 refine (?_ : T 129 w V5 ((row 9 eStr A7 c7 z2) :: (box b3 78 [.slice A8 z3.length c8, vi z4, vi z5]) :: []) [(7, pB b3 0), (8, .slice A9 z6.length c9), (9, .slice A7 z2.length c7)] _) a w' hf hh
 clear hf hh
 refine T.seq (T.region (T.pk (.slice A9 z6.length c9) (fun _ => by kernel_rfl) ?_))
 obtain ⟨r7, hb10, hF⟩ := ob hF
 refine T.step (W1.call (vT2 (vSc (eList eInt)) (vSc eInt)) r7 48 #[.slice A9 z6.length c9] (by kernel_rfl) (fun _ => by kernel_rfl) (fun w' hh => snap_Times_l F z6 r7 hb10 w' A9 c9 (SlOk.mono (SlOk.mono hs8 (vt (made_le _ _) vr)) hh.view)) ?_)
 intro u V11 hV11 hu
 obtain ⟨u3, u4, rfl, hu3, hu4⟩ := vT2_elim hu
 obtain ⟨A16, c16, rfl, hs13⟩ := vlist_elim hu3
 obtain rfl := sureInt _ _ _ hu4
 refine T.p5 (.tuple #[.slice A16 r7.1.length c16, vi r7.2]) (.slice A16 r7.1.length c16) (vi r7.2) (.slice A16 r7.1.length c16) (vi r7.2) (fun _ => by kernel_rfl) (T.nil (T.seq ?_))
 obtain ⟨q3, hX4, hF⟩ := ob hF
 refine T.cut (fun a w' => ∃ (z13 : List DElem) (z14 : Bool), q3 = (z13, z14) ∧ ∃ (A17 : Option Addr) (c17 : Nat) (V12 : View), View.le V11 V12 ∧ SlOk V12 eElem A17 c17 z13 ∧ Fr 129 [(7, pB b3 0), (8, .slice A9 z6.length c9), (9, .slice A7 z2.length c7), (92, .bool z14)] a ∧ Hp w V12 ((row 9 eStr A7 c7 z2) :: (box b3 78 [.slice A17 z13.length c17, vi z4, vi z5]) :: []) w') ?_ ?_
 ·
  refine T.region (T.p3 (vi r7.2) (.bool (r7.2 != 0)) (.bool (r7.2 != 0)) (fun _ => by kernel_rfl) ?_)
  cases hg3 : (r7.2 != 0)
  ·
   skip
   rw [hg3, cond_false] at hX4
   refine T.p2 (pB b3 0) (.slice A16 r7.1.length c16) (fun _ => by kernel_rfl) ?_
   obtain ⟨r8, hb11, hX4⟩ := ob hX4
   refine T.step (W1.callI 44 [pB b3 0, .slice A16 r7.1.length c16] (fun v w' => ∃ (A18 : Option Addr) (c18 : Nat) (V13 : View), View.le V11 V13 ∧ SlOk V13 eElem A18 c18 r8.1 ∧ v = vi r8.2 ∧ Hp w V13 ((box b3 78 [.slice A18 r8.1.length c18, vi z4, vi z5]) :: (row 9 eStr A7 c7 z2) :: []) w') (by kernel_rfl) (fun _ => by kernel_rfl) (fun w' hh => fs_FS_Prune_fr2_l F z3 z4 z5 r7.1 r8 hb11 w hGl b3 A8 c8 A16 c16 V11 ((row 9 eStr A7 c7 z2) :: []) w' (SlOk.mono hs7 hV11) (SlOk.mono hs13 (vt (made_le _ _) vr)) (hh.ix 2 [1, 0])) ?_)
   rintro v w' ⟨A18, c18, V13, hV13, hs15, rfl, hh⟩
   refine ⟨V13, ((row 9 eStr A7 c7 z2) :: (box b3 78 [.slice A18 r8.1.length c18, vi z4, vi z5]) :: []), hh.ix 2 [1, 0], ?_⟩
   clear hh
   refine T.p2 (.bool (r8.2 != 0)) (.bool (r8.2 != 0)) (fun _ => by kernel_rfl) (T.nil ?_)
   cases hX4
   exact fun a w' hf hh => ⟨r8.1, (r8.2 != 0), rfl, A18, c18, V13, hV13, hs15, (Fr.sel hf rfl), (hh.sub (kp1 (kp1 kp0)))⟩
  skip
  rw [hg3, cond_true] at hX4
  refine T.pass (by kernel_rfl) (by kernel_rfl) (T.pass (by kernel_rfl) (by kernel_rfl) (T.pass (by kernel_rfl) (by kernel_rfl) (T.pass (by kernel_rfl) (by kernel_rfl) (T.pk (.bool true) (fun _ => by kernel_rfl) (T.nil ?_)))))
  cases hX4
  exact fun a w' hf hh => ⟨z3, true, rfl, A8, c8, V11, vr, (SlOk.mono hs7 hV11), (Fr.sel hf rfl), (hh.sub (kp1 (kp1 kp0)))⟩
 rintro a w' ⟨z13, z14, rfl, A17, c17, V12, hV12, hs14, hf, hh⟩
 try dsimp only at hF
 let i6_ : HObj := box b3 78 [.slice A17 z13.length c17, vi z4, vi z5]
 let t7_ : List HObj := (row 9 eStr A7 c7 z2) :: i6_ :: []
 refine (?_ : T 129 w V12 t7_ [(7, pB b3 0), (8, .slice A9 z6.length c9), (9, .slice A7 z2.length c7), (92, .bool z14)] _) a w' hf hh
 clear hf hh
 refine T.cond z14 (by kernel_rfl) (by kernel_rfl) (fun hc6 => ?_) (fun hc6 => ?_)
 ·
  rw [hc6, cond_true] at hF
  refine T.seq (T.region (T.pk (.bool false) (fun _ => by kernel_rfl) (T.nil ?_)))
  cases hF
  refine T.ret rfl ?_
  exact T.ret1 rfl (ResIs.tmp rfl) fun w' hh => ⟨_, rfl, hh.below, (show _ from rfl)⟩
 rw [hc6, cond_false] at hF
 refine T.skip_code ?_
 refine T.seq (T.seq (T.region (T.pk (vi 0) (fun _ => by kernel_rfl) (T.nil ?_))))
 obtain ⟨q4, hz2, hF⟩ := ob hF
 refine T.mid (fun a w' => q4 = Sum.inl () ∧ ∃ (V15 : View), View.le V12 V15 ∧ Fr 129 [] a ∧ Hp w V15 [] w') ?_ ?_
 ·
  refine T.block ?_
  refine T.iter (fun x7 a w' => ∃ (V14 : View), View.le V12 V14 ∧ Fr 129 [(7, pB b3 0), (8, .slice A9 z6.length c9), (9, .slice A7 z2.length c7), (16, vi x7)] a ∧ Hp w V14 t7_ w') hz2 ?_ ?_
  ·
   exact fun a w' hf hh => ⟨V12, vr, (Fr.sel hf rfl), (hh.sub (kp1 (kp1 kp0)))⟩
  rintro x7 y3 hY2 hr2 a w' ⟨V14, hV14, hf, hh⟩
  refine (?_ : T 129 w V14 t7_ [(7, pB b3 0), (8, .slice A9 z6.length c9), (9, .slice A7 z2.length c7), (16, vi x7)] _) a w' hf hh
  clear hf hh
  try dsimp only at hY2
  refine T.seq (T.seq (T.region (T.p4 (vi x7) (.slice A7 z2.length c7) (vi (z2.length : Int)) (.bool (decide (x7 < (z2.length : Int)))) (fun _ => by kernel_rfl) (T.nil ?_))))
  refine T.cond (decide (x7 < (z2.length : Int))) (by kernel_rfl) (by kernel_rfl) (fun hc7 => ?_) (fun hc7 => ?_)
  ·
   rw [hc7, cond_true] at hY2
   refine T.skip_code ?_
   refine T.seq (T.block (T.seq (T.region (T.p3 (.slice A9 z6.length c9) (.slice A7 z2.length c7) (vi x7) (fun _ => by kernel_rfl) ?_))))
   obtain ⟨e4, hb12, hY2⟩ := ob hY2
   obtain ⟨hi10, hi11, hi12⟩ := idx_some hb12
   refine T.look (.pointer (some ((sadr A7).add (x7.toNat * 1)))) (by kernel_rfl) (ixR 0 (e := 9) (s := 1) rfl rfl rfl (fun _ => by kernel_rfl) hi10 hi11 (by rfl) hi12 (by decide)) ?_
   refine T.look (.string e4) (by kernel_rfl) (fun w' hh => exec_load1 rfl rfl (by kernel_rfl) (SlOk.wcellF0 (E := eStr) (hh.row_slOk (i := 0) (by rfl)) hi12 (fun _ _ _ h => h) rfl)) ?_
   obtain ⟨r9, hb13, hY2⟩ := ob hY2
   refine T.step (W1.call (vT2 (vSc eInt) (vSc eInt)) r9 49 #[.slice A9 z6.length c9, .string e4] (by kernel_rfl) (fun _ => by kernel_rfl) (fun w' hh => snap_Find_l F z6 e4 r9 hb13 w' A9 c9 (SlOk.mono (SlOk.mono hs8 (vt (made_le _ _) (vt (vt hV11 hV12) hV14))) hh.view)) ?_)
   intro u V16 hV16 hu
   obtain rfl := (Sure.t2 sureInt sureInt) _ _ _ hu
   refine T.p5 (.tuple #[vi r9.1, vi r9.2]) (vi r9.1) (vi r9.2) (vi r9.1) (vi r9.2) (fun _ => by kernel_rfl) (T.nil (T.seq (T.region (T.p2 (pB b3 0) (vi r9.1) (fun _ => by kernel_rfl) ?_))))
   obtain ⟨r10, hb14, hY2⟩ := ob hY2
   refine T.step (W1.callI 25 [pB b3 0, .string (ByteArray.mk #[47, 97]), vi r9.1] (fun v w' => ∃ (V17 : View), View.le V16 V17 ∧ v = .tuple #[.string r10.1, vi r10.2] ∧ Hp w V17 (i6_ :: (row 9 eStr A7 c7 z2) :: []) w') (by kernel_rfl) (fun _ => by kernel_rfl) (fun w' hh => fs_FS_Read_fr_l F z13 z4 z5 (ByteArray.mk #[47, 97]) r9.1 r10 hb14 w hGl b3 A17 c17 V16 ((row 9 eStr A7 c7 z2) :: []) w' (SlOk.mono hs14 (vt hV14 hV16)) (hh.ix 2 [1, 0])) ?_)
   rintro v w' ⟨V17, hV17, rfl, hh⟩
   refine ⟨V17, t7_, hh.ix 2 [1, 0], ?_⟩
   clear hh
   refine T.p5 (.tuple #[.string r10.1, vi r10.2]) (.string r10.1) (vi r10.2) (.string r10.1) (vi r10.2) (fun _ => by kernel_rfl) (T.nil ?_)
   obtain ⟨z15, hX5, hY2⟩ := ob hY2
   refine T.cut (fun a w' => Fr 129 [(7, pB b3 0), (8, .slice A9 z6.length c9), (9, .slice A7 z2.length c7), (16, vi x7), (128, .bool z15)] a ∧ Hp w V17 t7_ w') ?_ ?_
   ·
    refine T.region (T.p3 (vi r9.2) (.bool (r9.2 != 0)) (.bool (r9.2 != 0)) (fun _ => by kernel_rfl) ?_)
    cases hg4 : (r9.2 != 0)
    ·
     skip
     rw [hg4, cond_false] at hX5
     refine T.p4 (vi r10.2) (.bool (r10.2 != 0)) (.bool (r10.2 != 0)) (.bool (r10.2 != 0)) (fun _ => by kernel_rfl) ?_
     cases hg5 : (r10.2 != 0)
     ·
      skip
      rw [hg5, cond_false] at hX5
      refine T.p4 (.string r10.1) (.slice A7 z2.length c7) (vi x7) (vi (IntKind.i64.wrap (x7 + 1))) (fun _ => by kernel_rfl) ?_
      obtain ⟨e5, hb15, hX5⟩ := ob hX5
      obtain ⟨hi13, hi14, hi15⟩ := idx_some hb15
      refine T.look (.pointer (some ((sadr A7).add (((IntKind.i64.wrap (x7 + 1)).toNat) * 1)))) (by kernel_rfl) (ixR 0 (e := 9) (s := 1) rfl rfl rfl (fun _ => by kernel_rfl) hi13 hi14 (by rfl) hi15 (by decide)) ?_
      refine T.look (.string e5) (by kernel_rfl) (fun w' hh => exec_load1 rfl rfl (by kernel_rfl) (SlOk.wcellF0 (E := eStr) (hh.row_slOk (i := 0) (by rfl)) hi15 (fun _ _ _ h => h) rfl)) ?_
      refine T.p2 (.bool (!(seq r10.1 e5))) (.bool (!(seq r10.1 e5))) (fun _ => by kernel_rfl) (T.nil ?_)
      cases hX5
      exact fun a w' hf hh => ⟨(Fr.sel hf rfl), (hh.sub (kp1 (kp1 kp0)))⟩
     skip
     rw [hg5, cond_true] at hX5
     refine T.pass (by kernel_rfl) (by kernel_rfl) (T.pass (by kernel_rfl) (by kernel_rfl) (T.pass (by kernel_rfl) (by kernel_rfl) (T.pass (by kernel_rfl) (by kernel_rfl) (T.pass (by kernel_rfl) (by kernel_rfl) (T.pass (by kernel_rfl) (by kernel_rfl) (T.pass (by kernel_rfl) (by kernel_rfl) (T.pk (.bool true) (fun _ => by kernel_rfl) (T.nil ?_))))))))
     cases hX5
     exact fun a w' hf hh => ⟨(Fr.sel hf rfl), (hh.sub (kp1 (kp1 kp0)))⟩
    skip
    rw [hg4, cond_true] at hX5
    refine T.pass (by kernel_rfl) (by kernel_rfl) (T.pass (by kernel_rfl) (by kernel_rfl) (T.p2 (.bool true) (.bool true) (fun _ => by kernel_rfl) (T.pass (by kernel_rfl) (by kernel_rfl) (T.pass (by kernel_rfl) (by kernel_rfl) (T.pass (by kernel_rfl) (by kernel_rfl) (T.pass (by kernel_rfl) (by kernel_rfl) (T.pass (by kernel_rfl) (by kernel_rfl) (T.pass (by kernel_rfl) (by kernel_rfl) (T.pass (by kernel_rfl) (by kernel_rfl) (T.pk (.bool true) (fun _ => by kernel_rfl) (T.nil ?_)))))))))))
    cases hX5
    exact fun a w' hf hh => ⟨(Fr.sel hf rfl), (hh.sub (kp1 (kp1 kp0)))⟩
   rintro a w' ⟨hf, hh⟩
   refine (?_ : T 129 w V17 t7_ [(7, pB b3 0), (8, .slice A9 z6.length c9), (9, .slice A7 z2.length c7), (16, vi x7), (128, .bool z15)] _) a w' hf hh
   clear hf hh
   refine T.cond z15 (by kernel_rfl) (by kernel_rfl) (fun hc8 => ?_) (fun hc8 => ?_)
   ·
    rw [hc8, cond_true] at hY2
    refine T.seq (T.region (T.pk (.bool false) (fun _ => by kernel_rfl) (T.nil ?_)))
    cases hY2
    cases (hr2 _ rfl)
    try dsimp only at hF
    cases hF
    refine T.ret rfl ?_
    exact T.ret1 rfl (ResIs.tmp rfl) fun w' hh => ⟨_, rfl, hh.below, (show _ from rfl)⟩
   rw [hc8, cond_false] at hY2
   refine T.skip_code ?_
   refine T.region (T.p3 (vi x7) (vi (IntKind.i64.wrap (x7 + 2))) (vi (IntKind.i64.wrap (x7 + 2))) (fun _ => by kernel_rfl) (T.nil ?_))
   cases hY2
   exact fun a w' hf hh => ⟨(IntKind.i64.wrap (x7 + 2)), rfl, V17, (vt (vt hV14 hV16) hV17), (Fr.sel hf rfl), (hh.sub (kp1 (kp1 kp0)))⟩
  rw [hc7, cond_false] at hY2
  refine T.exit ?_
  cases hY2
  cases (hr2 _ rfl)
  exact fun a w' hf hh => ⟨rfl, V14, hV14, (Fr.nil hf), (hh.sub (dr1 (dr1 kp0)))⟩
 rintro a w' ⟨rfl, V15, hV15, hf, hh⟩
 try dsimp only at hF
 refine (?_ : T 129 w V15 [] [] _) a w' hf hh
 clear hf hh
 refine T.seq (T.region (T.pk (.bool true) (fun _ => by kernel_rfl) (T.nil ?_)))
 cases hF
 refine T.ret rfl ?_
 exact T.ret1 rfl (ResIs.tmp rfl) fun w' hh => ⟨_, rfl, hh.below, (show _ from rfl)⟩
end Go.Proofs.YtacjdfhllomccaaGreatDoor
