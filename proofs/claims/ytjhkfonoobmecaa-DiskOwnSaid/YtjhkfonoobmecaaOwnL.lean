/- What slices.Insert and slices.Delete do to rows of the call's own, written by ownlib.py. Conditions of each: the row is the call's own, the place lies within it, there is room for one more. -/
import Derived.Test.YtjhkfonoobmecaaEqL
import Derived.Test.YtjhkfonoobmecaaIns
import Derived.Test.YtjhkfonoobmecaaRec
namespace Go.Proofs.Ytjhkfonoobmecaa
open Go.RowKit
set_option linter.unusedVariables false

set_option maxRecDepth 100000 in
set_option maxHeartbeats 4000000 in
theorem own_clone_Write (w : World) (V : View) (H : List HObj) (w1 : World) (A : Option Addr) (c : Nat) (l : List DWrite) (hs : ∀ w', Hp w V H w' → SlOk (vw w') eWrite A c l) (hr : room l.length 24 = true) (hm : l.length ≤ maxLen)
    (hh : Hp w V H w1) : Calls Try.prog 17 #[.slice A l.length c] w1 (fun r w2 => ∃ A' c', r = .returned (.slice A' l.length c') ∧ Hp w V (row 29 eWrite A' c' l :: H) w2) := by
  have hs1 := hs _ hh
  refine T.startI (l := [.slice A l.length c]) Try.func17 rfl rfl rfl ?_ hh
  clear hh
  refine T.seq ?_
  refine T.region ?_
  refine T.pure (.slice none 0 0) (by kernel_rfl) (fun _ => by kernel_rfl) ?_
  refine T.nil ?_
  refine T.seq ?_
  refine T.seq ?_
  refine T.region ?_
  refine T.pure (.slice A l.length c) (by kernel_rfl) (fun _ => by kernel_rfl) ?_
  cases A with
  | none =>
    refine T.pure (.bool true) (by kernel_rfl) (fun _ => by kernel_rfl) ?_
    refine T.nil ?_
    refine T.cond true (by kernel_rfl) (by kernel_rfl) (fun _ => ?_) (fun h => Bool.noConfusion h)
    refine T.seq ?_
    refine T.region ?_
    refine T.pure (.slice none 0 0) (by kernel_rfl) (fun _ => by kernel_rfl) ?_
    refine T.nil ?_
    obtain rfl : l = [] := by
      cases l with
      | nil => rfl
      | cons x l => exact absurd (hs1.some_ (k := 0) rfl (by decide)) (by decide)
    refine T.rownil 29 eWrite ?_
    refine T.ret rfl ?_
    repeat first | refine T.unthen ?_ | refine T.unblock ?_
    exact T.ret1 rfl (ResIs.tmp rfl) fun w' hh => ⟨none, 0, rfl, hh⟩
  | some a =>
    refine T.pure (.bool false) (by kernel_rfl) (fun _ => by kernel_rfl) ?_
    refine T.nil ?_
    refine T.cond false (by kernel_rfl) (by kernel_rfl) (fun h => Bool.noConfusion h) (fun _ => ?_)
    refine T.skip_code ?_
    refine T.seq ?_
    refine T.region ?_
    refine T.step (W1.new 29 [] (fun b => .slice (some ⟨b, 0, none⟩) 0 0) (by kernel_rfl) (fun _ => by kernel_rfl) (fun b1 => ?_))
    refine T.pure (.slice (some a) l.length c) (by kernel_rfl) (fun _ => by kernel_rfl) ?_
    refine (fun (h : T _ _ _ ((row 29 eWrite (some ⟨b1, 0, none⟩) 0 ([] : List DWrite)) :: _) _ _) => (fun a w' hf hh => h a w' hf (hh.fresh_obj _ ⟨rfl, rfl, rfl, Nat.le_refl _, fun _ _ _ => rfl⟩ ⟨Nat.le_refl _, by decide, .inl rfl⟩ (fun b hb => by cases hb)) : T _ _ _ _ _ _)) ?_
    obtain ⟨ti, hti, hz1, hz2, hz3⟩ := info_parts (P := Try.prog) (e := 29) (z := .agg #[.int .i64 0, .string (ByteArray.mk #[])]) (size := 2) (bytes := 24) (by kernel_rfl)
    refine T.step (W1.append (E := eWrite) (l := ([] : List DWrite)) (m := l) 0 _ _ 24 ti _ (by rfl) (by kernel_rfl) rfl (by kernel_rfl) hti hz1 hz2 hz3 rfl (by decide) rfl rfl (fun w' hh => (SlOk.srcF (hs w' (hh.sub (.cons _ (.cons _ (List.Sublist.refl _))))) (fun _ _ _ _ h => h))) (by simpa using hr) (by simpa using hm) (fun A' c' => ?_))
    refine T.pure (.slice A' (([] : List DWrite) ++ l).length c') (by kernel_rfl) (fun _ => by kernel_rfl) ?_
    refine T.nil ?_
    refine T.ret rfl ?_
    repeat first | refine T.unthen ?_ | refine T.unblock ?_
    exact T.ret1 rfl (ResIs.tmp rfl) fun w' hh => ⟨A', c', rfl, hh.sub (.cons_cons _ (.cons _ (List.Sublist.refl _)))⟩

set_option maxRecDepth 100000 in
set_option maxHeartbeats 4000000 in
theorem own_clone_string (w : World) (V : View) (H : List HObj) (w1 : World) (A : Option Addr) (c : Nat) (l : List ByteArray) (hs : ∀ w', Hp w V H w' → SlOk (vw w') eStr A c l) (hr : room l.length 16 = true) (hm : l.length ≤ maxLen)
    (hh : Hp w V H w1) : Calls Try.prog 16 #[.slice A l.length c] w1 (fun r w2 => ∃ A' c', r = .returned (.slice A' l.length c') ∧ Hp w V (row 9 eStr A' c' l :: H) w2) := by
  have hs1 := hs _ hh
  refine T.startI (l := [.slice A l.length c]) Try.func16 rfl rfl rfl ?_ hh
  clear hh
  refine T.seq ?_
  refine T.region ?_
  refine T.pure (.slice none 0 0) (by kernel_rfl) (fun _ => by kernel_rfl) ?_
  refine T.nil ?_
  refine T.seq ?_
  refine T.seq ?_
  refine T.region ?_
  refine T.pure (.slice A l.length c) (by kernel_rfl) (fun _ => by kernel_rfl) ?_
  cases A with
  | none =>
    refine T.pure (.bool true) (by kernel_rfl) (fun _ => by kernel_rfl) ?_
    refine T.nil ?_
    refine T.cond true (by kernel_rfl) (by kernel_rfl) (fun _ => ?_) (fun h => Bool.noConfusion h)
    refine T.seq ?_
    refine T.region ?_
    refine T.pure (.slice none 0 0) (by kernel_rfl) (fun _ => by kernel_rfl) ?_
    refine T.nil ?_
    obtain rfl : l = [] := by
      cases l with
      | nil => rfl
      | cons x l => exact absurd (hs1.some_ (k := 0) rfl (by decide)) (by decide)
    refine T.rownil 9 eStr ?_
    refine T.ret rfl ?_
    repeat first | refine T.unthen ?_ | refine T.unblock ?_
    exact T.ret1 rfl (ResIs.tmp rfl) fun w' hh => ⟨none, 0, rfl, hh⟩
  | some a =>
    refine T.pure (.bool false) (by kernel_rfl) (fun _ => by kernel_rfl) ?_
    refine T.nil ?_
    refine T.cond false (by kernel_rfl) (by kernel_rfl) (fun h => Bool.noConfusion h) (fun _ => ?_)
    refine T.skip_code ?_
    refine T.seq ?_
    refine T.region ?_
    refine T.step (W1.new 9 [] (fun b => .slice (some ⟨b, 0, none⟩) 0 0) (by kernel_rfl) (fun _ => by kernel_rfl) (fun b1 => ?_))
    refine T.pure (.slice (some a) l.length c) (by kernel_rfl) (fun _ => by kernel_rfl) ?_
    refine (fun (h : T _ _ _ ((row 9 eStr (some ⟨b1, 0, none⟩) 0 ([] : List ByteArray)) :: _) _ _) => (fun a w' hf hh => h a w' hf (hh.fresh_obj _ ⟨rfl, rfl, rfl, Nat.le_refl _, fun _ _ _ => rfl⟩ ⟨Nat.le_refl _, by decide, .inl rfl⟩ (fun b hb => by cases hb)) : T _ _ _ _ _ _)) ?_
    obtain ⟨ti, hti, hz1, hz2, hz3⟩ := info_parts (P := Try.prog) (e := 9) (z := .string (ByteArray.mk #[])) (size := 1) (bytes := 16) (by kernel_rfl)
    refine T.step (W1.append (E := eStr) (l := ([] : List ByteArray)) (m := l) 0 _ _ 16 ti _ (by rfl) (by kernel_rfl) rfl (by kernel_rfl) hti hz1 hz2 hz3 rfl (by decide) rfl rfl (fun w' hh => (SlOk.srcF (hs w' (hh.sub (.cons _ (.cons _ (List.Sublist.refl _))))) (fun _ _ _ _ h => h))) (by simpa using hr) (by simpa using hm) (fun A' c' => ?_))
    refine T.pure (.slice A' (([] : List ByteArray) ++ l).length c') (by kernel_rfl) (fun _ => by kernel_rfl) ?_
    refine T.nil ?_
    refine T.ret rfl ?_
    repeat first | refine T.unthen ?_ | refine T.unblock ?_
    exact T.ret1 rfl (ResIs.tmp rfl) fun w' hh => ⟨A', c', rfl, hh.sub (.cons_cons _ (.cons _ (List.Sublist.refl _)))⟩

end Go.Proofs.Ytjhkfonoobmecaa
