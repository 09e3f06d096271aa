/- The Go law DiskOwn, walked: every disk's rows are the call's own. Condition: what it asks for is there. -/
import Derived.Test.YtjhkfonoobmecaaStepO
import Derived.Test.YtjhkfonoobmecaaRoomG
import Derived.Test.YtjhkfonoobmecaaOwnL
import Derived.Test.YtjhkfonoobmecaaEqsL
import Derived.Test.YtjhkfonoobmecaaCloL
import Derived.Test.YtjhkfonoobmecaaWDiskOwnF
namespace Go.Proofs.Ytjhkfonoobmecaa
open Go.RowKit
set_option linter.unusedVariables false
set_option linter.unusedSimpArgs false
theorem SlOk.pre {α : Type} {V : View} {E : Enc α} {A : Option Addr} {c : Nat} {l m : List α} (h : SlOk V E A c (l ++ m)) : SlOk V E A c l := by
  obtain ⟨h1, h2, xs, h3, h4⟩ := h
  rw [List.length_append] at h1
  refine ⟨by omega, h2, xs.take (l.length * E.size), ?_, fun j u hj => ?_⟩
  · have := h3.takeN l.length
    rwa [List.take_left] at this
  · rw [List.getElem?_take] at hj
    split at hj
    · exact h4 j u hj
    · cases hj
theorem SlOk.tail3 {α : Type} {V : View} {E : Enc α} {A : Option Addr} {l : List α} {x y z : α} (h : SlOk V E A (l.length + 3) (l ++ [x, y, z])) : SlOk V E (cutA A (l.length + 3) l.length E.size) 3 [x, y, z] := by
  have hcut : lslice (l ++ [x, y, z]) (l.length : Int) ((l.length + 3 : Nat) : Int) = some [x, y, z] := by
    unfold lslice
    rw [if_pos ⟨by omega, by omega, by rw [List.length_append]; show ((l.length + 3 : Nat) : Int) ≤ ((l.length + 3 : Nat) : Int); omega⟩]
    rw [Int.toNat_natCast, Int.toNat_natCast, List.take_of_length_le (by rw [List.length_append]; exact Nat.le_refl _), List.drop_left]
  have := h.cut hcut
  rwa [Int.toNat_natCast, show l.length + 3 - l.length = 3 by omega] at this
section
variable {P : Program} {N : Sz} {w0 : World} {V : View} {H : List HObj} {M : List (Nat × Value)} {ops : Array Oper} {Q : Exit → Act → World → Prop} {o : Oper} {K : Act → World → Prop}
theorem W1.cs {ρ : Type} (E : VEnc ρ) (r : ρ) (f : FuncId) (vs : Array Value) (v : Value) (hval : ∀ V u, E.rep V u r → u = v) (hf : ∀ w, Hp w0 V H w → Calls P f vs w (Post E r w)) (h : T N w0 V H (putM o.dst v M) K)
    (hc : okO N ops M o = true := by kernel_rfl) (hv : ∀ w, (execOp (evM M) o).run P w = .ok (.enter f vs) w := by intro _; kernel_rfl) : W1 P Q ops o N w0 V H M K := fun a w hfr hh => by
  obtain ⟨h1, _, _, h4⟩ := okO_parts hc
  refine ⟨gd_wanted hfr h1, ?_⟩
  unfold Oper.wp
  rw [okO_exec hc hfr, hv w, Oper.upon_enter]
  refine (hf w hh).mono ?_
  rintro x w' ⟨u, rfl, hb, hr⟩
  rw [hval _ _ hr]
  exact h _ _ (hfr.put h4 v) (hh.called_same hb)
theorem T.fitD {φ : Act → World → Prop} {hs : List DDH} {ds : List DDisk} {k : Nat} {h : DDH} {d : DDisk} (i : Nat) (hi : nth H i = some (diskso hs ds)) (h1 : hs[k]? = some h) (h2 : ds[k]? = some d) (q : FitD h d → T N w0 V H M φ) : T N w0 V H M φ := fun a w hf hh => q (hh.lookAtD hi h1 h2).1 a w hf hh
theorem T.lenD {φ : Act → World → Prop} {hs : List DDH} {ds : List DDisk} (i : Nat) (hi : nth H i = some (diskso hs ds)) (q : hs.length = ds.length → T N w0 V H M φ) : T N w0 V H M φ := fun a w hf hh => q (hh.lenD hi) a w hf hh
theorem T.popD {φ : Act → World → Prop} {hs : List DDH} {ds : List DDisk} {h : DDH} {d : DDisk} {H' : List HObj} (i : Nat) (hi : nth H i = some (diskso (h :: hs) (d :: ds))) (hH : H.eraseIdx i = H')
    (q : T N w0 V (row 9 eStr h.a1 h.c1 d.pages :: row 29 eWrite h.a2 h.c2 d.writes :: diskso hs ds :: H') M φ) : T N w0 V H M φ := fun a w hf hh => q a w hf (by subst hH; exact ((hh.perm (perm_at hi)).popD).2)
end
theorem rowsD_take : ∀ (k : Nat) (hs : List DDH) (ds : List DDisk), (rowsD (hs.take k) (ds.take k)).Sublist (rowsD hs ds)
  | 0, hs, ds => by simp [rowsD]
  | k + 1, [], ds => by simp [rowsD]
  | k + 1, h :: hs, [] => by simp [rowsD]
  | k + 1, h :: hs, d :: ds => ((((rowsD_take k hs ds).cons_cons _).cons_cons _).cons_cons _)
theorem Hp.takeD {w0 : World} {V : View} {X : List HObj} {w : World} {hs : List DDH} {ds : List DDisk} (h : Hp w0 V (diskso hs ds :: X) w) (k : Nat) : Hp w0 V (diskso (hs.take k) (ds.take k) :: X) w := by
  obtain ⟨hl, h2⟩ := h.openedD
  exact Hp.closedD (by simp [hl]) (h2.sub ((rowsD_take k hs ds).append (List.Sublist.refl _)))
theorem all_at {α : Type} {p : α → Bool} {l : List α} (h : l.all p = true) {k : Nat} {x : α} (hx : l[k]? = some x) : p x = true := List.all_eq_true.1 h x (List.mem_of_getElem? hx)
theorem fits_parts {F : Nat} {d : DDisk} (h : fitsD F d = true) : d.pages.length ≤ 100000 ∧ d.writes.length ≤ 100000 ∧ annalref_SameDisk F d d = some true := by
  unfold fitsD at h
  simp only [Bool.and_eq_true, beq_iff_eq] at h
  exact ⟨of_decide_eq_true h.1.1, of_decide_eq_true h.1.2, h.2⟩
set_option maxRecDepth 100000
set_option maxHeartbeats 4000000
theorem annalkeep_DiskOwn_l (F : Nat) (p0 : DDisk) (p1 : Int) (p2 : ByteArray) (p3 : (List DWrite)) (r : Bool) (hF : annalkeep_DiskOwn F p0 p1 p2 p3 = some r) (w : World) (A1 : Option Addr) (c1 : Nat) (hs1 : SlOk (vw w) eStr A1 c1 p0.pages) (A2 : Option Addr) (c2 : Nat) (hs2 : SlOk (vw w) eWrite A2 c2 p0.writes) (A3 : Option Addr) (c3 : Nat) (hs3 : SlOk (vw w) eWrite A3 c3 p3) :
    Calls Try.prog 3 #[.agg #[.slice A1 p0.pages.length c1, .slice A2 p0.writes.length c2], .int .i64 p1, .string p2, .slice A3 p3.length c3] w (Post (vSc eBool) r w) := by
 unfold annalkeep_DiskOwn at hF
 obtain ⟨u1, hroomS, hF⟩ := Option.bind_eq_some_iff.1 hF
 obtain ⟨u2, hroomW, hF⟩ := Option.bind_eq_some_iff.1 hF
 obtain ⟨r1, hb1, hF⟩ := Option.bind_eq_some_iff.1 hF
 obtain ⟨r2, hb2, hF⟩ := Option.bind_eq_some_iff.1 hF
 obtain ⟨r3, hb3, hF⟩ := Option.bind_eq_some_iff.1 hF
 obtain ⟨r4, hb4, hF⟩ := Option.bind_eq_some_iff.1 hF
 obtain ⟨r5, hb5, hF⟩ := Option.bind_eq_some_iff.1 hF
 obtain ⟨r6, hb6, hF⟩ := Option.bind_eq_some_iff.1 hF
 obtain ⟨hq, rfl⟩ := bif_none hF
 simp only [Bool.and_eq_true] at hq
 obtain ⟨⟨⟨hsame, hall⟩, hz⟩, hone⟩ := hq
 rw [beq_iff_eq] at hsame
 obtain ⟨hr1, hr2⟩ := roomN_some hroomS
 obtain ⟨hr3, hr4⟩ := roomN_some hroomW
 have hN1 : ((p0.pages.length : Int) + 3).toNat = p0.pages.length + 3 := by omega
 have hN2 : ((p0.writes.length : Int) + 3).toNat = p0.writes.length + 3 := by omega
 refine T.start (l := [.agg #[.slice A1 p0.pages.length c1, .slice A2 p0.writes.length c2], .int .i64 p1, .string p2, .slice A3 p3.length c3]) Try.func3 rfl rfl rfl ?_
 refine T.sr (T.step (W1.np 25 [.slice A1 p0.pages.length c1, .slice A2 p0.writes.length c2] (fun b4 => T.k (.bool false) (T.nil ?_))))
 refine T.seq ?_
 refine T.mid (fun a w' => ∃ (g1 g2 : Option Addr) (b9 : Nat), Fr 163 [(1, .int .i64 p1), (2, .string p2), (3, .slice A3 p3.length c3), (4, (.pointer (some ⟨b4, 0, none⟩))), (8, .bool false), (9, (.pointer (some ⟨b9, 0, none⟩)))] a ∧ Hp w (vw w) [box b9 25 [.slice g1 p0.pages.length (p0.pages.length + 3), .slice g2 p0.writes.length (p0.writes.length + 3)], row 9 eStr g1 (p0.pages.length + 3) (p0.pages ++ [mkS, mkS, mkS]), row 29 eWrite g2 (p0.writes.length + 3) (p0.writes ++ [mkW, mkW, mkW]), box b4 25 [.slice A1 p0.pages.length c1, .slice A2 p0.writes.length c2]] w') ?_ ?_
 ·
  refine T.held [box b4 25 [.slice A1 p0.pages.length c1, .slice A2 p0.writes.length c2]] (by kernel_rfl) ?_
  refine TA.tp 0 (.pointer (some ⟨b4, 0, none⟩)) rfl (fun _ hh => hh.ix 60 [0]) ?_
  refine TA.tk 1 (.slice A1 p0.pages.length c1) rfl (fun _ hh => hh.ix 60 [0]) (ld1 0) ?_
  refine TA.tp 3 (.pointer (some ⟨b4, 1, none⟩)) rfl (fun _ hh => hh.ix 60 [0]) ?_
  refine TA.tk 4 (.slice A2 p0.writes.length c2) rfl (fun _ hh => hh.ix 60 [0]) (ld1 0) ?_
  refine TA.tp 5 (.agg #[vi 0, .string mkS]) rfl (fun _ hh => hh.ix 60 [0]) ?_
  refine TA.a [2, 8] ⟨?_, ?_, trivial⟩
  ·
   refine TA.br rfl (W1.callG 4 #[.slice A1 p0.pages.length c1, .string mkS] (fun p : Option Addr => .slice p p0.pages.length (p0.pages.length + 3)) (fun p => [row 9 eStr p (p0.pages.length + 3) (p0.pages ++ [mkS, mkS, mkS])]) (fun _ => True) (by kernel_rfl) (fun _ => by kernel_rfl) (fun w' hh => own_roomy_str p0.pages mkS A1 c1 w' (SlOk.mono hs1 hh.view) (by rw [hN1]; exact hr1) (by rw [hN1]; exact hr2)) ?_)
   intro g1 _
   refine T.reH (H' := [row 9 eStr g1 (p0.pages.length + 3) (p0.pages ++ [mkS, mkS, mkS]), box b4 25 [.slice A1 p0.pages.length c1, .slice A2 p0.writes.length c2]]) (by rfl) ?_
   refine TA.on (fun _ hh => hh.ix 60 [1]) ?_
   refine TA.a [6, 8] ⟨?_, ?_, trivial⟩
   ·
    refine TA.br rfl (W1.callG 5 #[.slice A2 p0.writes.length c2, .agg #[vi 0, .string mkS]] (fun p : Option Addr => .slice p p0.writes.length (p0.writes.length + 3)) (fun p => [row 29 eWrite p (p0.writes.length + 3) (p0.writes ++ [mkW, mkW, mkW])]) (fun _ => True) (by kernel_rfl) (fun _ => by kernel_rfl) (fun w' hh => own_roomy_Write p0.writes mkW A2 c2 w' (SlOk.mono hs2 hh.view) (by rw [hN2]; exact hr3) (by rw [hN2]; exact hr4)) ?_)
    intro g2 _
    refine T.reH (H' := [row 29 eWrite g2 (p0.writes.length + 3) (p0.writes ++ [mkW, mkW, mkW]), row 9 eStr g1 (p0.pages.length + 3) (p0.pages ++ [mkS, mkS, mkS]), box b4 25 [.slice A1 p0.pages.length c1, .slice A2 p0.writes.length c2]]) (by rfl) ?_
    refine TA.on (fun _ hh => hh.ix 60 [2]) ?_
    refine TA.tp 7 (.agg #[.slice g1 p0.pages.length (p0.pages.length + 3), .slice g2 p0.writes.length (p0.writes.length + 3)]) rfl (fun _ hh => hh.ix 60 [2]) ?_
    refine TA.j 8 rfl (W1.np 25 [.slice none 0 0, .slice none 0 0] (fun b9 => ?_))
    refine TA.on (fun _ hh => hh.ix 60 [3]) ?_
    refine TA.j 9 rfl (W1.st 0 [.slice g1 p0.pages.length (p0.pages.length + 3), .slice g2 p0.writes.length (p0.writes.length + 3)] ([box b9 25 [.slice g1 p0.pages.length (p0.pages.length + 3), .slice g2 p0.writes.length (p0.writes.length + 3)], row 29 eWrite g2 (p0.writes.length + 3) (p0.writes ++ [mkW, mkW, mkW]), row 9 eStr g1 (p0.pages.length + 3) (p0.pages ++ [mkS, mkS, mkS]), box b4 25 [.slice A1 p0.pages.length c1, .slice A2 p0.writes.length c2]]) [.slice g1 p0.pages.length (p0.pages.length + 3), .slice g2 p0.writes.length (p0.writes.length + 3)] ?_)
    refine TA.on (fun _ hh => hh.ix 60 [3]) ?_
    refine TA.d ?_
    exact fun a w' hf hh => ⟨g1, g2, b9, Fr.s hf, hh.ix 60 [0, 2, 1, 3]⟩
   ·
    refine TA.br rfl (W1.np 25 [.slice none 0 0, .slice none 0 0] (fun b9 => ?_))
    refine TA.on (fun _ hh => hh.ix 60 [2]) ?_
    refine TA.j 6 rfl (W1.callG 5 #[.slice A2 p0.writes.length c2, .agg #[vi 0, .string mkS]] (fun p : Option Addr => .slice p p0.writes.length (p0.writes.length + 3)) (fun p => [row 29 eWrite p (p0.writes.length + 3) (p0.writes ++ [mkW, mkW, mkW])]) (fun _ => True) (by kernel_rfl) (fun _ => by kernel_rfl) (fun w' hh => own_roomy_Write p0.writes mkW A2 c2 w' (SlOk.mono hs2 hh.view) (by rw [hN2]; exact hr3) (by rw [hN2]; exact hr4)) ?_)
    intro g2 _
    refine T.reH (H' := [row 29 eWrite g2 (p0.writes.length + 3) (p0.writes ++ [mkW, mkW, mkW]), box b9 25 [.slice none 0 0, .slice none 0 0], row 9 eStr g1 (p0.pages.length + 3) (p0.pages ++ [mkS, mkS, mkS]), box b4 25 [.slice A1 p0.pages.length c1, .slice A2 p0.writes.length c2]]) (by rfl) ?_
    refine TA.on (fun _ hh => hh.ix 60 [3]) ?_
    refine TA.tp 7 (.agg #[.slice g1 p0.pages.length (p0.pages.length + 3), .slice g2 p0.writes.length (p0.writes.length + 3)]) rfl (fun _ hh => hh.ix 60 [3]) ?_
    refine TA.j 9 rfl (W1.st 1 [.slice g1 p0.pages.length (p0.pages.length + 3), .slice g2 p0.writes.length (p0.writes.length + 3)] ([row 29 eWrite g2 (p0.writes.length + 3) (p0.writes ++ [mkW, mkW, mkW]), box b9 25 [.slice g1 p0.pages.length (p0.pages.length + 3), .slice g2 p0.writes.length (p0.writes.length + 3)], row 9 eStr g1 (p0.pages.length + 3) (p0.pages ++ [mkS, mkS, mkS]), box b4 25 [.slice A1 p0.pages.length c1, .slice A2 p0.writes.length c2]]) [.slice g1 p0.pages.length (p0.pages.length + 3), .slice g2 p0.writes.length (p0.writes.length + 3)] ?_)
    refine TA.on (fun _ hh => hh.ix 60 [3]) ?_
    refine TA.d ?_
    exact fun a w' hf hh => ⟨g1, g2, b9, Fr.s hf, hh.ix 60 [1, 2, 0, 3]⟩
  ·
   refine TA.br rfl (W1.np 25 [.slice none 0 0, .slice none 0 0] (fun b9 => ?_))
   refine TA.on (fun _ hh => hh.ix 60 [1]) ?_
   refine TA.j 2 rfl (W1.callG 4 #[.slice A1 p0.pages.length c1, .string mkS] (fun p : Option Addr => .slice p p0.pages.length (p0.pages.length + 3)) (fun p => [row 9 eStr p (p0.pages.length + 3) (p0.pages ++ [mkS, mkS, mkS])]) (fun _ => True) (by kernel_rfl) (fun _ => by kernel_rfl) (fun w' hh => own_roomy_str p0.pages mkS A1 c1 w' (SlOk.mono hs1 hh.view) (by rw [hN1]; exact hr1) (by rw [hN1]; exact hr2)) ?_)
   intro g1 _
   refine T.reH (H' := [row 9 eStr g1 (p0.pages.length + 3) (p0.pages ++ [mkS, mkS, mkS]), box b9 25 [.slice none 0 0, .slice none 0 0], box b4 25 [.slice A1 p0.pages.length c1, .slice A2 p0.writes.length c2]]) (by rfl) ?_
   refine TA.on (fun _ hh => hh.ix 60 [2]) ?_
   refine TA.j 6 rfl (W1.callG 5 #[.slice A2 p0.writes.length c2, .agg #[vi 0, .string mkS]] (fun p : Option Addr => .slice p p0.writes.length (p0.writes.length + 3)) (fun p => [row 29 eWrite p (p0.writes.length + 3) (p0.writes ++ [mkW, mkW, mkW])]) (fun _ => True) (by kernel_rfl) (fun _ => by kernel_rfl) (fun w' hh => own_roomy_Write p0.writes mkW A2 c2 w' (SlOk.mono hs2 hh.view) (by rw [hN2]; exact hr3) (by rw [hN2]; exact hr4)) ?_)
   intro g2 _
   refine T.reH (H' := [row 29 eWrite g2 (p0.writes.length + 3) (p0.writes ++ [mkW, mkW, mkW]), row 9 eStr g1 (p0.pages.length + 3) (p0.pages ++ [mkS, mkS, mkS]), box b9 25 [.slice none 0 0, .slice none 0 0], box b4 25 [.slice A1 p0.pages.length c1, .slice A2 p0.writes.length c2]]) (by rfl) ?_
   refine TA.on (fun _ hh => hh.ix 60 [3]) ?_
   refine TA.tp 7 (.agg #[.slice g1 p0.pages.length (p0.pages.length + 3), .slice g2 p0.writes.length (p0.writes.length + 3)]) rfl (fun _ hh => hh.ix 60 [3]) ?_
   refine TA.j 9 rfl (W1.st 2 [.slice g1 p0.pages.length (p0.pages.length + 3), .slice g2 p0.writes.length (p0.writes.length + 3)] ([row 29 eWrite g2 (p0.writes.length + 3) (p0.writes ++ [mkW, mkW, mkW]), row 9 eStr g1 (p0.pages.length + 3) (p0.pages ++ [mkS, mkS, mkS]), box b9 25 [.slice g1 p0.pages.length (p0.pages.length + 3), .slice g2 p0.writes.length (p0.writes.length + 3)], box b4 25 [.slice A1 p0.pages.length c1, .slice A2 p0.writes.length c2]]) [.slice g1 p0.pages.length (p0.pages.length + 3), .slice g2 p0.writes.length (p0.writes.length + 3)] ?_)
   refine TA.on (fun _ hh => hh.ix 60 [3]) ?_
   refine TA.d ?_
   exact fun a w' hf hh => ⟨g1, g2, b9, Fr.s hf, hh.ix 60 [2, 1, 0, 3]⟩
 rintro a w' ⟨g1, g2, b9, hf, hh⟩
 refine (?_ : T 163 w (vw w) [box b9 25 [.slice g1 p0.pages.length (p0.pages.length + 3), .slice g2 p0.writes.length (p0.writes.length + 3)], row 9 eStr g1 (p0.pages.length + 3) (p0.pages ++ [mkS, mkS, mkS]), row 29 eWrite g2 (p0.writes.length + 3) (p0.writes ++ [mkW, mkW, mkW]), box b4 25 [.slice A1 p0.pages.length c1, .slice A2 p0.writes.length c2]] [(1, .int .i64 p1), (2, .string p2), (3, .slice A3 p3.length c3), (4, (.pointer (some ⟨b4, 0, none⟩))), (8, .bool false), (9, (.pointer (some ⟨b9, 0, none⟩)))] _) a w' hf hh
 clear hf hh
 refine T.sr (T.l (.agg #[.slice g1 p0.pages.length (p0.pages.length + 3), .slice g2 p0.writes.length (p0.writes.length + 3)]) (ldN 0) ?_)
 refine T.k2 (.int .i64 p1) (.string p2) ?_
 refine T.step (W1.callG 6 #[.agg #[.slice g1 p0.pages.length (p0.pages.length + 3), .slice g2 p0.writes.length (p0.writes.length + 3)], .int .i64 p1, .string p2] (fun p : Option Addr × Nat × Option Addr × Nat => .tuple #[.agg #[.slice p.1 r1.1.pages.length p.2.1, .slice p.2.2.1 r1.1.writes.length p.2.2.2], .int .i64 r1.2]) (fun p => [row 9 eStr p.1 p.2.1 r1.1.pages, row 29 eWrite p.2.2.1 p.2.2.2 r1.1.writes]) (fun _ => True) (by kernel_rfl) (fun _ => by kernel_rfl) (fun w' hh => disk_Put_l F p0 p1 p2 r1 hb1 w' g1 _ (hh.row_slOk (i := 1) (by rfl)).pre g2 _ (hh.row_slOk (i := 2) (by rfl)).pre) ?_)
 rintro ⟨x1, m1, y1, n1⟩ _
 refine T.reH (H' := [row 9 eStr x1 m1 r1.1.pages, row 29 eWrite y1 n1 r1.1.writes, box b9 25 [.slice g1 p0.pages.length (p0.pages.length + 3), .slice g2 p0.writes.length (p0.writes.length + 3)], row 9 eStr g1 (p0.pages.length + 3) (p0.pages ++ [mkS, mkS, mkS]), row 29 eWrite g2 (p0.writes.length + 3) (p0.writes ++ [mkW, mkW, mkW]), box b4 25 [.slice A1 p0.pages.length c1, .slice A2 p0.writes.length c2]]) (by rfl) ?_
 refine T.k3 (.tuple #[.agg #[.slice x1 r1.1.pages.length m1, .slice y1 r1.1.writes.length n1], .int .i64 r1.2]) (.agg #[.slice x1 r1.1.pages.length m1, .slice y1 r1.1.writes.length n1]) (.int .i64 r1.2) ?_
 refine T.step (W1.np 25 [.slice none 0 0, .slice none 0 0] (fun b10 => ?_))
 refine T.step (W1.st 0 [.slice x1 r1.1.pages.length m1, .slice y1 r1.1.writes.length n1] ([box b10 25 [.slice x1 r1.1.pages.length m1, .slice y1 r1.1.writes.length n1], row 9 eStr x1 m1 r1.1.pages, row 29 eWrite y1 n1 r1.1.writes, box b9 25 [.slice g1 p0.pages.length (p0.pages.length + 3), .slice g2 p0.writes.length (p0.writes.length + 3)], row 9 eStr g1 (p0.pages.length + 3) (p0.pages ++ [mkS, mkS, mkS]), row 29 eWrite g2 (p0.writes.length + 3) (p0.writes ++ [mkW, mkW, mkW]), box b4 25 [.slice A1 p0.pages.length c1, .slice A2 p0.writes.length c2]]) [.slice x1 r1.1.pages.length m1, .slice y1 r1.1.writes.length n1] ?_)
 refine T.k (.int .i64 r1.2) (T.nil ?_)
 refine T.sr (T.l (.agg #[.slice g1 p0.pages.length (p0.pages.length + 3), .slice g2 p0.writes.length (p0.writes.length + 3)]) (ldN 3) ?_)
 refine T.step (W1.callG 7 #[.agg #[.slice g1 p0.pages.length (p0.pages.length + 3), .slice g2 p0.writes.length (p0.writes.length + 3)]] (fun p : Option Addr × Nat × Option Addr × Nat => .tuple #[.agg #[.slice p.1 r2.1.pages.length p.2.1, .slice p.2.2.1 r2.1.writes.length p.2.2.2], .int .i64 r2.2]) (fun p => [row 9 eStr p.1 p.2.1 r2.1.pages, row 29 eWrite p.2.2.1 p.2.2.2 r2.1.writes]) (fun _ => True) (by kernel_rfl) (fun _ => by kernel_rfl) (fun w' hh => disk_Sync_l F p0 r2 hb2 w' g1 _ (hh.row_slOk (i := 4) (by rfl)).pre g2 _ (hh.row_slOk (i := 5) (by rfl)).pre) ?_)
 rintro ⟨x2, m2, y2, n2⟩ _
 refine T.reH (H' := [row 9 eStr x2 m2 r2.1.pages, row 29 eWrite y2 n2 r2.1.writes, box b10 25 [.slice x1 r1.1.pages.length m1, .slice y1 r1.1.writes.length n1], row 9 eStr x1 m1 r1.1.pages, row 29 eWrite y1 n1 r1.1.writes, box b9 25 [.slice g1 p0.pages.length (p0.pages.length + 3), .slice g2 p0.writes.length (p0.writes.length + 3)], row 9 eStr g1 (p0.pages.length + 3) (p0.pages ++ [mkS, mkS, mkS]), row 29 eWrite g2 (p0.writes.length + 3) (p0.writes ++ [mkW, mkW, mkW]), box b4 25 [.slice A1 p0.pages.length c1, .slice A2 p0.writes.length c2]]) (by rfl) ?_
 refine T.k3 (.tuple #[.agg #[.slice x2 r2.1.pages.length m2, .slice y2 r2.1.writes.length n2], .int .i64 r2.2]) (.agg #[.slice x2 r2.1.pages.length m2, .slice y2 r2.1.writes.length n2]) (.int .i64 r2.2) ?_
 refine T.step (W1.np 25 [.slice none 0 0, .slice none 0 0] (fun b12 => ?_))
 refine T.step (W1.st 0 [.slice x2 r2.1.pages.length m2, .slice y2 r2.1.writes.length n2] ([box b12 25 [.slice x2 r2.1.pages.length m2, .slice y2 r2.1.writes.length n2], row 9 eStr x2 m2 r2.1.pages, row 29 eWrite y2 n2 r2.1.writes, box b10 25 [.slice x1 r1.1.pages.length m1, .slice y1 r1.1.writes.length n1], row 9 eStr x1 m1 r1.1.pages, row 29 eWrite y1 n1 r1.1.writes, box b9 25 [.slice g1 p0.pages.length (p0.pages.length + 3), .slice g2 p0.writes.length (p0.writes.length + 3)], row 9 eStr g1 (p0.pages.length + 3) (p0.pages ++ [mkS, mkS, mkS]), row 29 eWrite g2 (p0.writes.length + 3) (p0.writes ++ [mkW, mkW, mkW]), box b4 25 [.slice A1 p0.pages.length c1, .slice A2 p0.writes.length c2]]) [.slice x2 r2.1.pages.length m2, .slice y2 r2.1.writes.length n2] ?_)
 refine T.k (.int .i64 r2.2) (T.nil ?_)
 refine T.sr (T.l (.agg #[.slice g1 p0.pages.length (p0.pages.length + 3), .slice g2 p0.writes.length (p0.writes.length + 3)]) (ldN 6) ?_)
 refine T.step (W1.ns 4 [.bool true] (fun b49 => ?_))
 refine T.step (W1.callG 8 #[.agg #[.slice g1 p0.pages.length (p0.pages.length + 3), .slice g2 p0.writes.length (p0.writes.length + 3)], .slice (some ⟨b49, 0, none⟩) 1 1] (fun p : Option Addr × Nat × Option Addr × Nat => .tuple #[.agg #[.slice p.1 r3.1.pages.length p.2.1, .slice p.2.2.1 r3.1.writes.length p.2.2.2], .int .i64 r3.2]) (fun p => [row 9 eStr p.1 p.2.1 r3.1.pages, row 29 eWrite p.2.2.1 p.2.2.2 r3.1.writes]) (fun _ => True) (by kernel_rfl) (fun _ => by kernel_rfl) (fun w' hh => disk_Crash_l F p0 [true] r3 hb3 w' g1 _ (hh.row_slOk (i := 8) (by rfl)).pre g2 _ (hh.row_slOk (i := 9) (by rfl)).pre _ _ (slok_lit (E := eBool) (f := fun x => [.bool x]) [true] (fun _ _ => rfl) (Nat.le_of_ble_eq_true (by rfl)) (fun j => hh.cellBox (i := 0) (by rfl) j))) ?_)
 rintro ⟨x3, m3, y3, n3⟩ _
 refine T.reH (H' := [row 9 eStr x3 m3 r3.1.pages, row 29 eWrite y3 n3 r3.1.writes, box b49 4 [.bool true], box b12 25 [.slice x2 r2.1.pages.length m2, .slice y2 r2.1.writes.length n2], row 9 eStr x2 m2 r2.1.pages, row 29 eWrite y2 n2 r2.1.writes, box b10 25 [.slice x1 r1.1.pages.length m1, .slice y1 r1.1.writes.length n1], row 9 eStr x1 m1 r1.1.pages, row 29 eWrite y1 n1 r1.1.writes, box b9 25 [.slice g1 p0.pages.length (p0.pages.length + 3), .slice g2 p0.writes.length (p0.writes.length + 3)], row 9 eStr g1 (p0.pages.length + 3) (p0.pages ++ [mkS, mkS, mkS]), row 29 eWrite g2 (p0.writes.length + 3) (p0.writes ++ [mkW, mkW, mkW]), box b4 25 [.slice A1 p0.pages.length c1, .slice A2 p0.writes.length c2]]) (by rfl) ?_
 refine T.k3 (.tuple #[.agg #[.slice x3 r3.1.pages.length m3, .slice y3 r3.1.writes.length n3], .int .i64 r3.2]) (.agg #[.slice x3 r3.1.pages.length m3, .slice y3 r3.1.writes.length n3]) (.int .i64 r3.2) ?_
 refine T.step (W1.np 25 [.slice none 0 0, .slice none 0 0] (fun b14 => ?_))
 refine T.step (W1.st 0 [.slice x3 r3.1.pages.length m3, .slice y3 r3.1.writes.length n3] ([box b14 25 [.slice x3 r3.1.pages.length m3, .slice y3 r3.1.writes.length n3], row 9 eStr x3 m3 r3.1.pages, row 29 eWrite y3 n3 r3.1.writes, box b49 4 [.bool true], box b12 25 [.slice x2 r2.1.pages.length m2, .slice y2 r2.1.writes.length n2], row 9 eStr x2 m2 r2.1.pages, row 29 eWrite y2 n2 r2.1.writes, box b10 25 [.slice x1 r1.1.pages.length m1, .slice y1 r1.1.writes.length n1], row 9 eStr x1 m1 r1.1.pages, row 29 eWrite y1 n1 r1.1.writes, box b9 25 [.slice g1 p0.pages.length (p0.pages.length + 3), .slice g2 p0.writes.length (p0.writes.length + 3)], row 9 eStr g1 (p0.pages.length + 3) (p0.pages ++ [mkS, mkS, mkS]), row 29 eWrite g2 (p0.writes.length + 3) (p0.writes ++ [mkW, mkW, mkW]), box b4 25 [.slice A1 p0.pages.length c1, .slice A2 p0.writes.length c2]]) [.slice x3 r3.1.pages.length m3, .slice y3 r3.1.writes.length n3] ?_)
 refine T.k (.int .i64 r3.2) (T.nil ?_)
 refine T.sr (T.l (.agg #[.slice g1 p0.pages.length (p0.pages.length + 3), .slice g2 p0.writes.length (p0.writes.length + 3)]) (ldN 10) ?_)
 refine T.step (W1.callG 9 #[.agg #[.slice g1 p0.pages.length (p0.pages.length + 3), .slice g2 p0.writes.length (p0.writes.length + 3)]] (fun p : Option Addr × Nat × Option Addr × Nat => .tuple #[.agg #[.slice p.1 r4.1.pages.length p.2.1, .slice p.2.2.1 r4.1.writes.length p.2.2.2], .int .i64 r4.2]) (fun p => [row 9 eStr p.1 p.2.1 r4.1.pages, row 29 eWrite p.2.2.1 p.2.2.2 r4.1.writes]) (fun _ => True) (by kernel_rfl) (fun _ => by kernel_rfl) (fun w' hh => undo_Recover_l F p0 r4 hb4 w' g1 _ (hh.row_slOk (i := 11) (by rfl)).pre g2 _ (hh.row_slOk (i := 12) (by rfl)).pre) ?_)
 rintro ⟨x4, m4, y4, n4⟩ _
 refine T.reH (H' := [row 9 eStr x4 m4 r4.1.pages, row 29 eWrite y4 n4 r4.1.writes, box b14 25 [.slice x3 r3.1.pages.length m3, .slice y3 r3.1.writes.length n3], row 9 eStr x3 m3 r3.1.pages, row 29 eWrite y3 n3 r3.1.writes, box b49 4 [.bool true], box b12 25 [.slice x2 r2.1.pages.length m2, .slice y2 r2.1.writes.length n2], row 9 eStr x2 m2 r2.1.pages, row 29 eWrite y2 n2 r2.1.writes, box b10 25 [.slice x1 r1.1.pages.length m1, .slice y1 r1.1.writes.length n1], row 9 eStr x1 m1 r1.1.pages, row 29 eWrite y1 n1 r1.1.writes, box b9 25 [.slice g1 p0.pages.length (p0.pages.length + 3), .slice g2 p0.writes.length (p0.writes.length + 3)], row 9 eStr g1 (p0.pages.length + 3) (p0.pages ++ [mkS, mkS, mkS]), row 29 eWrite g2 (p0.writes.length + 3) (p0.writes ++ [mkW, mkW, mkW]), box b4 25 [.slice A1 p0.pages.length c1, .slice A2 p0.writes.length c2]]) (by rfl) ?_
 refine T.k3 (.tuple #[.agg #[.slice x4 r4.1.pages.length m4, .slice y4 r4.1.writes.length n4], .int .i64 r4.2]) (.agg #[.slice x4 r4.1.pages.length m4, .slice y4 r4.1.writes.length n4]) (.int .i64 r4.2) ?_
 refine T.step (W1.np 25 [.slice none 0 0, .slice none 0 0] (fun b16 => ?_))
 refine T.step (W1.st 0 [.slice x4 r4.1.pages.length m4, .slice y4 r4.1.writes.length n4] ([box b16 25 [.slice x4 r4.1.pages.length m4, .slice y4 r4.1.writes.length n4], row 9 eStr x4 m4 r4.1.pages, row 29 eWrite y4 n4 r4.1.writes, box b14 25 [.slice x3 r3.1.pages.length m3, .slice y3 r3.1.writes.length n3], row 9 eStr x3 m3 r3.1.pages, row 29 eWrite y3 n3 r3.1.writes, box b49 4 [.bool true], box b12 25 [.slice x2 r2.1.pages.length m2, .slice y2 r2.1.writes.length n2], row 9 eStr x2 m2 r2.1.pages, row 29 eWrite y2 n2 r2.1.writes, box b10 25 [.slice x1 r1.1.pages.length m1, .slice y1 r1.1.writes.length n1], row 9 eStr x1 m1 r1.1.pages, row 29 eWrite y1 n1 r1.1.writes, box b9 25 [.slice g1 p0.pages.length (p0.pages.length + 3), .slice g2 p0.writes.length (p0.writes.length + 3)], row 9 eStr g1 (p0.pages.length + 3) (p0.pages ++ [mkS, mkS, mkS]), row 29 eWrite g2 (p0.writes.length + 3) (p0.writes ++ [mkW, mkW, mkW]), box b4 25 [.slice A1 p0.pages.length c1, .slice A2 p0.writes.length c2]]) [.slice x4 r4.1.pages.length m4, .slice y4 r4.1.writes.length n4] ?_)
 refine T.k (.int .i64 r4.2) (T.nil ?_)
 refine T.sr (T.l (.agg #[.slice g1 p0.pages.length (p0.pages.length + 3), .slice g2 p0.writes.length (p0.writes.length + 3)]) (ldN 13) ?_)
 refine T.k2 (.string p2) (.slice A3 p3.length c3) ?_
 refine T.step (W1.callG 10 #[.agg #[.slice g1 p0.pages.length (p0.pages.length + 3), .slice g2 p0.writes.length (p0.writes.length + 3)], .string p2, .slice A3 p3.length c3] (fun p : Option Addr × Nat × List DDH => .tuple #[.slice p.1 p.2.2.length p.2.1, .int .i64 r5.2]) (fun p => [row 25 eDDH p.1 p.2.1 p.2.2, diskso p.2.2 r5.1]) (fun p => p.2.2.length = r5.1.length) (by kernel_rfl) (fun _ => by kernel_rfl) (fun w' hh => undo_Steps_o F p0 p2 p3 r5 hb5 w' g1 _ (hh.row_slOk (i := 14) (by rfl)).pre g2 _ (hh.row_slOk (i := 15) (by rfl)).pre A3 c3 (SlOk.mono hs3 hh.view)) ?_)
 rintro ⟨A5, c5, hs⟩ hlen
 dsimp only at hlen
 refine T.reH (H' := [row 25 eDDH A5 c5 hs, diskso hs r5.1, box b16 25 [.slice x4 r4.1.pages.length m4, .slice y4 r4.1.writes.length n4], row 9 eStr x4 m4 r4.1.pages, row 29 eWrite y4 n4 r4.1.writes, box b14 25 [.slice x3 r3.1.pages.length m3, .slice y3 r3.1.writes.length n3], row 9 eStr x3 m3 r3.1.pages, row 29 eWrite y3 n3 r3.1.writes, box b49 4 [.bool true], box b12 25 [.slice x2 r2.1.pages.length m2, .slice y2 r2.1.writes.length n2], row 9 eStr x2 m2 r2.1.pages, row 29 eWrite y2 n2 r2.1.writes, box b10 25 [.slice x1 r1.1.pages.length m1, .slice y1 r1.1.writes.length n1], row 9 eStr x1 m1 r1.1.pages, row 29 eWrite y1 n1 r1.1.writes, box b9 25 [.slice g1 p0.pages.length (p0.pages.length + 3), .slice g2 p0.writes.length (p0.writes.length + 3)], row 9 eStr g1 (p0.pages.length + 3) (p0.pages ++ [mkS, mkS, mkS]), row 29 eWrite g2 (p0.writes.length + 3) (p0.writes ++ [mkW, mkW, mkW]), box b4 25 [.slice A1 p0.pages.length c1, .slice A2 p0.writes.length c2]]) (by rfl) ?_
 refine T.k5 (.tuple #[.slice A5 hs.length c5, .int .i64 r5.2]) (.slice A5 hs.length c5) (.int .i64 r5.2) (.slice A5 hs.length c5) (.int .i64 r5.2) (T.nil ?_)
 refine T.seq ?_
 refine T.sr (T.l (.agg #[.slice g1 p0.pages.length (p0.pages.length + 3), .slice g2 p0.writes.length (p0.writes.length + 3)]) (ldN 15) ?_)
 refine T.l (.agg #[.slice A1 p0.pages.length c1, .slice A2 p0.writes.length c2]) (ldN 18) ?_
 refine T.step (W1.cs (vSc eBool) true 11 #[.agg #[.slice g1 p0.pages.length (p0.pages.length + 3), .slice g2 p0.writes.length (p0.writes.length + 3)], .agg #[.slice A1 p0.pages.length c1, .slice A2 p0.writes.length c2]] (.bool true) (fun V u hu => sureBool V u _ hu) (fun w' hh => annalref_SameDisk_l F p0 p0 true hsame w' g1 _ (hh.row_slOk (i := 16) (by rfl)).pre g2 _ (hh.row_slOk (i := 17) (by rfl)).pre A1 c1 (SlOk.mono hs1 hh.view) A2 c2 (SlOk.mono hs2 hh.view)) ?_)
 refine T.k2 (.bool false) (.bool false) ?_
 refine T.k (.pointer (some ⟨b9, 0, none⟩)) ?_
 refine T.l (.slice g1 p0.pages.length (p0.pages.length + 3)) (ld1 15) ?_
 refine T.k (.pointer (some ⟨b9, 0, none⟩)) ?_
 refine T.l (.slice g1 p0.pages.length (p0.pages.length + 3)) (ld1 15) ?_
 refine T.k2 (vi (p0.pages.length : Int)) (.pointer (some ⟨b9, 0, none⟩)) ?_
 refine T.l (.slice g1 p0.pages.length (p0.pages.length + 3)) (ld1 15) ?_
 refine T.k (vi ((p0.pages.length + 3 : Nat) : Int)) ?_
 refine T.l (.slice (cutA g1 (p0.pages.length + 3) p0.pages.length 1) (p0.pages.length + 3 - p0.pages.length) (p0.pages.length + 3 - p0.pages.length)) (fun w' hh => exec_slice_cap (e := 9) (s := 1) (lx := some _) (hx := some _) (lo := (p0.pages.length : Int)) (hi := ((p0.pages.length + 3 : Nat) : Int)) (k := .i64) (k' := .i64) rfl rfl (by kernel_rfl) (by kernel_rfl) rfl rfl (by omega) (by omega) (by omega)) ?_
 refine T.reslot 78 (.slice (cutA g1 (p0.pages.length + 3) p0.pages.length 1) 3 3) rfl (by rw [show p0.pages.length + 3 - p0.pages.length = 3 by omega]) ?_
 refine T.step (W1.callI 12 [.slice (cutA g1 (p0.pages.length + 3) p0.pages.length 1) 3 3, .func (.func 13) #[] #[]] (fun v w' => v = .bool false ∧ Hp w (vw w) [row 25 eDDH A5 c5 hs, diskso hs r5.1, box b16 25 [.slice x4 r4.1.pages.length m4, .slice y4 r4.1.writes.length n4], row 9 eStr x4 m4 r4.1.pages, row 29 eWrite y4 n4 r4.1.writes, box b14 25 [.slice x3 r3.1.pages.length m3, .slice y3 r3.1.writes.length n3], row 9 eStr x3 m3 r3.1.pages, row 29 eWrite y3 n3 r3.1.writes, box b49 4 [.bool true], box b12 25 [.slice x2 r2.1.pages.length m2, .slice y2 r2.1.writes.length n2], row 9 eStr x2 m2 r2.1.pages, row 29 eWrite y2 n2 r2.1.writes, box b10 25 [.slice x1 r1.1.pages.length m1, .slice y1 r1.1.writes.length n1], row 9 eStr x1 m1 r1.1.pages, row 29 eWrite y1 n1 r1.1.writes, box b9 25 [.slice g1 p0.pages.length (p0.pages.length + 3), .slice g2 p0.writes.length (p0.writes.length + 3)], row 9 eStr g1 (p0.pages.length + 3) (p0.pages ++ [mkS, mkS, mkS]), row 29 eWrite g2 (p0.writes.length + 3) (p0.writes ++ [mkW, mkW, mkW]), box b4 25 [.slice A1 p0.pages.length c1, .slice A2 p0.writes.length c2]] w') (by kernel_rfl) (fun _ => by kernel_rfl) (fun w' hh => contains_str (fun w'' h => (h.row_slOk (i := 16) (by rfl)).tail3) hh) ?_)
 rintro v w' ⟨rfl, hh⟩
 refine ⟨(vw w), [row 25 eDDH A5 c5 hs, diskso hs r5.1, box b16 25 [.slice x4 r4.1.pages.length m4, .slice y4 r4.1.writes.length n4], row 9 eStr x4 m4 r4.1.pages, row 29 eWrite y4 n4 r4.1.writes, box b14 25 [.slice x3 r3.1.pages.length m3, .slice y3 r3.1.writes.length n3], row 9 eStr x3 m3 r3.1.pages, row 29 eWrite y3 n3 r3.1.writes, box b49 4 [.bool true], box b12 25 [.slice x2 r2.1.pages.length m2, .slice y2 r2.1.writes.length n2], row 9 eStr x2 m2 r2.1.pages, row 29 eWrite y2 n2 r2.1.writes, box b10 25 [.slice x1 r1.1.pages.length m1, .slice y1 r1.1.writes.length n1], row 9 eStr x1 m1 r1.1.pages, row 29 eWrite y1 n1 r1.1.writes, box b9 25 [.slice g1 p0.pages.length (p0.pages.length + 3), .slice g2 p0.writes.length (p0.writes.length + 3)], row 9 eStr g1 (p0.pages.length + 3) (p0.pages ++ [mkS, mkS, mkS]), row 29 eWrite g2 (p0.writes.length + 3) (p0.writes ++ [mkW, mkW, mkW]), box b4 25 [.slice A1 p0.pages.length c1, .slice A2 p0.writes.length c2]], hh, ?_⟩
 clear hh
 refine T.k2 (.bool false) (.bool false) ?_
 refine T.k (.pointer (some ⟨b9, 1, none⟩)) ?_
 refine T.l (.slice g2 p0.writes.length (p0.writes.length + 3)) (ld1 15) ?_
 refine T.k (.pointer (some ⟨b9, 1, none⟩)) ?_
 refine T.l (.slice g2 p0.writes.length (p0.writes.length + 3)) (ld1 15) ?_
 refine T.k2 (vi (p0.writes.length : Int)) (.pointer (some ⟨b9, 1, none⟩)) ?_
 refine T.l (.slice g2 p0.writes.length (p0.writes.length + 3)) (ld1 15) ?_
 refine T.k (vi ((p0.writes.length + 3 : Nat) : Int)) ?_
 refine T.l (.slice (cutA g2 (p0.writes.length + 3) p0.writes.length 2) (p0.writes.length + 3 - p0.writes.length) (p0.writes.length + 3 - p0.writes.length)) (fun w' hh => exec_slice_cap (e := 29) (s := 2) (lx := some _) (hx := some _) (lo := (p0.writes.length : Int)) (hi := ((p0.writes.length + 3 : Nat) : Int)) (k := .i64) (k' := .i64) rfl rfl (by kernel_rfl) (by kernel_rfl) rfl rfl (by omega) (by omega) (by omega)) ?_
 refine T.reslot 90 (.slice (cutA g2 (p0.writes.length + 3) p0.writes.length 2) 3 3) rfl (by rw [show p0.writes.length + 3 - p0.writes.length = 3 by omega]) ?_
 refine T.step (W1.callI 14 [.slice (cutA g2 (p0.writes.length + 3) p0.writes.length 2) 3 3, .func (.func 15) #[] #[]] (fun v w' => v = .bool false ∧ Hp w (vw w) [row 25 eDDH A5 c5 hs, diskso hs r5.1, box b16 25 [.slice x4 r4.1.pages.length m4, .slice y4 r4.1.writes.length n4], row 9 eStr x4 m4 r4.1.pages, row 29 eWrite y4 n4 r4.1.writes, box b14 25 [.slice x3 r3.1.pages.length m3, .slice y3 r3.1.writes.length n3], row 9 eStr x3 m3 r3.1.pages, row 29 eWrite y3 n3 r3.1.writes, box b49 4 [.bool true], box b12 25 [.slice x2 r2.1.pages.length m2, .slice y2 r2.1.writes.length n2], row 9 eStr x2 m2 r2.1.pages, row 29 eWrite y2 n2 r2.1.writes, box b10 25 [.slice x1 r1.1.pages.length m1, .slice y1 r1.1.writes.length n1], row 9 eStr x1 m1 r1.1.pages, row 29 eWrite y1 n1 r1.1.writes, box b9 25 [.slice g1 p0.pages.length (p0.pages.length + 3), .slice g2 p0.writes.length (p0.writes.length + 3)], row 9 eStr g1 (p0.pages.length + 3) (p0.pages ++ [mkS, mkS, mkS]), row 29 eWrite g2 (p0.writes.length + 3) (p0.writes ++ [mkW, mkW, mkW]), box b4 25 [.slice A1 p0.pages.length c1, .slice A2 p0.writes.length c2]] w') (by kernel_rfl) (fun _ => by kernel_rfl) (fun w' hh => contains_Write (fun w'' h => (h.row_slOk (i := 17) (by rfl)).tail3) hh) ?_)
 rintro v w' ⟨rfl, hh⟩
 refine ⟨(vw w), [row 25 eDDH A5 c5 hs, diskso hs r5.1, box b16 25 [.slice x4 r4.1.pages.length m4, .slice y4 r4.1.writes.length n4], row 9 eStr x4 m4 r4.1.pages, row 29 eWrite y4 n4 r4.1.writes, box b14 25 [.slice x3 r3.1.pages.length m3, .slice y3 r3.1.writes.length n3], row 9 eStr x3 m3 r3.1.pages, row 29 eWrite y3 n3 r3.1.writes, box b49 4 [.bool true], box b12 25 [.slice x2 r2.1.pages.length m2, .slice y2 r2.1.writes.length n2], row 9 eStr x2 m2 r2.1.pages, row 29 eWrite y2 n2 r2.1.writes, box b10 25 [.slice x1 r1.1.pages.length m1, .slice y1 r1.1.writes.length n1], row 9 eStr x1 m1 r1.1.pages, row 29 eWrite y1 n1 r1.1.writes, box b9 25 [.slice g1 p0.pages.length (p0.pages.length + 3), .slice g2 p0.writes.length (p0.writes.length + 3)], row 9 eStr g1 (p0.pages.length + 3) (p0.pages ++ [mkS, mkS, mkS]), row 29 eWrite g2 (p0.writes.length + 3) (p0.writes ++ [mkW, mkW, mkW]), box b4 25 [.slice A1 p0.pages.length c1, .slice A2 p0.writes.length c2]], hh, ?_⟩
 clear hh
 refine T.k (.bool false) (T.nil ?_)
 refine T.cond false (by kernel_rfl) (by kernel_rfl) (fun h => Bool.noConfusion h) (fun _ => ?_)
 refine T.skip_code ?_
 refine T.seq ?_
 refine T.mid (fun a w' => ∃ (A6 : Option Addr) (c6 : Nat) (AH : List DDH), Fr 163 [(8, .bool false), (9, (.pointer (some ⟨b9, 0, none⟩))), (18, .slice A6 AH.length c6)] a ∧ Hp w (vw w) [row 25 eDDH A6 c6 AH, diskso AH (r1.1 :: r2.1 :: r3.1 :: r4.1 :: r5.1.take 9), box b9 25 [.slice g1 p0.pages.length (p0.pages.length + 3), .slice g2 p0.writes.length (p0.writes.length + 3)], row 9 eStr g1 (p0.pages.length + 3) (p0.pages ++ [mkS, mkS, mkS]), row 29 eWrite g2 (p0.writes.length + 3) (p0.writes ++ [mkW, mkW, mkW])] w') ?_ ?_
 ·
  refine T.held [box b10 25 [.slice x1 r1.1.pages.length m1, .slice y1 r1.1.writes.length n1], box b12 25 [.slice x2 r2.1.pages.length m2, .slice y2 r2.1.writes.length n2], box b14 25 [.slice x3 r3.1.pages.length m3, .slice y3 r3.1.writes.length n3], box b16 25 [.slice x4 r4.1.pages.length m4, .slice y4 r4.1.writes.length n4]] (by kernel_rfl) ?_
  refine TA.tk 0 (.agg #[.slice x1 r1.1.pages.length m1, .slice y1 r1.1.writes.length n1]) rfl (fun _ hh => hh.ix 60 [12, 9, 5, 2]) (ldN 0) ?_
  refine TA.tk 1 (.agg #[.slice x2 r2.1.pages.length m2, .slice y2 r2.1.writes.length n2]) rfl (fun _ hh => hh.ix 60 [12, 9, 5, 2]) (ldN 1) ?_
  refine TA.tk 2 (.agg #[.slice x3 r3.1.pages.length m3, .slice y3 r3.1.writes.length n3]) rfl (fun _ hh => hh.ix 60 [12, 9, 5, 2]) (ldN 2) ?_
  refine TA.tk 3 (.agg #[.slice x4 r4.1.pages.length m4, .slice y4 r4.1.writes.length n4]) rfl (fun _ hh => hh.ix 60 [12, 9, 5, 2]) (ldN 3) ?_
  refine TA.tp 5 (.slice A5 hs.length c5) rfl (fun _ hh => hh.ix 60 [12, 9, 5, 2]) ?_
  refine TA.tp 6 (.slice A5 hs.length c5) rfl (fun _ hh => hh.ix 60 [12, 9, 5, 2]) ?_
  refine TA.tp 7 (vi (hs.length : Int)) rfl (fun _ hh => hh.ix 60 [12, 9, 5, 2]) ?_
  refine TA.tp 8 (vi (if (9 : Int) < (hs.length : Int) then 9 else (hs.length : Int))) rfl (fun _ hh => hh.ix 60 [12, 9, 5, 2]) ?_
  refine T.reslot 101 (vi ((min hs.length 9 : Nat) : Int)) rfl (by show Value.int .i64 _ = Value.int .i64 _; congr 1; split <;> omega) ?_
  refine T.rowlen 0 (by rfl) (fun hlc hcm => ?_)
  refine TA.tk 9 (.slice (cutA A5 c5 0 2) (min hs.length 9) c5) rfl (fun _ hh => hh.ix 60 [12, 9, 5, 2]) (fun w' hh => exec_slice_cap (e := 25) (s := 2) (lx := none) (hx := some _) (lo := 0) (hi := ((min hs.length 9 : Nat) : Int)) (k := .i64) (k' := .i64) rfl rfl (by kernel_rfl) (by kernel_rfl) rfl rfl (by omega) (by omega) (by omega)) ?_
  refine T.reslot 102 (.slice A5 (hs.take (min hs.length 9)).length c5) rfl (by rw [cutA_zero, List.length_take]; congr 1; omega) ?_
  refine TA.j 4 rfl (W1.nw 25 [.slice x1 r1.1.pages.length m1, .slice y1 r1.1.writes.length n1, .slice x2 r2.1.pages.length m2, .slice y2 r2.1.writes.length n2, .slice x3 r3.1.pages.length m3, .slice y3 r3.1.writes.length n3, .slice x4 r4.1.pages.length m4, .slice y4 r4.1.writes.length n4] (fun b => .slice (some ⟨b, 0, none⟩) 4 4) (fun b97 => ?_))
  refine TA.on (fun _ hh => hh.ix 60 [13, 10, 6, 3]) ?_
  refine T.litrow (E := eDDH) (f := DDH.cells) (l := [DDH.mk x1 r1.1.pages.length m1 y1 r1.1.writes.length n1, DDH.mk x2 r2.1.pages.length m2 y2 r2.1.writes.length n2, DDH.mk x3 r3.1.pages.length m3 y3 r3.1.writes.length n3, DDH.mk x4 r4.1.pages.length m4 y4 r4.1.writes.length n4]) 0 [row 25 eDDH (some ⟨b97, 0, none⟩) 4 [DDH.mk x1 r1.1.pages.length m1 y1 r1.1.writes.length n1, DDH.mk x2 r2.1.pages.length m2 y2 r2.1.writes.length n2, DDH.mk x3 r3.1.pages.length m3 y3 r3.1.writes.length n3, DDH.mk x4 r4.1.pages.length m4 y4 r4.1.writes.length n4], row 25 eDDH A5 c5 hs, diskso hs r5.1, box b16 25 [.slice x4 r4.1.pages.length m4, .slice y4 r4.1.writes.length n4], row 9 eStr x4 m4 r4.1.pages, row 29 eWrite y4 n4 r4.1.writes, box b14 25 [.slice x3 r3.1.pages.length m3, .slice y3 r3.1.writes.length n3], row 9 eStr x3 m3 r3.1.pages, row 29 eWrite y3 n3 r3.1.writes, box b49 4 [.bool true], box b12 25 [.slice x2 r2.1.pages.length m2, .slice y2 r2.1.writes.length n2], row 9 eStr x2 m2 r2.1.pages, row 29 eWrite y2 n2 r2.1.writes, box b10 25 [.slice x1 r1.1.pages.length m1, .slice y1 r1.1.writes.length n1], row 9 eStr x1 m1 r1.1.pages, row 29 eWrite y1 n1 r1.1.writes, box b9 25 [.slice g1 p0.pages.length (p0.pages.length + 3), .slice g2 p0.writes.length (p0.writes.length + 3)], row 9 eStr g1 (p0.pages.length + 3) (p0.pages ++ [mkS, mkS, mkS]), row 29 eWrite g2 (p0.writes.length + 3) (p0.writes ++ [mkW, mkW, mkW]), box b4 25 [.slice A1 p0.pages.length c1, .slice A2 p0.writes.length c2]] (by rfl) (fun _ _ => rfl) (by show 0 < 4; decide) (by show 4 ≤ maxLen; unfold maxLen; omega) (by rfl) ?_
  refine TA.j 10 rfl (W1.a (E := eDDH) (l := [DDH.mk x1 r1.1.pages.length m1 y1 r1.1.writes.length n1, DDH.mk x2 r2.1.pages.length m2 y2 r2.1.writes.length n2, DDH.mk x3 r3.1.pages.length m3 y3 r3.1.writes.length n3, DDH.mk x4 r4.1.pages.length m4 y4 r4.1.writes.length n4]) (m := hs.take (min hs.length 9)) 0 48 (info_parts (P := Try.prog) (e := 25) (z := .agg #[.slice none 0 0, .slice none 0 0]) (size := 2) (bytes := 48) (by kernel_rfl)) (fun w' hh => SlOk.sF (SlOk.pre (m := hs.drop (min hs.length 9)) (by rw [List.take_append_drop]; exact hh.row_slOk (i := 1) (by rfl)))) (decide_eq_true (by rw [List.length_take]; show (4 + _) * 48 ≤ _; omega)) (by rw [List.length_take]; show 4 + _ ≤ _; unfold maxLen; omega) (fun A6 c6 => ?_))
  refine T.reH (H' := [row 25 eDDH A6 c6 ([DDH.mk x1 r1.1.pages.length m1 y1 r1.1.writes.length n1, DDH.mk x2 r2.1.pages.length m2 y2 r2.1.writes.length n2, DDH.mk x3 r3.1.pages.length m3 y3 r3.1.writes.length n3, DDH.mk x4 r4.1.pages.length m4 y4 r4.1.writes.length n4] ++ hs.take (min hs.length 9)), row 25 eDDH A5 c5 hs, diskso hs r5.1, box b16 25 [.slice x4 r4.1.pages.length m4, .slice y4 r4.1.writes.length n4], row 9 eStr x4 m4 r4.1.pages, row 29 eWrite y4 n4 r4.1.writes, box b14 25 [.slice x3 r3.1.pages.length m3, .slice y3 r3.1.writes.length n3], row 9 eStr x3 m3 r3.1.pages, row 29 eWrite y3 n3 r3.1.writes, box b49 4 [.bool true], box b12 25 [.slice x2 r2.1.pages.length m2, .slice y2 r2.1.writes.length n2], row 9 eStr x2 m2 r2.1.pages, row 29 eWrite y2 n2 r2.1.writes, box b10 25 [.slice x1 r1.1.pages.length m1, .slice y1 r1.1.writes.length n1], row 9 eStr x1 m1 r1.1.pages, row 29 eWrite y1 n1 r1.1.writes, box b9 25 [.slice g1 p0.pages.length (p0.pages.length + 3), .slice g2 p0.writes.length (p0.writes.length + 3)], row 9 eStr g1 (p0.pages.length + 3) (p0.pages ++ [mkS, mkS, mkS]), row 29 eWrite g2 (p0.writes.length + 3) (p0.writes ++ [mkW, mkW, mkW]), box b4 25 [.slice A1 p0.pages.length c1, .slice A2 p0.writes.length c2]]) (by rfl) ?_
  refine TA.on (fun _ hh => hh.ix 60 [13, 10, 6, 3]) ?_
  refine TA.tp 11 (.slice A6 ([DDH.mk x1 r1.1.pages.length m1 y1 r1.1.writes.length n1, DDH.mk x2 r2.1.pages.length m2 y2 r2.1.writes.length n2, DDH.mk x3 r3.1.pages.length m3 y3 r3.1.writes.length n3, DDH.mk x4 r4.1.pages.length m4 y4 r4.1.writes.length n4] ++ hs.take (min hs.length 9)).length c6) rfl (fun _ hh => hh.ix 60 [13, 10, 6, 3]) ?_
  refine TA.d ?_
  intro a w' hf hh
  have q0 := Hp.consD (h := DDH.mk x4 r4.1.pages.length m4 y4 r4.1.writes.length n4) ⟨rfl, rfl⟩ (hh.ix 60 [4, 5, 2, 7, 8, 11, 12, 14, 15, 0, 16, 17, 18])
  have q1 := Hp.consD (h := DDH.mk x3 r3.1.pages.length m3 y3 r3.1.writes.length n3) ⟨rfl, rfl⟩ (q0.ix 60 [1, 2, 0, 3, 4, 5, 6, 7, 8, 9, 10])
  have q2 := Hp.consD (h := DDH.mk x2 r2.1.pages.length m2 y2 r2.1.writes.length n2) ⟨rfl, rfl⟩ (q1.ix 60 [1, 2, 0, 3, 4, 5, 6, 7, 8])
  have q3 := Hp.consD (h := DDH.mk x1 r1.1.pages.length m1 y1 r1.1.writes.length n1) ⟨rfl, rfl⟩ (q2.ix 60 [1, 2, 0, 3, 4, 5, 6])
  have q4 := Hp.takeD q3 (4 + 9)
  have hta : ([DDH.mk x1 r1.1.pages.length m1 y1 r1.1.writes.length n1, DDH.mk x2 r2.1.pages.length m2 y2 r2.1.writes.length n2, DDH.mk x3 r3.1.pages.length m3 y3 r3.1.writes.length n3, DDH.mk x4 r4.1.pages.length m4 y4 r4.1.writes.length n4] ++ hs.take (min hs.length 9)) = ((DDH.mk x1 r1.1.pages.length m1 y1 r1.1.writes.length n1) :: (DDH.mk x2 r2.1.pages.length m2 y2 r2.1.writes.length n2) :: (DDH.mk x3 r3.1.pages.length m3 y3 r3.1.writes.length n3) :: (DDH.mk x4 r4.1.pages.length m4 y4 r4.1.writes.length n4) :: hs).take (4 + 9) := by
    show _ = (DDH.mk x1 r1.1.pages.length m1 y1 r1.1.writes.length n1) :: (DDH.mk x2 r2.1.pages.length m2 y2 r2.1.writes.length n2) :: (DDH.mk x3 r3.1.pages.length m3 y3 r3.1.writes.length n3) :: (DDH.mk x4 r4.1.pages.length m4 y4 r4.1.writes.length n4) :: hs.take 9
    rw [show hs.take (min hs.length 9) = hs.take 9 by rcases Nat.le_total hs.length 9 with h | h <;> simp [Nat.min_eq_left, Nat.min_eq_right, h, List.take_of_length_le]]; rfl
  refine ⟨A6, c6, ((DDH.mk x1 r1.1.pages.length m1 y1 r1.1.writes.length n1) :: (DDH.mk x2 r2.1.pages.length m2 y2 r2.1.writes.length n2) :: (DDH.mk x3 r3.1.pages.length m3 y3 r3.1.writes.length n3) :: (DDH.mk x4 r4.1.pages.length m4 y4 r4.1.writes.length n4) :: hs).take (4 + 9), ?_, ?_⟩
  · rw [← hta]; exact Fr.s hf
  · have q5 := q4.ix 60 [1, 0, 2, 3, 4]
    rw [← hta] at q5 ⊢; exact q5
 rintro a w' ⟨A6, c6, AH, hf, hh⟩
 refine (?_ : T 163 w (vw w) [row 25 eDDH A6 c6 AH, diskso AH (r1.1 :: r2.1 :: r3.1 :: r4.1 :: r5.1.take 9), box b9 25 [.slice g1 p0.pages.length (p0.pages.length + 3), .slice g2 p0.writes.length (p0.writes.length + 3)], row 9 eStr g1 (p0.pages.length + 3) (p0.pages ++ [mkS, mkS, mkS]), row 29 eWrite g2 (p0.writes.length + 3) (p0.writes ++ [mkW, mkW, mkW])] [(8, .bool false), (9, (.pointer (some ⟨b9, 0, none⟩))), (18, .slice A6 AH.length c6)] _) a w' hf hh
 clear hf hh
 generalize hAD : (r1.1 :: r2.1 :: r3.1 :: r4.1 :: r5.1.take 9) = AD at *
 have hn : AD.length ≤ 13 := by rw [← hAD]; simp only [List.length_cons, List.length_take]; omega
 refine T.lenD 1 (by rfl) (fun hAL => ?_)
 refine T.sr (T.k (.slice none 0 0) (T.nil ?_))
 refine T.seq ?_
 refine T.sr (T.k3 (.slice A6 AH.length c6) (vi (AH.length : Int)) (vi 0) (T.nil ?_))
 refine T.mid (fun a w' => ∃ (B : Option Addr) (bc : Nat) (gs : List DDH), Fr 163 [(8, .bool false), (9, (.pointer (some ⟨b9, 0, none⟩))), (18, .slice A6 AH.length c6), (20, .slice B gs.length bc)] a ∧ Hp w (vw w) [row 25 eDDH A6 c6 AH, diskso AH AD, row 25 eDDH B bc gs, diskso gs AD, box b9 25 [.slice g1 p0.pages.length (p0.pages.length + 3), .slice g2 p0.writes.length (p0.writes.length + 3)], row 9 eStr g1 (p0.pages.length + 3) (p0.pages ++ [mkS, mkS, mkS]), row 29 eWrite g2 (p0.writes.length + 3) (p0.writes ++ [mkW, mkW, mkW])] w') ?_ ?_
 ·
  refine T.block ?_
  refine T.loopN AH.length (fun k a w' => ∃ (B : Option Addr) (bc : Nat) (gs : List DDH), Fr 163 [(8, .bool false), (9, (.pointer (some ⟨b9, 0, none⟩))), (18, .slice A6 AH.length c6), (20, .slice B gs.length bc), (104, .slice A6 AH.length c6), (105, vi (AH.length : Int)), (106, vi (k : Int))] a ∧ Hp w (vw w) [row 25 eDDH A6 c6 AH, diskso AH AD, row 25 eDDH B bc gs, diskso gs (AD.take k), box b9 25 [.slice g1 p0.pages.length (p0.pages.length + 3), .slice g2 p0.writes.length (p0.writes.length + 3)], row 9 eStr g1 (p0.pages.length + 3) (p0.pages ++ [mkS, mkS, mkS]), row 29 eWrite g2 (p0.writes.length + 3) (p0.writes ++ [mkW, mkW, mkW])] w') ?_ ?_ ?_
  · exact fun a w' hf hh => ⟨none, 0, [], Fr.s hf, (Hp.nilRow (Hp.nilD hh)).ix 60 [2, 3, 0, 1, 4, 5, 6]⟩
  ·
   rintro k hk a w' ⟨B, bc, gs, hf, hh⟩
   refine (?_ : T 163 w (vw w) [row 25 eDDH A6 c6 AH, diskso AH AD, row 25 eDDH B bc gs, diskso gs (AD.take k), box b9 25 [.slice g1 p0.pages.length (p0.pages.length + 3), .slice g2 p0.writes.length (p0.writes.length + 3)], row 9 eStr g1 (p0.pages.length + 3) (p0.pages ++ [mkS, mkS, mkS]), row 29 eWrite g2 (p0.writes.length + 3) (p0.writes ++ [mkW, mkW, mkW])] [(8, .bool false), (9, (.pointer (some ⟨b9, 0, none⟩))), (18, .slice A6 AH.length c6), (20, .slice B gs.length bc), (104, .slice A6 AH.length c6), (105, vi (AH.length : Int)), (106, vi (k : Int))] _) a w' hf hh
   clear hf hh
   obtain ⟨h, hh1⟩ : ∃ h, AH[k]? = some h := ⟨_, List.getElem?_eq_getElem hk⟩
   obtain ⟨d, hd⟩ : ∃ d, AD[k]? = some d := ⟨_, List.getElem?_eq_getElem (by omega)⟩
   obtain ⟨fd1, fd2, fd3⟩ := fits_parts (all_at hall hd)
   refine T.fitD 1 (by rfl) hh1 hd (fun hft => ?_)
   obtain ⟨h1, m1, y1, h2, m2, y2⟩ := h
   obtain ⟨f1, f2⟩ := hft
   dsimp only at f1 f2
   subst f1 f2
   refine T.lenD 3 (by rfl) (fun hgl => ?_)
   rw [List.length_take, Nat.min_eq_left (by omega)] at hgl
   refine T.sr (T.k (.bool (decide ((k : Int) < (AH.length : Int)))) (T.nil ?_))
   refine T.seq (T.cb (decide ((k : Int) < (AH.length : Int))) (fun hc => ?_) (fun hc => absurd (of_decide_eq_false hc) (by omega)))
   refine T.skip_code ?_
   refine T.seq (T.block ?_)
   refine T.seq (T.region ?_)
   refine T.l (.pointer (some ((sadr A6).add ((k : Int).toNat * 2)))) (fun w' hh => exec_indexAddr (e := 25) (s := 2) (n := AH.length) (c := c6) (iv := (k : Int)) (k := .i64) rfl rfl rfl (by kernel_rfl) (by kernel_rfl) (by omega) (by omega) ((hh.row_slOk (i := 0) (by rfl)).some_ (k := k) hh1 (by decide))) ?_
   refine T.l (.agg #[.slice h1 d.pages.length y1, .slice h2 d.writes.length y2]) (fun w' hh => exec_loadN (cs := [.slice h1 d.pages.length y1, .slice h2 d.writes.length y2]) rfl rfl (by kernel_rfl) (by kernel_rfl) (fun j u hj => SlOk.wcellF (E := eDDH) (hh.row_slOk (i := 0) (by rfl)) (k := k) hh1 j (fun _ _ _ h => h) hj)) ?_
   refine T.step (W1.np 25 [.slice none 0 0, .slice none 0 0] (fun b22 => ?_))
   refine T.step (W1.st 0 [.slice h1 d.pages.length y1, .slice h2 d.writes.length y2] ([box b22 25 [.slice h1 d.pages.length y1, .slice h2 d.writes.length y2], row 25 eDDH A6 c6 AH, diskso AH AD, row 25 eDDH B bc gs, diskso gs (AD.take k), box b9 25 [.slice g1 p0.pages.length (p0.pages.length + 3), .slice g2 p0.writes.length (p0.writes.length + 3)], row 9 eStr g1 (p0.pages.length + 3) (p0.pages ++ [mkS, mkS, mkS]), row 29 eWrite g2 (p0.writes.length + 3) (p0.writes ++ [mkW, mkW, mkW])]) [.slice h1 d.pages.length y1, .slice h2 d.writes.length y2] (T.nil ?_))
   refine T.mid (fun a w' => ∃ (B' : Option Addr) (bc' : Nat) (z1 z2 : Option Addr) (w1 w2 : Nat), Fr 163 [(8, .bool false), (9, (.pointer (some ⟨b9, 0, none⟩))), (18, .slice A6 AH.length c6), (20, .slice B' (gs ++ [(DDH.mk z1 d.pages.length w1 z2 d.writes.length w2)]).length bc'), (104, .slice A6 AH.length c6), (105, vi (AH.length : Int)), (106, vi (k : Int))] a ∧ Hp w (vw w) [row 25 eDDH A6 c6 AH, diskso AH AD, row 25 eDDH B' bc' (gs ++ [(DDH.mk z1 d.pages.length w1 z2 d.writes.length w2)]), diskso (gs ++ [(DDH.mk z1 d.pages.length w1 z2 d.writes.length w2)]) (AD.take k ++ [d]), box b9 25 [.slice g1 p0.pages.length (p0.pages.length + 3), .slice g2 p0.writes.length (p0.writes.length + 3)], row 9 eStr g1 (p0.pages.length + 3) (p0.pages ++ [mkS, mkS, mkS]), row 29 eWrite g2 (p0.writes.length + 3) (p0.writes ++ [mkW, mkW, mkW])] w') ?_ ?_
   ·
    refine T.held [box b22 25 [.slice h1 d.pages.length y1, .slice h2 d.writes.length y2]] (by kernel_rfl) ?_
    refine TA.tp 0 (.slice B gs.length bc) rfl (fun _ hh => hh.ix 60 [0]) ?_
    refine TA.tp 1 (.pointer (some ⟨b22, 0, none⟩)) rfl (fun _ hh => hh.ix 60 [0]) ?_
    refine TA.tk 2 (.slice h1 d.pages.length y1) rfl (fun _ hh => hh.ix 60 [0]) (ld1 0) ?_
    refine TA.tp 4 (.pointer (some ⟨b22, 1, none⟩)) rfl (fun _ hh => hh.ix 60 [0]) ?_
    refine TA.tk 5 (.slice h2 d.writes.length y2) rfl (fun _ hh => hh.ix 60 [0]) (ld1 0) ?_
    refine TA.j 3 rfl (W1.callI 16 [.slice h1 d.pages.length y1] (fun v w' => ∃ (A_ : Option Addr) (c_ : Nat), v = .slice A_ d.pages.length c_ ∧ Hp w (vw w) (row 9 eStr A_ c_ d.pages :: [box b22 25 [.slice h1 d.pages.length y1, .slice h2 d.writes.length y2], row 25 eDDH A6 c6 AH, diskso AH AD, row 25 eDDH B bc gs, diskso gs (AD.take k), box b9 25 [.slice g1 p0.pages.length (p0.pages.length + 3), .slice g2 p0.writes.length (p0.writes.length + 3)], row 9 eStr g1 (p0.pages.length + 3) (p0.pages ++ [mkS, mkS, mkS]), row 29 eWrite g2 (p0.writes.length + 3) (p0.writes ++ [mkW, mkW, mkW])]) w') (by kernel_rfl) (fun _ => by kernel_rfl) (fun w' hh => (own_clone_string w (vw w) [box b22 25 [.slice h1 d.pages.length y1, .slice h2 d.writes.length y2], row 25 eDDH A6 c6 AH, diskso AH AD, row 25 eDDH B bc gs, diskso gs (AD.take k), box b9 25 [.slice g1 p0.pages.length (p0.pages.length + 3), .slice g2 p0.writes.length (p0.writes.length + 3)], row 9 eStr g1 (p0.pages.length + 3) (p0.pages ++ [mkS, mkS, mkS]), row 29 eWrite g2 (p0.writes.length + 3) (p0.writes ++ [mkW, mkW, mkW])] w' _ _ _ (fun w' hh => (hh.lookAtD (i := 2) (by rfl) hh1 hd).2.1) (decide_eq_true (by omega)) (by unfold maxLen; omega) hh).mono (by rintro e_ w_ ⟨A_, c_, rfl, h_⟩; exact ⟨_, rfl, A_, c_, rfl, h_⟩)) ?_)
    rintro v w' ⟨z1, w1, rfl, hh⟩
    refine ⟨(vw w), [row 9 eStr z1 w1 d.pages, box b22 25 [.slice h1 d.pages.length y1, .slice h2 d.writes.length y2], row 25 eDDH A6 c6 AH, diskso AH AD, row 25 eDDH B bc gs, diskso gs (AD.take k), box b9 25 [.slice g1 p0.pages.length (p0.pages.length + 3), .slice g2 p0.writes.length (p0.writes.length + 3)], row 9 eStr g1 (p0.pages.length + 3) (p0.pages ++ [mkS, mkS, mkS]), row 29 eWrite g2 (p0.writes.length + 3) (p0.writes ++ [mkW, mkW, mkW])], hh, ?_⟩
    clear hh
    refine TA.on (fun _ hh => hh.ix 60 [1]) ?_
    refine TA.j 6 rfl (W1.callI 17 [.slice h2 d.writes.length y2] (fun v w' => ∃ (A_ : Option Addr) (c_ : Nat), v = .slice A_ d.writes.length c_ ∧ Hp w (vw w) (row 29 eWrite A_ c_ d.writes :: [row 9 eStr z1 w1 d.pages, box b22 25 [.slice h1 d.pages.length y1, .slice h2 d.writes.length y2], row 25 eDDH A6 c6 AH, diskso AH AD, row 25 eDDH B bc gs, diskso gs (AD.take k), box b9 25 [.slice g1 p0.pages.length (p0.pages.length + 3), .slice g2 p0.writes.length (p0.writes.length + 3)], row 9 eStr g1 (p0.pages.length + 3) (p0.pages ++ [mkS, mkS, mkS]), row 29 eWrite g2 (p0.writes.length + 3) (p0.writes ++ [mkW, mkW, mkW])]) w') (by kernel_rfl) (fun _ => by kernel_rfl) (fun w' hh => (own_clone_Write w (vw w) [row 9 eStr z1 w1 d.pages, box b22 25 [.slice h1 d.pages.length y1, .slice h2 d.writes.length y2], row 25 eDDH A6 c6 AH, diskso AH AD, row 25 eDDH B bc gs, diskso gs (AD.take k), box b9 25 [.slice g1 p0.pages.length (p0.pages.length + 3), .slice g2 p0.writes.length (p0.writes.length + 3)], row 9 eStr g1 (p0.pages.length + 3) (p0.pages ++ [mkS, mkS, mkS]), row 29 eWrite g2 (p0.writes.length + 3) (p0.writes ++ [mkW, mkW, mkW])] w' _ _ _ (fun w' hh => (hh.lookAtD (i := 3) (by rfl) hh1 hd).2.2) (decide_eq_true (by omega)) (by unfold maxLen; omega) hh).mono (by rintro e_ w_ ⟨A_, c_, rfl, h_⟩; exact ⟨_, rfl, A_, c_, rfl, h_⟩)) ?_)
    rintro v w' ⟨z2, w2, rfl, hh⟩
    refine ⟨(vw w), [row 29 eWrite z2 w2 d.writes, row 9 eStr z1 w1 d.pages, box b22 25 [.slice h1 d.pages.length y1, .slice h2 d.writes.length y2], row 25 eDDH A6 c6 AH, diskso AH AD, row 25 eDDH B bc gs, diskso gs (AD.take k), box b9 25 [.slice g1 p0.pages.length (p0.pages.length + 3), .slice g2 p0.writes.length (p0.writes.length + 3)], row 9 eStr g1 (p0.pages.length + 3) (p0.pages ++ [mkS, mkS, mkS]), row 29 eWrite g2 (p0.writes.length + 3) (p0.writes ++ [mkW, mkW, mkW])], hh, ?_⟩
    clear hh
    refine TA.on (fun _ hh => hh.ix 60 [2]) ?_
    refine TA.tp 7 (.agg #[.slice z1 d.pages.length w1, .slice z2 d.writes.length w2]) rfl (fun _ hh => hh.ix 60 [2]) ?_
    refine TA.j 8 rfl (W1.ns 25 [.slice z1 d.pages.length w1, .slice z2 d.writes.length w2] (fun b118 => ?_))
    refine TA.on (fun _ hh => hh.ix 60 [3]) ?_
    refine TA.j 9 rfl (W1.a (E := eDDH) (l := gs) (m := [(DDH.mk z1 d.pages.length w1 z2 d.writes.length w2)]) 6 48 (info_parts (P := Try.prog) (e := 25) (z := .agg #[.slice none 0 0, .slice none 0 0]) (size := 2) (bytes := 48) (by kernel_rfl)) (fun w' hh => src_one (E := eDDH) hh (i := 0) (by rfl) rfl) (decide_eq_true (by show (gs.length + 1) * 48 ≤ _; omega)) (by show gs.length + 1 ≤ _; unfold maxLen; omega) (fun B' bc' => ?_))
    refine T.reH (H' := [box b118 25 [.slice z1 d.pages.length w1, .slice z2 d.writes.length w2], row 29 eWrite z2 w2 d.writes, row 9 eStr z1 w1 d.pages, box b22 25 [.slice h1 d.pages.length y1, .slice h2 d.writes.length y2], row 25 eDDH A6 c6 AH, diskso AH AD, row 25 eDDH B' bc' (gs ++ [(DDH.mk z1 d.pages.length w1 z2 d.writes.length w2)]), diskso gs (AD.take k), box b9 25 [.slice g1 p0.pages.length (p0.pages.length + 3), .slice g2 p0.writes.length (p0.writes.length + 3)], row 9 eStr g1 (p0.pages.length + 3) (p0.pages ++ [mkS, mkS, mkS]), row 29 eWrite g2 (p0.writes.length + 3) (p0.writes ++ [mkW, mkW, mkW])]) (by rfl) ?_
    refine TA.on (fun _ hh => hh.ix 60 [3]) ?_
    refine TA.tp 10 (.slice B' (gs ++ [(DDH.mk z1 d.pages.length w1 z2 d.writes.length w2)]).length bc') rfl (fun _ hh => hh.ix 60 [3]) ?_
    refine TA.d ?_
    exact fun a w' hf hh => ⟨B', bc', z1, z2, w1, w2, Fr.s hf, (Hp.pushD (h := (DDH.mk z1 d.pages.length w1 z2 d.writes.length w2)) ⟨rfl, rfl⟩ (hh.ix 60 [2, 1, 7, 4, 5, 6, 8, 9, 10])).ix 60 [1, 2, 3, 0, 4, 5, 6]⟩
   rintro a w' ⟨B', bc', z1, z2, w1, w2, hf, hh⟩
   refine (?_ : T 163 w (vw w) [row 25 eDDH A6 c6 AH, diskso AH AD, row 25 eDDH B' bc' (gs ++ [(DDH.mk z1 d.pages.length w1 z2 d.writes.length w2)]), diskso (gs ++ [(DDH.mk z1 d.pages.length w1 z2 d.writes.length w2)]) (AD.take k ++ [d]), box b9 25 [.slice g1 p0.pages.length (p0.pages.length + 3), .slice g2 p0.writes.length (p0.writes.length + 3)], row 9 eStr g1 (p0.pages.length + 3) (p0.pages ++ [mkS, mkS, mkS]), row 29 eWrite g2 (p0.writes.length + 3) (p0.writes ++ [mkW, mkW, mkW])] [(8, .bool false), (9, (.pointer (some ⟨b9, 0, none⟩))), (18, .slice A6 AH.length c6), (20, .slice B' (gs ++ [(DDH.mk z1 d.pages.length w1 z2 d.writes.length w2)]).length bc'), (104, .slice A6 AH.length c6), (105, vi (AH.length : Int)), (106, vi (k : Int))] _) a w' hf hh
   clear hf hh
   refine T.region (T.k (vi (IntKind.i64.wrap ((k : Int) + 1))) ?_)
   refine T.reslot 120 (vi ((k + 1 : Nat) : Int)) rfl (by show Value.int .i64 _ = Value.int .i64 _; congr 1; rw [IntKind.wrap_i64]; omega) ?_
   refine T.k (vi ((k + 1 : Nat) : Int)) (T.nil ?_)
   exact fun a w' hf hh => ⟨B', bc', _, Fr.s hf, by rw [List.take_add_one, hd, Option.toList_some]; exact hh⟩
  ·
   rintro a w' ⟨B, bc, gs, hf, hh⟩
   refine (?_ : T 163 w (vw w) [row 25 eDDH A6 c6 AH, diskso AH AD, row 25 eDDH B bc gs, diskso gs (AD.take AH.length), box b9 25 [.slice g1 p0.pages.length (p0.pages.length + 3), .slice g2 p0.writes.length (p0.writes.length + 3)], row 9 eStr g1 (p0.pages.length + 3) (p0.pages ++ [mkS, mkS, mkS]), row 29 eWrite g2 (p0.writes.length + 3) (p0.writes ++ [mkW, mkW, mkW])] [(8, .bool false), (9, (.pointer (some ⟨b9, 0, none⟩))), (18, .slice A6 AH.length c6), (20, .slice B gs.length bc), (104, .slice A6 AH.length c6), (105, vi (AH.length : Int)), (106, vi (AH.length : Int))] _) a w' hf hh
   clear hf hh
   refine T.sr (T.k (.bool (decide ((AH.length : Int) < (AH.length : Int)))) (T.nil ?_))
   refine T.seq (T.cb (decide ((AH.length : Int) < (AH.length : Int))) (fun hc => absurd (of_decide_eq_true hc) (by omega)) (fun hc => ?_))
   refine T.exit (T.unthenX (T.unthenX (T.leaveB ?_)))
   exact fun a w' hf hh => ⟨B, bc, gs, Fr.s hf, by rw [List.take_of_length_le (by omega)] at hh; exact hh⟩
 rintro a w' ⟨B, bc, gs, hf, hh⟩
 refine (?_ : T 163 w (vw w) [row 25 eDDH A6 c6 AH, diskso AH AD, row 25 eDDH B bc gs, diskso gs AD, box b9 25 [.slice g1 p0.pages.length (p0.pages.length + 3), .slice g2 p0.writes.length (p0.writes.length + 3)], row 9 eStr g1 (p0.pages.length + 3) (p0.pages ++ [mkS, mkS, mkS]), row 29 eWrite g2 (p0.writes.length + 3) (p0.writes ++ [mkW, mkW, mkW])] [(8, .bool false), (9, (.pointer (some ⟨b9, 0, none⟩))), (18, .slice A6 AH.length c6), (20, .slice B gs.length bc)] _) a w' hf hh
 clear hf hh
 refine T.sr (T.k (.pointer (some ⟨b9, 0, none⟩)) ?_)
 refine T.l (.slice g1 p0.pages.length (p0.pages.length + 3)) (ld1 4) ?_
 refine T.rowlen 5 (by rfl) (fun hq1 hq2 => ?_)
 refine T.step (W1.callI 18 [.slice g1 p0.pages.length (p0.pages.length + 3), .string (ByteArray.mk #[120])] (fun v w' => v = .tuple #[] ∧ Hp w (vw w) [row 25 eDDH A6 c6 AH, diskso AH AD, row 25 eDDH B bc gs, diskso gs AD, box b9 25 [.slice g1 p0.pages.length (p0.pages.length + 3), .slice g2 p0.writes.length (p0.writes.length + 3)], row 29 eWrite g2 (p0.writes.length + 3) (p0.writes ++ [mkW, mkW, mkW])] w') (by kernel_rfl) (fun _ => by kernel_rfl) (fun w' hh => (own_spoil_str (ByteArray.mk #[120]) (by first | exact hq1 | omega) (hh.ix 60 [5, 0, 1, 2, 3, 4, 6])).mono (by rintro e_ w_ ⟨rfl, h_⟩; exact ⟨_, rfl, rfl, h_.sub (dr1 kpr)⟩)) ?_)
 rintro v w' ⟨rfl, hh⟩
 refine ⟨(vw w), [row 25 eDDH A6 c6 AH, diskso AH AD, row 25 eDDH B bc gs, diskso gs AD, box b9 25 [.slice g1 p0.pages.length (p0.pages.length + 3), .slice g2 p0.writes.length (p0.writes.length + 3)], row 29 eWrite g2 (p0.writes.length + 3) (p0.writes ++ [mkW, mkW, mkW])], hh, ?_⟩
 clear hh
 refine T.nil ?_
 refine T.sr (T.k (.pointer (some ⟨b9, 1, none⟩)) ?_)
 refine T.l (.slice g2 p0.writes.length (p0.writes.length + 3)) (ld1 4) ?_
 refine T.k (.agg #[vi 0, .string (ByteArray.mk #[121])]) ?_
 refine T.rowlen 5 (by rfl) (fun hq1 hq2 => ?_)
 refine T.step (W1.callI 19 [.slice g2 p0.writes.length (p0.writes.length + 3), .agg #[.int .i64 0, .string (ByteArray.mk #[121])]] (fun v w' => v = .tuple #[] ∧ Hp w (vw w) [row 25 eDDH A6 c6 AH, diskso AH AD, row 25 eDDH B bc gs, diskso gs AD, box b9 25 [.slice g1 p0.pages.length (p0.pages.length + 3), .slice g2 p0.writes.length (p0.writes.length + 3)]] w') (by kernel_rfl) (fun _ => by kernel_rfl) (fun w' hh => (own_spoil_Write (DWrite.mk 0 (ByteArray.mk #[121])) (by first | exact hq1 | omega) (hh.ix 60 [5, 0, 1, 2, 3, 4])).mono (by rintro e_ w_ ⟨rfl, h_⟩; exact ⟨_, rfl, rfl, h_.sub (dr1 kpr)⟩)) ?_)
 rintro v w' ⟨rfl, hh⟩
 refine ⟨(vw w), [row 25 eDDH A6 c6 AH, diskso AH AD, row 25 eDDH B bc gs, diskso gs AD, box b9 25 [.slice g1 p0.pages.length (p0.pages.length + 3), .slice g2 p0.writes.length (p0.writes.length + 3)]], hh, ?_⟩
 clear hh
 refine T.nil ?_
 refine T.seq ?_
 refine T.sr (T.k3 (.slice A6 AH.length c6) (vi (AH.length : Int)) (vi 0) (T.nil ?_))
 refine T.mid (fun a w' => Fr 163 [(8, .bool false)] a ∧ Hp w (vw w) [] w') ?_ ?_
 ·
  refine T.block ?_
  refine T.loopN AH.length (fun k a w' => Fr 163 [(8, .bool false), (20, .slice B gs.length bc), (128, .slice A6 AH.length c6), (129, vi (AH.length : Int)), (130, vi (k : Int))] a ∧ Hp w (vw w) [row 25 eDDH A6 c6 AH, diskso (AH.drop k) (AD.drop k), row 25 eDDH B bc gs, diskso gs AD] w') ?_ ?_ ?_
  · exact fun a w' hf hh => ⟨Fr.s hf, hh.ix 60 [0, 1, 2, 3]⟩
  ·
   rintro k hk a w' ⟨hf, hh⟩
   refine (?_ : T 163 w (vw w) [row 25 eDDH A6 c6 AH, diskso (AH.drop k) (AD.drop k), row 25 eDDH B bc gs, diskso gs AD] [(8, .bool false), (20, .slice B gs.length bc), (128, .slice A6 AH.length c6), (129, vi (AH.length : Int)), (130, vi (k : Int))] _) a w' hf hh
   clear hf hh
   obtain ⟨h, hh1⟩ : ∃ h, AH[k]? = some h := ⟨_, List.getElem?_eq_getElem hk⟩
   obtain ⟨d, hd⟩ : ∃ d, AD[k]? = some d := ⟨_, List.getElem?_eq_getElem (by omega)⟩
   obtain ⟨fd1, fd2, fd3⟩ := fits_parts (all_at hall hd)
   refine T.lenD 3 (by rfl) (fun hgl => ?_)
   obtain ⟨g, hg1⟩ : ∃ g, gs[k]? = some g := ⟨_, List.getElem?_eq_getElem (by omega)⟩
   refine T.fitD 3 (by rfl) hg1 hd (fun hft => ?_)
   obtain ⟨z1, m1, w1, z2, m2, w2⟩ := g
   obtain ⟨f1, f2⟩ := hft
   dsimp only at f1 f2
   subst f1 f2
   have e1 : AH.drop k = h :: AH.drop (k + 1) := by rw [List.drop_eq_getElem_cons hk, ← (List.getElem?_eq_some_iff.1 hh1).2]
   have e2 : AD.drop k = d :: AD.drop (k + 1) := by rw [List.drop_eq_getElem_cons (by omega), ← (List.getElem?_eq_some_iff.1 hd).2]
   refine T.reH (H' := [row 25 eDDH A6 c6 AH, diskso (h :: AH.drop (k + 1)) (d :: AD.drop (k + 1)), row 25 eDDH B bc gs, diskso gs AD]) (by rw [e1, e2]) ?_
   refine T.fitD (k := 0) (h := h) (d := d) 1 (by rfl) rfl rfl (fun hft => ?_)
   obtain ⟨h1, m1, y1, h2, m2, y2⟩ := h
   obtain ⟨f1, f2⟩ := hft
   dsimp only at f1 f2
   subst f1 f2
   refine T.popD (H' := [row 25 eDDH A6 c6 AH, row 25 eDDH B bc gs, diskso gs AD]) 1 (by rfl) (by rfl) ?_
   refine T.reH (H' := [row 9 eStr h1 y1 d.pages, row 29 eWrite h2 y2 d.writes, diskso (AH.drop (k + 1)) (AD.drop (k + 1)), row 25 eDDH A6 c6 AH, row 25 eDDH B bc gs, diskso gs AD]) (by rfl) ?_
   refine T.sr (T.k (.bool (decide ((k : Int) < (AH.length : Int)))) (T.nil ?_))
   refine T.seq (T.cb (decide ((k : Int) < (AH.length : Int))) (fun hc => ?_) (fun hc => absurd (of_decide_eq_false hc) (by omega)))
   refine T.skip_code ?_
   refine T.seq (T.block ?_)
   refine T.seq (T.region (T.k (vi (k : Int)) ?_))
   refine T.l (.pointer (some ((sadr A6).add ((k : Int).toNat * 2)))) (fun w' hh => exec_indexAddr (e := 25) (s := 2) (n := AH.length) (c := c6) (iv := (k : Int)) (k := .i64) rfl rfl rfl (by kernel_rfl) (by kernel_rfl) (by omega) (by omega) ((hh.row_slOk (i := 3) (by rfl)).some_ (k := k) hh1 (by decide))) ?_
   refine T.l (.agg #[.slice h1 d.pages.length y1, .slice h2 d.writes.length y2]) (fun w' hh => exec_loadN (cs := [.slice h1 d.pages.length y1, .slice h2 d.writes.length y2]) rfl rfl (by kernel_rfl) (by kernel_rfl) (fun j u hj => SlOk.wcellF (E := eDDH) (hh.row_slOk (i := 3) (by rfl)) (k := k) hh1 j (fun _ _ _ h => h) hj)) ?_
   refine T.step (W1.np 25 [.slice none 0 0, .slice none 0 0] (fun b24 => ?_))
   refine T.k (vi (k : Int)) ?_
   refine T.step (W1.st 0 [.slice h1 d.pages.length y1, .slice h2 d.writes.length y2] ([box b24 25 [.slice h1 d.pages.length y1, .slice h2 d.writes.length y2], row 9 eStr h1 y1 d.pages, row 29 eWrite h2 y2 d.writes, diskso (AH.drop (k + 1)) (AD.drop (k + 1)), row 25 eDDH A6 c6 AH, row 25 eDDH B bc gs, diskso gs AD]) [.slice h1 d.pages.length y1, .slice h2 d.writes.length y2] (T.nil ?_))
   refine T.seq ?_
   refine T.seq ?_
   refine T.mid (fun a w' => Fr 163 [(8, .bool false), (20, .slice B gs.length bc), (128, .slice A6 AH.length c6), (129, vi (AH.length : Int)), (130, vi (k : Int)), (23, vi (k : Int)), (24, (.pointer (some ⟨b24, 0, none⟩))), (141, .bool false)] a ∧ Hp w (vw w) [box b24 25 [.slice h1 d.pages.length y1, .slice h2 d.writes.length y2], row 9 eStr h1 y1 d.pages, row 29 eWrite h2 y2 d.writes, diskso (AH.drop (k + 1)) (AD.drop (k + 1)), row 25 eDDH A6 c6 AH, row 25 eDDH B bc gs, diskso gs AD] w') ?_ ?_
   ·
    refine T.held [box b24 25 [.slice h1 d.pages.length y1, .slice h2 d.writes.length y2], row 25 eDDH B bc gs] (by kernel_rfl) ?_
    refine TA.tk 0 (.agg #[.slice h1 d.pages.length y1, .slice h2 d.writes.length y2]) rfl (fun _ hh => hh.ix 60 [0, 5]) (ldN 0) ?_
    refine TA.tp 1 (.slice B gs.length bc) rfl (fun _ hh => hh.ix 60 [0, 5]) ?_
    refine TA.tp 2 (vi (k : Int)) rfl (fun _ hh => hh.ix 60 [0, 5]) ?_
    refine TA.tk 3 (.pointer (some ((sadr B).add ((k : Int).toNat * 2)))) rfl (fun _ hh => hh.ix 60 [0, 5]) (fun w' hh => exec_indexAddr (e := 25) (s := 2) (n := gs.length) (c := bc) (iv := (k : Int)) (k := .i64) rfl rfl rfl (by kernel_rfl) (by kernel_rfl) (by omega) (by omega) ((hh.row_slOk (i := 1) (by rfl)).some_ (k := k) hg1 (by decide))) ?_
    refine TA.tk 4 (.agg #[.slice z1 d.pages.length w1, .slice z2 d.writes.length w2]) rfl (fun _ hh => hh.ix 60 [0, 5]) (fun w' hh => exec_loadN (cs := [.slice z1 d.pages.length w1, .slice z2 d.writes.length w2]) rfl rfl (by kernel_rfl) (by kernel_rfl) (fun j u hj => SlOk.wcellF (E := eDDH) (hh.row_slOk (i := 1) (by rfl)) (k := k) hg1 j (fun _ _ _ h => h) hj)) ?_
    refine TA.j 5 rfl (W1.cs (vSc eBool) true 11 #[.agg #[.slice h1 d.pages.length y1, .slice h2 d.writes.length y2], .agg #[.slice z1 d.pages.length w1, .slice z2 d.writes.length w2]] (.bool true) (fun V u hu => sureBool V u _ hu) (fun w' hh => annalref_SameDisk_l F d d true fd3 w' h1 y1 (hh.row_slOk (i := 1) (by rfl)) h2 y2 (hh.row_slOk (i := 2) (by rfl)) z1 w1 (hh.lookAtD (i := 6) (by rfl) hg1 hd).2.1 z2 w2 (hh.lookAtD (i := 6) (by rfl) hg1 hd).2.2) ?_)
    refine TA.on (fun _ hh => hh.ix 60 [0, 5]) ?_
    refine TA.tp 6 (.bool false) rfl (fun _ hh => hh.ix 60 [0, 5]) ?_
    refine TA.d ?_
    exact fun a w' hf hh => ⟨Fr.s hf, hh⟩
   rintro a w' ⟨hf, hh⟩
   refine (?_ : T 163 w (vw w) [box b24 25 [.slice h1 d.pages.length y1, .slice h2 d.writes.length y2], row 9 eStr h1 y1 d.pages, row 29 eWrite h2 y2 d.writes, diskso (AH.drop (k + 1)) (AD.drop (k + 1)), row 25 eDDH A6 c6 AH, row 25 eDDH B bc gs, diskso gs AD] [(8, .bool false), (20, .slice B gs.length bc), (128, .slice A6 AH.length c6), (129, vi (AH.length : Int)), (130, vi (k : Int)), (23, vi (k : Int)), (24, (.pointer (some ⟨b24, 0, none⟩))), (141, .bool false)] _) a w' hf hh
   clear hf hh
   refine T.cond false (by kernel_rfl) (by kernel_rfl) (fun h => Bool.noConfusion h) (fun _ => ?_)
   refine T.skip_code ?_
   refine T.sr (T.k (.pointer (some ⟨b24, 0, none⟩)) ?_)
   refine T.l (.slice h1 d.pages.length y1) (ld1 0) ?_
   refine T.rowlen 1 (by rfl) (fun hq1 hq2 => ?_)
   refine T.step (W1.callI 18 [.slice h1 d.pages.length y1, .string (ByteArray.mk #[122])] (fun v w' => v = .tuple #[] ∧ Hp w (vw w) [box b24 25 [.slice h1 d.pages.length y1, .slice h2 d.writes.length y2], row 29 eWrite h2 y2 d.writes, diskso (AH.drop (k + 1)) (AD.drop (k + 1)), row 25 eDDH A6 c6 AH, row 25 eDDH B bc gs, diskso gs AD] w') (by kernel_rfl) (fun _ => by kernel_rfl) (fun w' hh => (own_spoil_str (ByteArray.mk #[122]) (by first | exact hq1 | omega) (hh.ix 60 [1, 0, 2, 3, 4, 5, 6])).mono (by rintro e_ w_ ⟨rfl, h_⟩; exact ⟨_, rfl, rfl, h_.sub (dr1 kpr)⟩)) ?_)
   rintro v w' ⟨rfl, hh⟩
   refine ⟨(vw w), [box b24 25 [.slice h1 d.pages.length y1, .slice h2 d.writes.length y2], row 29 eWrite h2 y2 d.writes, diskso (AH.drop (k + 1)) (AD.drop (k + 1)), row 25 eDDH A6 c6 AH, row 25 eDDH B bc gs, diskso gs AD], hh, ?_⟩
   clear hh
   refine T.nil ?_
   refine T.region (T.k (.pointer (some ⟨b24, 1, none⟩)) ?_)
   refine T.l (.slice h2 d.writes.length y2) (ld1 0) ?_
   refine T.k (.agg #[vi 0, .string (ByteArray.mk #[119])]) ?_
   refine T.rowlen 1 (by rfl) (fun hq1 hq2 => ?_)
   refine T.step (W1.callI 19 [.slice h2 d.writes.length y2, .agg #[.int .i64 0, .string (ByteArray.mk #[119])]] (fun v w' => v = .tuple #[] ∧ Hp w (vw w) [box b24 25 [.slice h1 d.pages.length y1, .slice h2 d.writes.length y2], diskso (AH.drop (k + 1)) (AD.drop (k + 1)), row 25 eDDH A6 c6 AH, row 25 eDDH B bc gs, diskso gs AD] w') (by kernel_rfl) (fun _ => by kernel_rfl) (fun w' hh => (own_spoil_Write (DWrite.mk 0 (ByteArray.mk #[119])) (by first | exact hq1 | omega) (hh.ix 60 [1, 0, 2, 3, 4, 5])).mono (by rintro e_ w_ ⟨rfl, h_⟩; exact ⟨_, rfl, rfl, h_.sub (dr1 kpr)⟩)) ?_)
   rintro v w' ⟨rfl, hh⟩
   refine ⟨(vw w), [box b24 25 [.slice h1 d.pages.length y1, .slice h2 d.writes.length y2], diskso (AH.drop (k + 1)) (AD.drop (k + 1)), row 25 eDDH A6 c6 AH, row 25 eDDH B bc gs, diskso gs AD], hh, ?_⟩
   clear hh
   refine T.nil ?_
   refine T.region (T.k (vi (IntKind.i64.wrap ((k : Int) + 1))) ?_)
   refine T.reslot 149 (vi ((k + 1 : Nat) : Int)) rfl (by show Value.int .i64 _ = Value.int .i64 _; congr 1; rw [IntKind.wrap_i64]; omega) ?_
   refine T.k (vi ((k + 1 : Nat) : Int)) (T.nil ?_)
   exact fun a w' hf hh => ⟨Fr.s hf, hh.ix 60 [2, 1, 3, 4]⟩
  ·
   rintro a w' ⟨hf, hh⟩
   refine (?_ : T 163 w (vw w) [row 25 eDDH A6 c6 AH, diskso (AH.drop AH.length) (AD.drop AH.length), row 25 eDDH B bc gs, diskso gs AD] [(8, .bool false), (20, .slice B gs.length bc), (128, .slice A6 AH.length c6), (129, vi (AH.length : Int)), (130, vi (AH.length : Int))] _) a w' hf hh
   clear hf hh
   refine T.sr (T.k (.bool (decide ((AH.length : Int) < (AH.length : Int)))) (T.nil ?_))
   refine T.seq (T.cb (decide ((AH.length : Int) < (AH.length : Int))) (fun hc => absurd (of_decide_eq_true hc) (by omega)) (fun hc => ?_))
   refine T.exit (T.unthenX (T.unthenX (T.leaveB ?_)))
   exact fun a w' hf hh => ⟨Fr.s hf, hh.sub kp0⟩
 rintro a w' ⟨hf, hh⟩
 refine (?_ : T 163 w (vw w) [] [(8, .bool false)] _) a w' hf hh
 clear hf hh
 refine T.sr (T.step (W1.w1 (vAg eDisk) (DDisk.mk [ByteArray.mk #[97]] []) 20 #[.string (ByteArray.mk #[97])] (fun w' hh => annalkeep_one_l (ByteArray.mk #[97]) _ rfl w') ?_))
 intro u V1 hV1 hu
 obtain ⟨cs1, rfl, hr2⟩ := vagg_elim hu
 obtain ⟨A7, c7, A8, c8, rfl, hs6, hs7⟩ := hr2
 refine T.step (W1.callG 6 #[.agg #[.slice A7 (DDisk.mk [ByteArray.mk #[97]] []).pages.length c7, .slice A8 (DDisk.mk [ByteArray.mk #[97]] []).writes.length c8], .int .i64 0, .string (ByteArray.mk #[98])] (fun p : Option Addr × Nat × Option Addr × Nat => .tuple #[.agg #[.slice p.1 r6.1.pages.length p.2.1, .slice p.2.2.1 r6.1.writes.length p.2.2.2], .int .i64 r6.2]) (fun p => [row 9 eStr p.1 p.2.1 r6.1.pages, row 29 eWrite p.2.2.1 p.2.2.2 r6.1.writes]) (fun _ => True) (by kernel_rfl) (fun _ => by kernel_rfl) (fun w' hh => disk_Put_l F (DDisk.mk [ByteArray.mk #[97]] []) 0 (ByteArray.mk #[98]) r6 hb6 w' A7 c7 (SlOk.mono (SlOk.mono hs6 (made_le _ _)) hh.view) A8 c8 (SlOk.mono (SlOk.mono hs7 (made_le _ _)) hh.view)) ?_)
 rintro ⟨x9, m9, y9, n9⟩ _
 refine T.reH (H' := [row 9 eStr x9 m9 r6.1.pages, row 29 eWrite y9 n9 r6.1.writes]) (by rfl) ?_
 refine T.k3 (.tuple #[.agg #[.slice x9 r6.1.pages.length m9, .slice y9 r6.1.writes.length n9], .int .i64 r6.2]) (.agg #[.slice x9 r6.1.pages.length m9, .slice y9 r6.1.writes.length n9]) (.int .i64 r6.2) ?_
 refine T.step (W1.np 25 [.slice none 0 0, .slice none 0 0] (fun b25 => ?_))
 refine T.step (W1.st 0 [.slice x9 r6.1.pages.length m9, .slice y9 r6.1.writes.length n9] ([box b25 25 [.slice x9 r6.1.pages.length m9, .slice y9 r6.1.writes.length n9], row 9 eStr x9 m9 r6.1.pages, row 29 eWrite y9 n9 r6.1.writes]) [.slice x9 r6.1.pages.length m9, .slice y9 r6.1.writes.length n9] ?_)
 refine T.k (.int .i64 r6.2) (T.nil ?_)
 refine T.sr (T.k2 (.int .i64 r6.2) (.bool (r6.2 == 0)) ?_)
 refine T.reslot 156 (.bool true) rfl (by rw [hz]) ?_
 refine T.k2 (.bool true) (.pointer (some ⟨b25, 1, none⟩)) ?_
 refine T.l (.slice y9 r6.1.writes.length n9) (ld1 0) ?_
 refine T.k2 (vi (r6.1.writes.length : Int)) (.bool ((r6.1.writes.length : Int) == 1)) ?_
 refine T.reslot 161 (.bool true) rfl (by rw [hone]) ?_
 refine T.k2 (.bool true) (.bool true) (T.nil ?_)
 refine T.ret rfl ?_
 exact T.ret1 rfl (rT rfl) fun w' hh => ⟨_, rfl, hh.below, (show _ from rfl)⟩
end Go.Proofs.Ytjhkfonoobmecaa
