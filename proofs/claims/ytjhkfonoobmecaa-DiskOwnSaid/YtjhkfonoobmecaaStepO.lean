/- The steps of a group, and the stepper's methods: every disk's rows are the call's own. Its conditions: as each states. -/
import Derived.Test.YtjhkfonoobmecaaDiskO
import Derived.Test.YtjhkfonoobmecaaStepL
namespace Go.Proofs.Ytjhkfonoobmecaa
open Go.RowKit
set_option linter.unusedVariables false
set_option linter.unusedSimpArgs false
set_option maxRecDepth 100000
set_option maxHeartbeats 4000000
theorem sync_o {F : Nat} {d : DDisk} {out : List DDisk} {r : DDisk × Int} (hb : disk_Sync F d = some r) {w : World} {V : View} {G : List HObj} {w1 : World} {b : Nat} {A1 A2 A3 : Option Addr} {c1 c2 c3 : Nat} {hs : List DDH}
    (hr : ∀ w', Hp w V (box b 66 [.slice A1 d.pages.length c1, .slice A2 d.writes.length c2, .slice A3 hs.length c3] :: row 25 eDDH A3 c3 hs :: diskso hs out :: G) w' → SlOk (vw w') eStr A1 c1 d.pages ∧ SlOk (vw w') eWrite A2 c2 d.writes)
    (hg : room (hs.length + 1) 48 = true) (hm : hs.length + 1 ≤ maxLen) (hh : Hp w V (box b 66 [.slice A1 d.pages.length c1, .slice A2 d.writes.length c2, .slice A3 hs.length c3] :: row 25 eDDH A3 c3 hs :: diskso hs out :: G) w1) :
    Calls Try.prog 32 #[.pointer (some ⟨b, 0, none⟩)] w1 (fun e w2 => ∃ v, e = .returned v ∧ v = .tuple #[] ∧ ∃ (B1 : Option Addr) (e1 : Nat) (B2 : Option Addr) (e2 : Nat) (B3 : Option Addr) (e3 : Nat),
      Hp w V (box b 66 [.slice B1 r.1.pages.length e1, .slice B2 r.1.writes.length e2, .slice B3 (hs ++ [(DDH.mk B1 r.1.pages.length e1 B2 r.1.writes.length e2)]).length e3] :: row 25 eDDH B3 e3 (hs ++ [(DDH.mk B1 r.1.pages.length e1 B2 r.1.writes.length e2)]) :: diskso (hs ++ [(DDH.mk B1 r.1.pages.length e1 B2 r.1.writes.length e2)]) (out ++ [r.1]) :: G) w2) := by
 refine T.startI (l := [.pointer (some ⟨b, 0, none⟩)]) Try.func32 rfl rfl rfl ?_ hh
 clear hh
 refine T.sr (T.k4 (.pointer (some ⟨b, 0, none⟩)) (.pointer (some ⟨b, 0, none⟩)) (.pointer (some ⟨b, 0, none⟩)) (.pointer (some ⟨b, 0, none⟩)) ?_)
 refine T.l (.agg #[.slice A1 d.pages.length c1, .slice A2 d.writes.length c2]) (ldN 0) ?_
 refine T.step (W1.callG 7 #[.agg #[.slice A1 d.pages.length c1, .slice A2 d.writes.length c2]] (fun p : Option Addr × Nat × Option Addr × Nat => .tuple #[.agg #[.slice p.1 r.1.pages.length p.2.1, .slice p.2.2.1 r.1.writes.length p.2.2.2], .int .i64 r.2]) (fun p => [row 9 eStr p.1 p.2.1 r.1.pages, row 29 eWrite p.2.2.1 p.2.2.2 r.1.writes]) (fun _ => True) (by kernel_rfl) (fun _ => by kernel_rfl) (fun w' hh => disk_Sync_l F d r hb w' A1 c1 (hr w' hh).1 A2 c2 (hr w' hh).2) ?_)
 rintro ⟨B1, e1, B2, e2⟩ _
 refine T.reH (H' := row 9 eStr B1 e1 r.1.pages :: row 29 eWrite B2 e2 r.1.writes :: box b 66 [.slice A1 d.pages.length c1, .slice A2 d.writes.length c2, .slice A3 hs.length c3] :: row 25 eDDH A3 c3 hs :: diskso hs out :: G) (by rfl) ?_
 refine T.k5 (.tuple #[.agg #[.slice B1 r.1.pages.length e1, .slice B2 r.1.writes.length e2], .int .i64 r.2]) (.agg #[.slice B1 r.1.pages.length e1, .slice B2 r.1.writes.length e2]) (.int .i64 r.2) (.pointer (some ⟨b, 0, none⟩)) (.pointer (some ⟨b, 0, none⟩)) ?_
 refine T.step (W1.st 2 [.slice B1 r.1.pages.length e1, .slice B2 r.1.writes.length e2, .slice A3 hs.length c3] (row 9 eStr B1 e1 r.1.pages :: row 29 eWrite B2 e2 r.1.writes :: box b 66 [.slice B1 r.1.pages.length e1, .slice B2 r.1.writes.length e2, .slice A3 hs.length c3] :: row 25 eDDH A3 c3 hs :: diskso hs out :: G) [.slice B1 r.1.pages.length e1, .slice B2 r.1.writes.length e2] (T.nil ?_))
 refine T.heldN [] (by kernel_rfl) ?_
 refine TA.tp 0 (.pointer (some ⟨b, 0, none⟩)) rfl (fun _ hh => hh.sub kp0) ?_
 refine TA.tp 1 (.pointer (some ⟨b, 0, none⟩)) rfl (fun _ hh => hh.sub kp0) ?_
 refine TA.tp 2 (.pointer (some ⟨b, 0, none⟩)) rfl (fun _ hh => hh.sub kp0) ?_
 refine TA.tp 3 (.pointer (some ⟨b, 2, none⟩)) rfl (fun _ hh => hh.sub kp0) ?_
 refine TA.tp 5 (.pointer (some ⟨b, 0, none⟩)) rfl (fun _ hh => hh.sub kp0) ?_
 refine TA.tp 6 (.pointer (some ⟨b, 0, none⟩)) rfl (fun _ hh => hh.sub kp0) ?_
 refine TA.tp 7 (.pointer (some ⟨b, 0, none⟩)) rfl (fun _ hh => hh.sub kp0) ?_
 refine TA.a [4, 8] ⟨?_, ?_, trivial⟩
 ·
  refine TA.br rfl (W1.l (.slice A3 hs.length c3) (ld1 2) ?_)
  refine TA.on (fun _ hh => hh.sub kp0) ?_
  refine TA.j 8 rfl (W1.l (.agg #[.slice B1 r.1.pages.length e1, .slice B2 r.1.writes.length e2]) (ldN 2) ?_)
  refine TA.on (fun _ hh => hh.sub kp0) ?_
  refine TA.j 9 rfl (W1.ns 25 [.slice B1 r.1.pages.length e1, .slice B2 r.1.writes.length e2] (fun b4 => ?_))
  refine TA.on (fun _ hh => hh.sub kp0) ?_
  refine TA.j 10 rfl (W1.a (E := eDDH) (l := hs) (m := [(DDH.mk B1 r.1.pages.length e1 B2 r.1.writes.length e2)]) 4 48 (info_parts (P := Try.prog) (e := 25) (z := .agg #[.slice none 0 0, .slice none 0 0]) (size := 2) (bytes := 48) (by kernel_rfl)) (fun w' hh => src_one (E := eDDH) hh (i := 0) (by rfl) rfl) hg hm (fun B3 e3 => ?_))
  refine TA.on (fun _ hh => hh.sub kp0) ?_
  refine TA.tp 11 (.pointer (some ⟨b, 0, none⟩)) rfl (fun _ hh => hh.sub kp0) ?_
  refine TA.tp 12 (.pointer (some ⟨b, 2, none⟩)) rfl (fun _ hh => hh.sub kp0) ?_
  refine TA.j 13 rfl (W1.st 3 [.slice B1 r.1.pages.length e1, .slice B2 r.1.writes.length e2, .slice B3 (hs ++ [(DDH.mk B1 r.1.pages.length e1 B2 r.1.writes.length e2)]).length e3] (box b4 25 [.slice B1 r.1.pages.length e1, .slice B2 r.1.writes.length e2] :: row 9 eStr B1 e1 r.1.pages :: row 29 eWrite B2 e2 r.1.writes :: box b 66 [.slice B1 r.1.pages.length e1, .slice B2 r.1.writes.length e2, .slice B3 (hs ++ [(DDH.mk B1 r.1.pages.length e1 B2 r.1.writes.length e2)]).length e3] :: row 25 eDDH B3 e3 (hs ++ [(DDH.mk B1 r.1.pages.length e1 B2 r.1.writes.length e2)]) :: diskso hs out :: G) [.slice B3 (hs ++ [(DDH.mk B1 r.1.pages.length e1 B2 r.1.writes.length e2)]).length e3] ?_)
  refine TA.on (fun _ hh => hh.sub kp0) ?_
  refine TA.d ?_
  exact T.end0 rfl (fun w' hh => ⟨_, rfl, rfl, B1, e1, B2, e2, B3, e3, (Hp.pushD (h := (DDH.mk B1 r.1.pages.length e1 B2 r.1.writes.length e2)) ⟨rfl, rfl⟩ (hh.ix 6 [1, 2, 5, 3, 4])).ix 3 [1, 2, 0]⟩)
 ·
  refine TA.br rfl (W1.l (.agg #[.slice B1 r.1.pages.length e1, .slice B2 r.1.writes.length e2]) (ldN 2) ?_)
  refine TA.on (fun _ hh => hh.sub kp0) ?_
  refine TA.a [4, 9] ⟨?_, ?_, trivial⟩
  ·
   refine TA.br rfl (W1.l (.slice A3 hs.length c3) (ld1 2) ?_)
   refine TA.on (fun _ hh => hh.sub kp0) ?_
   refine TA.j 9 rfl (W1.ns 25 [.slice B1 r.1.pages.length e1, .slice B2 r.1.writes.length e2] (fun b4 => ?_))
   refine TA.on (fun _ hh => hh.sub kp0) ?_
   refine TA.j 10 rfl (W1.a (E := eDDH) (l := hs) (m := [(DDH.mk B1 r.1.pages.length e1 B2 r.1.writes.length e2)]) 4 48 (info_parts (P := Try.prog) (e := 25) (z := .agg #[.slice none 0 0, .slice none 0 0]) (size := 2) (bytes := 48) (by kernel_rfl)) (fun w' hh => src_one (E := eDDH) hh (i := 0) (by rfl) rfl) hg hm (fun B3 e3 => ?_))
   refine TA.on (fun _ hh => hh.sub kp0) ?_
   refine TA.tp 11 (.pointer (some ⟨b, 0, none⟩)) rfl (fun _ hh => hh.sub kp0) ?_
   refine TA.tp 12 (.pointer (some ⟨b, 2, none⟩)) rfl (fun _ hh => hh.sub kp0) ?_
   refine TA.j 13 rfl (W1.st 3 [.slice B1 r.1.pages.length e1, .slice B2 r.1.writes.length e2, .slice B3 (hs ++ [(DDH.mk B1 r.1.pages.length e1 B2 r.1.writes.length e2)]).length e3] (box b4 25 [.slice B1 r.1.pages.length e1, .slice B2 r.1.writes.length e2] :: row 9 eStr B1 e1 r.1.pages :: row 29 eWrite B2 e2 r.1.writes :: box b 66 [.slice B1 r.1.pages.length e1, .slice B2 r.1.writes.length e2, .slice B3 (hs ++ [(DDH.mk B1 r.1.pages.length e1 B2 r.1.writes.length e2)]).length e3] :: row 25 eDDH B3 e3 (hs ++ [(DDH.mk B1 r.1.pages.length e1 B2 r.1.writes.length e2)]) :: diskso hs out :: G) [.slice B3 (hs ++ [(DDH.mk B1 r.1.pages.length e1 B2 r.1.writes.length e2)]).length e3] ?_)
   refine TA.on (fun _ hh => hh.sub kp0) ?_
   refine TA.d ?_
   exact T.end0 rfl (fun w' hh => ⟨_, rfl, rfl, B1, e1, B2, e2, B3, e3, (Hp.pushD (h := (DDH.mk B1 r.1.pages.length e1 B2 r.1.writes.length e2)) ⟨rfl, rfl⟩ (hh.ix 6 [1, 2, 5, 3, 4])).ix 3 [1, 2, 0]⟩)
  ·
   refine TA.br rfl (W1.ns 25 [.slice B1 r.1.pages.length e1, .slice B2 r.1.writes.length e2] (fun b4 => ?_))
   refine TA.on (fun _ hh => hh.sub kp0) ?_
   refine TA.j 4 rfl (W1.l (.slice A3 hs.length c3) (ld1 3) ?_)
   refine TA.on (fun _ hh => hh.sub kp0) ?_
   refine TA.j 10 rfl (W1.a (E := eDDH) (l := hs) (m := [(DDH.mk B1 r.1.pages.length e1 B2 r.1.writes.length e2)]) 4 48 (info_parts (P := Try.prog) (e := 25) (z := .agg #[.slice none 0 0, .slice none 0 0]) (size := 2) (bytes := 48) (by kernel_rfl)) (fun w' hh => src_one (E := eDDH) hh (i := 0) (by rfl) rfl) hg hm (fun B3 e3 => ?_))
   refine TA.on (fun _ hh => hh.sub kp0) ?_
   refine TA.tp 11 (.pointer (some ⟨b, 0, none⟩)) rfl (fun _ hh => hh.sub kp0) ?_
   refine TA.tp 12 (.pointer (some ⟨b, 2, none⟩)) rfl (fun _ hh => hh.sub kp0) ?_
   refine TA.j 13 rfl (W1.st 3 [.slice B1 r.1.pages.length e1, .slice B2 r.1.writes.length e2, .slice B3 (hs ++ [(DDH.mk B1 r.1.pages.length e1 B2 r.1.writes.length e2)]).length e3] (box b4 25 [.slice B1 r.1.pages.length e1, .slice B2 r.1.writes.length e2] :: row 9 eStr B1 e1 r.1.pages :: row 29 eWrite B2 e2 r.1.writes :: box b 66 [.slice B1 r.1.pages.length e1, .slice B2 r.1.writes.length e2, .slice B3 (hs ++ [(DDH.mk B1 r.1.pages.length e1 B2 r.1.writes.length e2)]).length e3] :: row 25 eDDH B3 e3 (hs ++ [(DDH.mk B1 r.1.pages.length e1 B2 r.1.writes.length e2)]) :: diskso hs out :: G) [.slice B3 (hs ++ [(DDH.mk B1 r.1.pages.length e1 B2 r.1.writes.length e2)]).length e3] ?_)
   refine TA.on (fun _ hh => hh.sub kp0) ?_
   refine TA.d ?_
   exact T.end0 rfl (fun w' hh => ⟨_, rfl, rfl, B1, e1, B2, e2, B3, e3, (Hp.pushD (h := (DDH.mk B1 r.1.pages.length e1 B2 r.1.writes.length e2)) ⟨rfl, rfl⟩ (hh.ix 6 [1, 2, 5, 3, 4])).ix 3 [1, 2, 0]⟩)
theorem put_o {F : Nat} {d : DDisk} {out : List DDisk} {i : Int} {s : ByteArray} {r : DDisk × Int} (hb : disk_Put F d i s = some r) {w : World} {V : View} {G : List HObj} {w1 : World} {b : Nat} {A1 A2 A3 : Option Addr} {c1 c2 c3 : Nat} {hs : List DDH}
    (hr : ∀ w', Hp w V (box b 66 [.slice A1 d.pages.length c1, .slice A2 d.writes.length c2, .slice A3 hs.length c3] :: row 25 eDDH A3 c3 hs :: diskso hs out :: G) w' → SlOk (vw w') eStr A1 c1 d.pages ∧ SlOk (vw w') eWrite A2 c2 d.writes)
    (hg : room (hs.length + 1) 48 = true) (hm : hs.length + 1 ≤ maxLen) (hh : Hp w V (box b 66 [.slice A1 d.pages.length c1, .slice A2 d.writes.length c2, .slice A3 hs.length c3] :: row 25 eDDH A3 c3 hs :: diskso hs out :: G) w1) :
    Calls Try.prog 35 #[.pointer (some ⟨b, 0, none⟩), .int .i64 i, .string s] w1 (fun e w2 => ∃ v, e = .returned v ∧ v = .tuple #[] ∧ ∃ (B1 : Option Addr) (e1 : Nat) (B2 : Option Addr) (e2 : Nat) (B3 : Option Addr) (e3 : Nat),
      Hp w V (box b 66 [.slice B1 r.1.pages.length e1, .slice B2 r.1.writes.length e2, .slice B3 (hs ++ [(DDH.mk B1 r.1.pages.length e1 B2 r.1.writes.length e2)]).length e3] :: row 25 eDDH B3 e3 (hs ++ [(DDH.mk B1 r.1.pages.length e1 B2 r.1.writes.length e2)]) :: diskso (hs ++ [(DDH.mk B1 r.1.pages.length e1 B2 r.1.writes.length e2)]) (out ++ [r.1]) :: G) w2) := by
 refine T.startI (l := [.pointer (some ⟨b, 0, none⟩), .int .i64 i, .string s]) Try.func35 rfl rfl rfl ?_ hh
 clear hh
 refine T.sr (T.k4 (.pointer (some ⟨b, 0, none⟩)) (.pointer (some ⟨b, 0, none⟩)) (.pointer (some ⟨b, 0, none⟩)) (.pointer (some ⟨b, 0, none⟩)) ?_)
 refine T.l (.agg #[.slice A1 d.pages.length c1, .slice A2 d.writes.length c2]) (ldN 0) ?_
 refine T.k (.int .i64 i) ?_
 refine T.k (.string s) ?_
 refine T.step (W1.callG 6 #[.agg #[.slice A1 d.pages.length c1, .slice A2 d.writes.length c2], .int .i64 i, .string s] (fun p : Option Addr × Nat × Option Addr × Nat => .tuple #[.agg #[.slice p.1 r.1.pages.length p.2.1, .slice p.2.2.1 r.1.writes.length p.2.2.2], .int .i64 r.2]) (fun p => [row 9 eStr p.1 p.2.1 r.1.pages, row 29 eWrite p.2.2.1 p.2.2.2 r.1.writes]) (fun _ => True) (by kernel_rfl) (fun _ => by kernel_rfl) (fun w' hh => disk_Put_l F d i s r hb w' A1 c1 (hr w' hh).1 A2 c2 (hr w' hh).2) ?_)
 rintro ⟨B1, e1, B2, e2⟩ _
 refine T.reH (H' := row 9 eStr B1 e1 r.1.pages :: row 29 eWrite B2 e2 r.1.writes :: box b 66 [.slice A1 d.pages.length c1, .slice A2 d.writes.length c2, .slice A3 hs.length c3] :: row 25 eDDH A3 c3 hs :: diskso hs out :: G) (by rfl) ?_
 refine T.k5 (.tuple #[.agg #[.slice B1 r.1.pages.length e1, .slice B2 r.1.writes.length e2], .int .i64 r.2]) (.agg #[.slice B1 r.1.pages.length e1, .slice B2 r.1.writes.length e2]) (.int .i64 r.2) (.pointer (some ⟨b, 0, none⟩)) (.pointer (some ⟨b, 0, none⟩)) ?_
 refine T.step (W1.st 2 [.slice B1 r.1.pages.length e1, .slice B2 r.1.writes.length e2, .slice A3 hs.length c3] (row 9 eStr B1 e1 r.1.pages :: row 29 eWrite B2 e2 r.1.writes :: box b 66 [.slice B1 r.1.pages.length e1, .slice B2 r.1.writes.length e2, .slice A3 hs.length c3] :: row 25 eDDH A3 c3 hs :: diskso hs out :: G) [.slice B1 r.1.pages.length e1, .slice B2 r.1.writes.length e2] (T.nil ?_))
 refine T.heldN [] (by kernel_rfl) ?_
 refine TA.tp 0 (.pointer (some ⟨b, 0, none⟩)) rfl (fun _ hh => hh.sub kp0) ?_
 refine TA.tp 1 (.pointer (some ⟨b, 0, none⟩)) rfl (fun _ hh => hh.sub kp0) ?_
 refine TA.tp 2 (.pointer (some ⟨b, 0, none⟩)) rfl (fun _ hh => hh.sub kp0) ?_
 refine TA.tp 3 (.pointer (some ⟨b, 2, none⟩)) rfl (fun _ hh => hh.sub kp0) ?_
 refine TA.tp 5 (.pointer (some ⟨b, 0, none⟩)) rfl (fun _ hh => hh.sub kp0) ?_
 refine TA.tp 6 (.pointer (some ⟨b, 0, none⟩)) rfl (fun _ hh => hh.sub kp0) ?_
 refine TA.tp 7 (.pointer (some ⟨b, 0, none⟩)) rfl (fun _ hh => hh.sub kp0) ?_
 refine TA.a [4, 8] ⟨?_, ?_, trivial⟩
 ·
  refine TA.br rfl (W1.l (.slice A3 hs.length c3) (ld1 2) ?_)
  refine TA.on (fun _ hh => hh.sub kp0) ?_
  refine TA.j 8 rfl (W1.l (.agg #[.slice B1 r.1.pages.length e1, .slice B2 r.1.writes.length e2]) (ldN 2) ?_)
  refine TA.on (fun _ hh => hh.sub kp0) ?_
  refine TA.j 9 rfl (W1.ns 25 [.slice B1 r.1.pages.length e1, .slice B2 r.1.writes.length e2] (fun b4 => ?_))
  refine TA.on (fun _ hh => hh.sub kp0) ?_
  refine TA.j 10 rfl (W1.a (E := eDDH) (l := hs) (m := [(DDH.mk B1 r.1.pages.length e1 B2 r.1.writes.length e2)]) 4 48 (info_parts (P := Try.prog) (e := 25) (z := .agg #[.slice none 0 0, .slice none 0 0]) (size := 2) (bytes := 48) (by kernel_rfl)) (fun w' hh => src_one (E := eDDH) hh (i := 0) (by rfl) rfl) hg hm (fun B3 e3 => ?_))
  refine TA.on (fun _ hh => hh.sub kp0) ?_
  refine TA.tp 11 (.pointer (some ⟨b, 0, none⟩)) rfl (fun _ hh => hh.sub kp0) ?_
  refine TA.tp 12 (.pointer (some ⟨b, 2, none⟩)) rfl (fun _ hh => hh.sub kp0) ?_
  refine TA.j 13 rfl (W1.st 3 [.slice B1 r.1.pages.length e1, .slice B2 r.1.writes.length e2, .slice B3 (hs ++ [(DDH.mk B1 r.1.pages.length e1 B2 r.1.writes.length e2)]).length e3] (box b4 25 [.slice B1 r.1.pages.length e1, .slice B2 r.1.writes.length e2] :: row 9 eStr B1 e1 r.1.pages :: row 29 eWrite B2 e2 r.1.writes :: box b 66 [.slice B1 r.1.pages.length e1, .slice B2 r.1.writes.length e2, .slice B3 (hs ++ [(DDH.mk B1 r.1.pages.length e1 B2 r.1.writes.length e2)]).length e3] :: row 25 eDDH B3 e3 (hs ++ [(DDH.mk B1 r.1.pages.length e1 B2 r.1.writes.length e2)]) :: diskso hs out :: G) [.slice B3 (hs ++ [(DDH.mk B1 r.1.pages.length e1 B2 r.1.writes.length e2)]).length e3] ?_)
  refine TA.on (fun _ hh => hh.sub kp0) ?_
  refine TA.d ?_
  exact T.end0 rfl (fun w' hh => ⟨_, rfl, rfl, B1, e1, B2, e2, B3, e3, (Hp.pushD (h := (DDH.mk B1 r.1.pages.length e1 B2 r.1.writes.length e2)) ⟨rfl, rfl⟩ (hh.ix 6 [1, 2, 5, 3, 4])).ix 3 [1, 2, 0]⟩)
 ·
  refine TA.br rfl (W1.l (.agg #[.slice B1 r.1.pages.length e1, .slice B2 r.1.writes.length e2]) (ldN 2) ?_)
  refine TA.on (fun _ hh => hh.sub kp0) ?_
  refine TA.a [4, 9] ⟨?_, ?_, trivial⟩
  ·
   refine TA.br rfl (W1.l (.slice A3 hs.length c3) (ld1 2) ?_)
   refine TA.on (fun _ hh => hh.sub kp0) ?_
   refine TA.j 9 rfl (W1.ns 25 [.slice B1 r.1.pages.length e1, .slice B2 r.1.writes.length e2] (fun b4 => ?_))
   refine TA.on (fun _ hh => hh.sub kp0) ?_
   refine TA.j 10 rfl (W1.a (E := eDDH) (l := hs) (m := [(DDH.mk B1 r.1.pages.length e1 B2 r.1.writes.length e2)]) 4 48 (info_parts (P := Try.prog) (e := 25) (z := .agg #[.slice none 0 0, .slice none 0 0]) (size := 2) (bytes := 48) (by kernel_rfl)) (fun w' hh => src_one (E := eDDH) hh (i := 0) (by rfl) rfl) hg hm (fun B3 e3 => ?_))
   refine TA.on (fun _ hh => hh.sub kp0) ?_
   refine TA.tp 11 (.pointer (some ⟨b, 0, none⟩)) rfl (fun _ hh => hh.sub kp0) ?_
   refine TA.tp 12 (.pointer (some ⟨b, 2, none⟩)) rfl (fun _ hh => hh.sub kp0) ?_
   refine TA.j 13 rfl (W1.st 3 [.slice B1 r.1.pages.length e1, .slice B2 r.1.writes.length e2, .slice B3 (hs ++ [(DDH.mk B1 r.1.pages.length e1 B2 r.1.writes.length e2)]).length e3] (box b4 25 [.slice B1 r.1.pages.length e1, .slice B2 r.1.writes.length e2] :: row 9 eStr B1 e1 r.1.pages :: row 29 eWrite B2 e2 r.1.writes :: box b 66 [.slice B1 r.1.pages.length e1, .slice B2 r.1.writes.length e2, .slice B3 (hs ++ [(DDH.mk B1 r.1.pages.length e1 B2 r.1.writes.length e2)]).length e3] :: row 25 eDDH B3 e3 (hs ++ [(DDH.mk B1 r.1.pages.length e1 B2 r.1.writes.length e2)]) :: diskso hs out :: G) [.slice B3 (hs ++ [(DDH.mk B1 r.1.pages.length e1 B2 r.1.writes.length e2)]).length e3] ?_)
   refine TA.on (fun _ hh => hh.sub kp0) ?_
   refine TA.d ?_
   exact T.end0 rfl (fun w' hh => ⟨_, rfl, rfl, B1, e1, B2, e2, B3, e3, (Hp.pushD (h := (DDH.mk B1 r.1.pages.length e1 B2 r.1.writes.length e2)) ⟨rfl, rfl⟩ (hh.ix 6 [1, 2, 5, 3, 4])).ix 3 [1, 2, 0]⟩)
  ·
   refine TA.br rfl (W1.ns 25 [.slice B1 r.1.pages.length e1, .slice B2 r.1.writes.length e2] (fun b4 => ?_))
   refine TA.on (fun _ hh => hh.sub kp0) ?_
   refine TA.j 4 rfl (W1.l (.slice A3 hs.length c3) (ld1 3) ?_)
   refine TA.on (fun _ hh => hh.sub kp0) ?_
   refine TA.j 10 rfl (W1.a (E := eDDH) (l := hs) (m := [(DDH.mk B1 r.1.pages.length e1 B2 r.1.writes.length e2)]) 4 48 (info_parts (P := Try.prog) (e := 25) (z := .agg #[.slice none 0 0, .slice none 0 0]) (size := 2) (bytes := 48) (by kernel_rfl)) (fun w' hh => src_one (E := eDDH) hh (i := 0) (by rfl) rfl) hg hm (fun B3 e3 => ?_))
   refine TA.on (fun _ hh => hh.sub kp0) ?_
   refine TA.tp 11 (.pointer (some ⟨b, 0, none⟩)) rfl (fun _ hh => hh.sub kp0) ?_
   refine TA.tp 12 (.pointer (some ⟨b, 2, none⟩)) rfl (fun _ hh => hh.sub kp0) ?_
   refine TA.j 13 rfl (W1.st 3 [.slice B1 r.1.pages.length e1, .slice B2 r.1.writes.length e2, .slice B3 (hs ++ [(DDH.mk B1 r.1.pages.length e1 B2 r.1.writes.length e2)]).length e3] (box b4 25 [.slice B1 r.1.pages.length e1, .slice B2 r.1.writes.length e2] :: row 9 eStr B1 e1 r.1.pages :: row 29 eWrite B2 e2 r.1.writes :: box b 66 [.slice B1 r.1.pages.length e1, .slice B2 r.1.writes.length e2, .slice B3 (hs ++ [(DDH.mk B1 r.1.pages.length e1 B2 r.1.writes.length e2)]).length e3] :: row 25 eDDH B3 e3 (hs ++ [(DDH.mk B1 r.1.pages.length e1 B2 r.1.writes.length e2)]) :: diskso hs out :: G) [.slice B3 (hs ++ [(DDH.mk B1 r.1.pages.length e1 B2 r.1.writes.length e2)]).length e3] ?_)
   refine TA.on (fun _ hh => hh.sub kp0) ?_
   refine TA.d ?_
   exact T.end0 rfl (fun w' hh => ⟨_, rfl, rfl, B1, e1, B2, e2, B3, e3, (Hp.pushD (h := (DDH.mk B1 r.1.pages.length e1 B2 r.1.writes.length e2)) ⟨rfl, rfl⟩ (hh.ix 6 [1, 2, 5, 3, 4])).ix 3 [1, 2, 0]⟩)

/-- The stepper behind a step: the last disk is the current one. -/
def Stp (w : World) (V : View) (G : List HObj) (b : Nat) (out : List DDisk) (d : DDisk) (w' : World) : Prop :=
  ∃ (A1 : Option Addr) (c1 : Nat) (A2 : Option Addr) (c2 : Nat) (A3 : Option Addr) (c3 : Nat) (hs : List DDH),
    Hp w V (box b 66 [.slice A1 d.pages.length c1, .slice A2 d.writes.length c2, .slice A3 (hs ++ [(DDH.mk A1 d.pages.length c1 A2 d.writes.length c2)]).length c3] ::
      row 25 eDDH A3 c3 (hs ++ [(DDH.mk A1 d.pages.length c1 A2 d.writes.length c2)]) :: diskso (hs ++ [(DDH.mk A1 d.pages.length c1 A2 d.writes.length c2)]) (out ++ [d]) :: G) w'
theorem Hp.nilRow {α : Type} {w0 : World} {V : View} {H : List HObj} {w : World} (hh : Hp w0 V H w) {t : TypeId} {E : Enc α} : Hp w0 V (row t E none 0 [] :: H) w :=
  hh.fresh_obj _ ⟨rfl, rfl, rfl, Nat.le_refl _, fun _ _ _ => rfl⟩ ⟨Nat.le_refl _, by decide, .inl rfl⟩ (fun b hb => by cases hb)
theorem sync_first {F : Nat} {p0 : DDisk} {r : DDisk × Int} {y : List DDisk} {w : World} {V : View} {G : List HObj} {b : Nat} {A1 A2 : Option Addr} {c1 c2 : Nat} {w1 : World} (hb : disk_Sync F p0 = some r) (hy : grow 48 ([] : List DDisk) [r.1] = some y)
    (h1 : SlOk V eStr A1 c1 p0.pages) (h2 : SlOk V eWrite A2 c2 p0.writes) (hh : Hp w V (box b 66 [.slice A1 p0.pages.length c1, .slice A2 p0.writes.length c2, .slice none 0 0] :: G) w1) :
    Calls Try.prog 32 #[.pointer (some ⟨b, 0, none⟩)] w1 (fun e w2 => ∃ v, e = .returned v ∧ v = .tuple #[] ∧ Stp w V G b [] r.1 w2) := by
  obtain ⟨g1, g2, _⟩ := grow_some hy
  refine (sync_o (out := []) (hs := []) (A3 := none) (c3 := 0) hb (fun w' h => ⟨SlOk.mono h1 h.view, SlOk.mono h2 h.view⟩) g1 g2 ((Hp.nilRow hh.nilD).ix 3 [2, 0, 1])).mono ?_
  rintro e_ w_ ⟨v, he, hv, B1, e1, B2, e2, B3, e3, h⟩
  exact ⟨v, he, hv, B1, e1, B2, e2, B3, e3, [], h⟩
theorem sync_s {F : Nat} {out : List DDisk} {d : DDisk} {r : DDisk × Int} {y : List DDisk} {w : World} {V : View} {G : List HObj} {b : Nat} {A1 A2 A3 : Option Addr} {c1 c2 c3 : Nat} {hs : List DDH} {w1 : World} (hb : disk_Sync F d = some r) (hy : grow 48 (out ++ [d]) [r.1] = some y)
    (hh : Hp w V (box b 66 [.slice A1 d.pages.length c1, .slice A2 d.writes.length c2, .slice A3 (hs ++ [(DDH.mk A1 d.pages.length c1 A2 d.writes.length c2)]).length c3] ::
      row 25 eDDH A3 c3 (hs ++ [(DDH.mk A1 d.pages.length c1 A2 d.writes.length c2)]) :: diskso (hs ++ [(DDH.mk A1 d.pages.length c1 A2 d.writes.length c2)]) (out ++ [d]) :: G) w1) :
    Calls Try.prog 32 #[.pointer (some ⟨b, 0, none⟩)] w1 (fun e w2 => ∃ v, e = .returned v ∧ v = .tuple #[] ∧ Stp w V G b (out ++ [d]) r.1 w2) := by
  obtain ⟨g1, g2, _⟩ := grow_some hy
  have hl := hh.lenD (i := 2) (by rfl)
  rw [← hl] at g1 g2
  refine (sync_o hb (fun w' h => (h.lastD (i := 2) (by rfl)).2) g1 g2 hh).mono ?_
  rintro e_ w_ ⟨v, he, hv, B1, e1, B2, e2, B3, e3, h⟩
  exact ⟨v, he, hv, B1, e1, B2, e2, B3, e3, _, h⟩
theorem put_s {F : Nat} {out : List DDisk} {d : DDisk} {i : Int} {s : ByteArray} {r : DDisk × Int} {y : List DDisk} {w : World} {V : View} {G : List HObj} {b : Nat} {A1 A2 A3 : Option Addr} {c1 c2 c3 : Nat} {hs : List DDH} {w1 : World} (hb : disk_Put F d i s = some r) (hy : grow 48 (out ++ [d]) [r.1] = some y)
    (hh : Hp w V (box b 66 [.slice A1 d.pages.length c1, .slice A2 d.writes.length c2, .slice A3 (hs ++ [(DDH.mk A1 d.pages.length c1 A2 d.writes.length c2)]).length c3] ::
      row 25 eDDH A3 c3 (hs ++ [(DDH.mk A1 d.pages.length c1 A2 d.writes.length c2)]) :: diskso (hs ++ [(DDH.mk A1 d.pages.length c1 A2 d.writes.length c2)]) (out ++ [d]) :: G) w1) :
    Calls Try.prog 35 #[.pointer (some ⟨b, 0, none⟩), .int .i64 i, .string s] w1 (fun e w2 => ∃ v, e = .returned v ∧ v = .tuple #[] ∧ Stp w V G b (out ++ [d]) r.1 w2) := by
  obtain ⟨g1, g2, _⟩ := grow_some hy
  have hl := hh.lenD (i := 2) (by rfl)
  rw [← hl] at g1 g2
  refine (put_o hb (fun w' h => (h.lastD (i := 2) (by rfl)).2) g1 g2 hh).mono ?_
  rintro e_ w_ ⟨v, he, hv, B1, e1, B2, e2, B3, e3, h⟩
  exact ⟨v, he, hv, B1, e1, B2, e2, B3, e3, _, h⟩
/-- What a call hands on: disks of its own, and a number. -/
def OwnDisks (r : List DDisk × Int) (w : World) (e : Ending) (w' : World) : Prop :=
  ∃ p : Option Addr × Nat × List DDH, e = .returned (.tuple #[.slice p.1 p.2.2.length p.2.1, .int .i64 r.2]) ∧ p.2.2.length = r.1.length ∧ Gives w w' [row 25 eDDH p.1 p.2.1 p.2.2, diskso p.2.2 r.1]
theorem no_disks {w w' : World} {V : View} {H : List HObj} {x : Int} (hh : Hp w V H w') : OwnDisks ([], x) w (.returned (.tuple #[.slice none 0 0, .int .i64 x])) w' :=
  ⟨(none, 0, []), rfl, rfl, gives_of (Hp.nilRow (Hp.nilD (hh.sub kp0))) ⟨flat_row (fun _ _ _ _ h => h), flat_disks _ _, trivial⟩⟩
theorem undo_Steps_o (F : Nat) (p0 : DDisk) (p1 : ByteArray) (p2 : (List DWrite)) (r : ((List DDisk)) × Int) (hF : undo_Steps F p0 p1 p2 = some r) (w : World) (A1 : Option Addr) (c1 : Nat) (hs1 : SlOk (vw w) eStr A1 c1 p0.pages) (A2 : Option Addr) (c2 : Nat) (hs2 : SlOk (vw w) eWrite A2 c2 p0.writes) (A3 : Option Addr) (c3 : Nat) (hs3 : SlOk (vw w) eWrite A3 c3 p2) :
    Calls Try.prog 10 #[.agg #[.slice A1 p0.pages.length c1, .slice A2 p0.writes.length c2], .string p1, .slice A3 p2.length c3] w (OwnDisks r w) := by
 unfold undo_Steps at hF
 refine T.start (l := [.agg #[.slice A1 p0.pages.length c1, .slice A2 p0.writes.length c2], .string p1, .slice A3 p2.length c3]) Try.func10 rfl rfl rfl ?_
 refine T.seq ?_
 refine T.region ?_
 refine T.step (W1.new 25 [.slice A1 p0.pages.length c1, .slice A2 p0.writes.length c2] (fun b => .pointer (some ⟨b, 0, none⟩)) (by kernel_rfl) (fun _ => by kernel_rfl) (fun b1 => ?_))
 refine T.pure (.slice none 0 0) (by kernel_rfl) (fun _ => by kernel_rfl) ?_
 refine T.pure (.int .i64 0) (by kernel_rfl) (fun _ => by kernel_rfl) ?_
 refine T.nil ?_
 refine T.seq ?_
 refine T.region ?_
 refine T.look (.agg #[.slice A1 p0.pages.length c1, .slice A2 p0.writes.length c2]) (by kernel_rfl) (fun w' hh => exec_loadN (cs := [.slice A1 p0.pages.length c1, .slice A2 p0.writes.length c2]) rfl rfl (by kernel_rfl) (by kernel_rfl) (fun j u hj => (hh.box_at (i := 0) (cs := [.slice A1 p0.pages.length c1, .slice A2 p0.writes.length c2]) (by rfl) 0 j).trans (seg_at (n := 2) (by rfl) hj))) ?_
 obtain ⟨r1, hb1, hF⟩ := Option.bind_eq_some_iff.1 hF
 refine T.step (W1.call (vT3 (vSc eInt) (vSc eStr) (vSc eInt)) r1 27 #[.agg #[.slice A1 p0.pages.length c1, .slice A2 p0.writes.length c2]] (by kernel_rfl) (fun _ => by kernel_rfl) (fun w' hh => undo_Seq_l F p0 r1 hb1 w' A1 c1 (SlOk.mono hs1 hh.view) A2 c2 (SlOk.mono hs2 hh.view)) ?_)
 intro u V1 hV1 hu
 obtain rfl := (Sure.t3 sureInt sureStr sureInt) _ _ _ hu
 refine T.pure (.tuple #[.int .i64 r1.1, .string r1.2.1, .int .i64 r1.2.2]) (by kernel_rfl) (fun _ => by kernel_rfl) ?_
 refine T.pure (.int .i64 r1.1) (by kernel_rfl) (fun _ => by kernel_rfl) ?_
 refine T.pure (.string r1.2.1) (by kernel_rfl) (fun _ => by kernel_rfl) ?_
 refine T.pure (.int .i64 r1.2.2) (by kernel_rfl) (fun _ => by kernel_rfl) ?_
 refine T.pure (.int .i64 r1.1) (by kernel_rfl) (fun _ => by kernel_rfl) ?_
 refine T.pure (.string r1.2.1) (by kernel_rfl) (fun _ => by kernel_rfl) ?_
 refine T.pure (.int .i64 r1.2.2) (by kernel_rfl) (fun _ => by kernel_rfl) ?_
 refine T.nil ?_
 refine T.seq ?_
 refine T.seq ?_
 refine T.region ?_
 refine T.pure (.int .i64 r1.2.2) (by kernel_rfl) (fun _ => by kernel_rfl) ?_
 refine T.pure (.bool (r1.2.2 != 0)) (by kernel_rfl) (fun _ => by kernel_rfl) ?_
 refine T.nil ?_
 refine T.cond (r1.2.2 != 0) (by kernel_rfl) (by kernel_rfl) (fun hc1 => ?_) (fun hc1 => ?_)
 ·
  rw [hc1, cond_true] at hF
  refine T.seq ?_
  refine T.region ?_
  refine T.pure (.int .i64 r1.2.2) (by kernel_rfl) (fun _ => by kernel_rfl) ?_
  refine T.pure (.slice none 0 0) (by kernel_rfl) (fun _ => by kernel_rfl) ?_
  refine T.pure (.int .i64 r1.2.2) (by kernel_rfl) (fun _ => by kernel_rfl) ?_
  refine T.nil ?_
  cases hF
  refine T.ret rfl ?_
  exact T.ret2 rfl (rT rfl) (rT rfl) fun w' hh => no_disks hh
 ·
  rw [hc1, cond_false] at hF
  refine T.skip_code ?_
  refine T.seq ?_
  refine T.seq ?_
  refine T.region ?_
  refine T.pure (.string p1) (by kernel_rfl) (fun _ => by kernel_rfl) ?_
  refine T.pure (.slice A3 p2.length c3) (by kernel_rfl) (fun _ => by kernel_rfl) ?_
  obtain ⟨r2, hb2, hF⟩ := Option.bind_eq_some_iff.1 hF
  refine T.step (W1.call (vSc eInt) r2 30 #[.string p1, .slice A3 p2.length c3] (by kernel_rfl) (fun _ => by kernel_rfl) (fun w' hh => undo_fit_l F p1 p2 r2 hb2 w' A3 c3 (SlOk.mono (SlOk.mono hs3 hV1) hh.view)) ?_)
  intro u V2 hV2 hu
  obtain rfl := sureInt _ _ _ hu
  refine T.pure (.int .i64 r2) (by kernel_rfl) (fun _ => by kernel_rfl) ?_
  refine T.nil ?_
  refine T.seq ?_
  refine T.region ?_
  refine T.pure (.int .i64 r2) (by kernel_rfl) (fun _ => by kernel_rfl) ?_
  refine T.pure (.bool (r2 != 0)) (by kernel_rfl) (fun _ => by kernel_rfl) ?_
  refine T.nil ?_
  refine T.cond (r2 != 0) (by kernel_rfl) (by kernel_rfl) (fun hc2 => ?_) (fun hc2 => ?_)
  ·
   rw [hc2, cond_true] at hF
   refine T.seq ?_
   refine T.region ?_
   refine T.pure (.int .i64 r2) (by kernel_rfl) (fun _ => by kernel_rfl) ?_
   refine T.pure (.slice none 0 0) (by kernel_rfl) (fun _ => by kernel_rfl) ?_
   refine T.pure (.int .i64 r2) (by kernel_rfl) (fun _ => by kernel_rfl) ?_
   refine T.nil ?_
   cases hF
   refine T.ret rfl ?_
   exact T.ret2 rfl (rT rfl) (rT rfl) fun w' hh => no_disks hh
  ·
   rw [hc2, cond_false] at hF
   refine T.skip_code ?_
   refine T.seq ?_
   refine T.seq ?_
   refine T.region ?_
   refine T.pure (.slice A3 p2.length c3) (by kernel_rfl) (fun _ => by kernel_rfl) ?_
   refine T.pure (.int .i64 (p2.length : Int)) (by kernel_rfl) (fun _ => by kernel_rfl) ?_
   refine T.pure (.int .i64 0) (by kernel_rfl) (fun _ => by kernel_rfl) ?_
   refine T.nil ?_
   obtain ⟨q1, hz1, hF⟩ := Option.bind_eq_some_iff.1 hF
   refine T.mid (fun a w' => q1 = Sum.inl () ∧ ∃ (V4 : View), View.le V2 V4 ∧ Fr 124 [(1, .string p1), (2, .slice A3 p2.length c3), (3, .pointer (some ⟨b1, 0, none⟩)), (8, .int .i64 r1.1)] a ∧ Hp w V4 [box b1 25 [.slice A1 p0.pages.length c1, .slice A2 p0.writes.length c2]] w') ?_ ?_
   ·
    refine T.block ?_
    refine T.iter (fun x1 a w' => ∃ (V3 : View), View.le V2 V3 ∧ Fr 124 [(1, .string p1), (2, .slice A3 p2.length c3), (3, .pointer (some ⟨b1, 0, none⟩)), (8, .int .i64 r1.1), (38, .slice A3 p2.length c3), (39, .int .i64 (p2.length : Int)), (40, .int .i64 x1)] a ∧ Hp w V3 [box b1 25 [.slice A1 p0.pages.length c1, .slice A2 p0.writes.length c2]] w') hz1 ?_ ?_
    ·
     exact fun a w' hf hh => Exists.intro V2 (And.intro (View.le_refl _) (And.intro ((((((((Fr.nil hf).pick hf 40 rfl).pick hf 39 rfl).pick hf 38 rfl).pick hf 8 rfl).pick hf 3 rfl).pick hf 2 rfl).pick hf 1 rfl) (hh.sub (.cons_cons _ List.Sublist.slnil))))
    ·
     rintro x1 y1 hY1 hr1 a w' ⟨V3, hV3, hf, hh⟩
     refine (?_ : T 124 w V3 [box b1 25 [.slice A1 p0.pages.length c1, .slice A2 p0.writes.length c2]] [(1, .string p1), (2, .slice A3 p2.length c3), (3, .pointer (some ⟨b1, 0, none⟩)), (8, .int .i64 r1.1), (38, .slice A3 p2.length c3), (39, .int .i64 (p2.length : Int)), (40, .int .i64 x1)] _) a w' hf hh
     clear hf hh
     try dsimp only at hY1
     refine T.seq ?_
     refine T.region ?_
     refine T.pure (.bool (decide (x1 < (p2.length : Int)))) (by kernel_rfl) (fun _ => by kernel_rfl) ?_
     refine T.nil ?_
     refine T.seq ?_
     refine T.cond (decide (x1 < (p2.length : Int))) (by kernel_rfl) (by kernel_rfl) (fun hc3 => ?_) (fun hc3 => ?_)
     ·
      rw [hc3, cond_true] at hY1
      refine T.skip_code ?_
      refine T.seq ?_
      refine T.block ?_
      refine T.seq ?_
      refine T.region ?_
      obtain ⟨e1, hb3, hY1⟩ := Option.bind_eq_some_iff.1 hY1
      obtain ⟨hi1, hi2, hi3⟩ := idx_some hb3
      refine T.look (.pointer (some ((sadr A3).add (x1.toNat * 2)))) (by kernel_rfl) (fun w' hh => exec_indexAddr (e := 29) (s := 2) rfl rfl rfl (by kernel_rfl) (by kernel_rfl) hi1 hi2 ((SlOk.mono hs3 (View.le_trans (View.le_trans hV1 hV2) hV3)).some_ hi3 (by decide))) ?_
      refine T.look (.agg #[.int .i64 e1.page, .string e1.text]) (by kernel_rfl) (fun w' hh => exec_loadN (cs := [.int .i64 e1.page, .string e1.text]) rfl rfl (by kernel_rfl) (by kernel_rfl) (fun j u hj => (hh.cell_view (SlOk.cellF (E := eWrite) (SlOk.mono hs3 (View.le_trans (View.le_trans hV1 hV2) hV3)) hi3 j (fun _ _ _ h => h) hj)))) ?_
      refine T.step (W1.new 29 [.int .i64 0, .string (ByteArray.mk #[])] (fun b => .pointer (some ⟨b, 0, none⟩)) (by kernel_rfl) (fun _ => by kernel_rfl) (fun b2 => ?_))
      refine T.step (W1.store 0 [.int .i64 e1.page, .string e1.text] [box b2 29 [.int .i64 e1.page, .string e1.text], box b1 25 [.slice A1 p0.pages.length c1, .slice A2 p0.writes.length c2]] (by rfl) rfl (by kernel_rfl) (fun w' hw => exec_store (vs := [.int .i64 e1.page, .string e1.text]) rfl rfl rfl rfl (by kernel_rfl) (one_of rfl) (by simp) rfl hw) ?_)
      refine T.nil ?_
      refine T.seq ?_
      refine T.region ?_
      refine T.look (.agg #[.slice A1 p0.pages.length c1, .slice A2 p0.writes.length c2]) (by kernel_rfl) (fun w' hh => exec_loadN (cs := [.slice A1 p0.pages.length c1, .slice A2 p0.writes.length c2]) rfl rfl (by kernel_rfl) (by kernel_rfl) (fun j u hj => (hh.box_at (i := 1) (cs := [.slice A1 p0.pages.length c1, .slice A2 p0.writes.length c2]) (by rfl) 0 j).trans (seg_at (n := 2) (by rfl) hj))) ?_
      refine T.pure (.pointer (some ⟨b2, 0, none⟩)) (by kernel_rfl) (fun _ => by kernel_rfl) ?_
      refine T.look (.int .i64 e1.page) (by kernel_rfl) (fun w' hh => exec_load1 rfl rfl (by kernel_rfl) (hh.cellBox (i := 0) (by rfl) 0)) ?_
      obtain ⟨r3, hb4, hY1⟩ := Option.bind_eq_some_iff.1 hY1
      refine T.step (W1.call (vSc eStr) r3 31 #[.agg #[.slice A1 p0.pages.length c1, .slice A2 p0.writes.length c2], .int .i64 e1.page] (by kernel_rfl) (fun _ => by kernel_rfl) (fun w' hh => disk_Seen_l F p0 e1.page r3 hb4 w' A1 c1 (SlOk.mono (SlOk.mono hs1 (View.le_trans (View.le_trans hV1 hV2) hV3)) hh.view) A2 c2 (SlOk.mono (SlOk.mono hs2 (View.le_trans (View.le_trans hV1 hV2) hV3)) hh.view)) ?_)
      intro u V5 hV5 hu
      obtain rfl := sureStr _ _ _ hu
      refine T.pure (.int .i64 (r3.size : Int)) (by kernel_rfl) (fun _ => by kernel_rfl) ?_
      refine T.pure (.bool (decide ((2900 : Int) < (r3.size : Int)))) (by kernel_rfl) (fun _ => by kernel_rfl) ?_
      refine T.nil ?_
      refine T.cond (decide ((2900 : Int) < (r3.size : Int))) (by kernel_rfl) (by kernel_rfl) (fun hc4 => ?_) (fun hc4 => ?_)
      ·
       rw [hc4, cond_true] at hY1
       refine T.seq ?_
       refine T.region ?_
       refine T.pure (.slice none 0 0) (by kernel_rfl) (fun _ => by kernel_rfl) ?_
       refine T.pure (.int .i64 2) (by kernel_rfl) (fun _ => by kernel_rfl) ?_
       refine T.nil ?_
       cases hY1
       cases (hr1 _ rfl)
       try dsimp only at hF
       cases hF
       refine T.ret rfl ?_
       exact T.ret2 rfl (rT rfl) (rT rfl) fun w' hh => no_disks hh
      ·
       rw [hc4, cond_false] at hY1
       refine T.skip_code ?_
       refine T.region ?_
       refine T.pure (.int .i64 (IntKind.i64.wrap (x1 + 1))) (by kernel_rfl) (fun _ => by kernel_rfl) ?_
       refine T.pure (.int .i64 (IntKind.i64.wrap (x1 + 1))) (by kernel_rfl) (fun _ => by kernel_rfl) ?_
       refine T.nil ?_
       cases hY1
       exact fun a w' hf hh => Exists.intro (IntKind.i64.wrap (x1 + 1)) (And.intro rfl (Exists.intro V5 (And.intro (View.le_trans hV3 hV5) (And.intro ((((((((Fr.nil hf).pick hf 40 rfl).pick hf 39 rfl).pick hf 38 rfl).pick hf 8 rfl).pick hf 3 rfl).pick hf 2 rfl).pick hf 1 rfl) (hh.sub (.cons _ (.cons_cons _ List.Sublist.slnil)))))))
     ·
      rw [hc3, cond_false] at hY1
      refine T.exit ?_
      cases hY1
      cases (hr1 _ rfl)
      exact fun a w' hf hh => And.intro rfl (Exists.intro V3 (And.intro hV3 (And.intro (((((Fr.nil hf).pick hf 8 rfl).pick hf 3 rfl).pick hf 2 rfl).pick hf 1 rfl) (hh.sub (.cons_cons _ List.Sublist.slnil)))))
   ·
    rintro a w' ⟨rfl, V4, hV4, hf, hh⟩
    try dsimp only at hF
    refine (?_ : T 124 w V4 [box b1 25 [.slice A1 p0.pages.length c1, .slice A2 p0.writes.length c2]] [(1, .string p1), (2, .slice A3 p2.length c3), (3, .pointer (some ⟨b1, 0, none⟩)), (8, .int .i64 r1.1)] _) a w' hf hh
    clear hf hh
    refine T.seq ?_
    refine T.seq ?_
    refine T.region ?_
    refine T.pure (.int .i64 r1.1) (by kernel_rfl) (fun _ => by kernel_rfl) ?_
    refine T.pure (.bool (r1.1 == 2147483647)) (by kernel_rfl) (fun _ => by kernel_rfl) ?_
    refine T.nil ?_
    refine T.cond (r1.1 == 2147483647) (by kernel_rfl) (by kernel_rfl) (fun hc5 => ?_) (fun hc5 => ?_)
    ·
     rw [hc5, cond_true] at hF
     refine T.seq ?_
     refine T.region ?_
     refine T.pure (.slice none 0 0) (by kernel_rfl) (fun _ => by kernel_rfl) ?_
     refine T.pure (.int .i64 8) (by kernel_rfl) (fun _ => by kernel_rfl) ?_
     refine T.nil ?_
     cases hF
     refine T.ret rfl ?_
     exact T.ret2 rfl (rT rfl) (rT rfl) fun w' hh => no_disks hh
    ·
     rw [hc5, cond_false] at hF
     refine T.skip_code ?_
     refine T.seq ?_
     refine T.region ?_
     refine T.look (.agg #[.slice A1 p0.pages.length c1, .slice A2 p0.writes.length c2]) (by kernel_rfl) (fun w' hh => exec_loadN (cs := [.slice A1 p0.pages.length c1, .slice A2 p0.writes.length c2]) rfl rfl (by kernel_rfl) (by kernel_rfl) (fun j u hj => (hh.box_at (i := 0) (cs := [.slice A1 p0.pages.length c1, .slice A2 p0.writes.length c2]) (by rfl) 0 j).trans (seg_at (n := 2) (by rfl) hj))) ?_
     refine T.pure (.agg #[.slice A1 p0.pages.length c1, .slice A2 p0.writes.length c2, .slice none 0 0]) (by kernel_rfl) (fun _ => by kernel_rfl) ?_
     refine T.step (W1.new 66 [.slice A1 p0.pages.length c1, .slice A2 p0.writes.length c2, .slice none 0 0] (fun b => .pointer (some ⟨b, 0, none⟩)) (by kernel_rfl) (fun _ => by kernel_rfl) (fun b3 => ?_))
     refine T.pure (.pointer (some ⟨b3, 0, none⟩)) (by kernel_rfl) (fun _ => by kernel_rfl) ?_
     refine T.nil ?_
     refine T.seq ?_
     refine T.region ?_
     refine T.pure (.pointer (some ⟨b3, 0, none⟩)) (by kernel_rfl) (fun _ => by kernel_rfl) ?_
     obtain ⟨q2, hX1, hF⟩ := Option.bind_eq_some_iff.1 hF
     obtain ⟨r4, hX1b, hX1⟩ := Option.bind_eq_some_iff.1 hX1
     obtain ⟨r4y, hX1g, hX1⟩ := Option.bind_eq_some_iff.1 hX1
     cases hX1
     try dsimp only at hF
     refine T.step (W1.callI 32 [(.pointer (some ⟨b3, 0, none⟩))] (fun v w' => v = .tuple #[] ∧ Stp w V4 [box b1 25 [.slice A1 p0.pages.length c1, .slice A2 p0.writes.length c2]] b3 [] r4.1 w') (by kernel_rfl) (fun _ => by kernel_rfl) (fun w' hh => sync_first hX1b hX1g (SlOk.mono hs1 (View.le_trans (View.le_trans hV1 hV2) hV4)) (SlOk.mono hs2 (View.le_trans (View.le_trans hV1 hV2) hV4)) hh) ?_)
     rintro v w' ⟨rfl, A7, c7, A8, c8, A9, c9, hs26, hh⟩
     refine ⟨V4, [box b3 66 [.slice A7 r4.1.pages.length c7, .slice A8 r4.1.writes.length c8, .slice A9 (hs26 ++ [(DDH.mk A7 r4.1.pages.length c7 A8 r4.1.writes.length c8)]).length c9], row 25 eDDH A9 c9 (hs26 ++ [(DDH.mk A7 r4.1.pages.length c7 A8 r4.1.writes.length c8)]), diskso (hs26 ++ [(DDH.mk A7 r4.1.pages.length c7 A8 r4.1.writes.length c8)]) ([] ++ [r4.1]), box b1 25 [.slice A1 p0.pages.length c1, .slice A2 p0.writes.length c2]], hh, ?_⟩
     clear hh
     refine T.nil ?_
     refine T.seq ?_
     refine T.sr (T.k3 (.slice A3 p2.length c3) (.int .i64 (p2.length : Int)) (.int .i64 0) (T.nil ?_))
     obtain ⟨q3, hz2, hF⟩ := Option.bind_eq_some_iff.1 hF
     refine T.mid (fun a w' => ∃ (out : List DDisk) (d : DDisk), q3 = (out ++ [d], d.pages, d.writes) ∧ Fr 124 [(1, .string p1), (2, .slice A3 p2.length c3), (8, .int .i64 r1.1), (14, (.pointer (some ⟨b3, 0, none⟩)))] a ∧ Stp w V4 [box b1 25 [.slice A1 p0.pages.length c1, .slice A2 p0.writes.length c2]] b3 out d w') ?_ ?_
     ·
      refine T.block ?_
      refine T.iter (fun s1 a w' => ∃ (out : List DDisk) (d : DDisk) (x5 : Int), s1 = (out ++ [d], d.pages, d.writes, x5) ∧ Fr 124 [(1, .string p1), (2, .slice A3 p2.length c3), (8, .int .i64 r1.1), (14, (.pointer (some ⟨b3, 0, none⟩))), (58, .slice A3 p2.length c3), (59, .int .i64 (p2.length : Int)), (60, .int .i64 x5)] a ∧ Stp w V4 [box b1 25 [.slice A1 p0.pages.length c1, .slice A2 p0.writes.length c2]] b3 out d w') hz2 ?_ ?_
      ·
       exact fun a w' hf hh => ⟨[], r4.1, 0, rfl, Fr.s hf, _, _, _, _, _, _, _, hh⟩
      ·
       rintro s1 y1 hY2 hr3 a w' ⟨out, d, x5, rfl, hf, A10, c10, A11, c11, A12, c12, hs29, hh⟩
       refine (?_ : T 124 w V4 [box b3 66 [.slice A10 d.pages.length c10, .slice A11 d.writes.length c11, .slice A12 (hs29 ++ [(DDH.mk A10 d.pages.length c10 A11 d.writes.length c11)]).length c12], row 25 eDDH A12 c12 (hs29 ++ [(DDH.mk A10 d.pages.length c10 A11 d.writes.length c11)]), diskso (hs29 ++ [(DDH.mk A10 d.pages.length c10 A11 d.writes.length c11)]) (out ++ [d]), box b1 25 [.slice A1 p0.pages.length c1, .slice A2 p0.writes.length c2]] [(1, .string p1), (2, .slice A3 p2.length c3), (8, .int .i64 r1.1), (14, (.pointer (some ⟨b3, 0, none⟩))), (58, .slice A3 p2.length c3), (59, .int .i64 (p2.length : Int)), (60, .int .i64 x5)] _) a w' hf hh
       clear hf hh
       try dsimp only at hY2
       refine T.sr (T.k (.bool (decide (x5 < (p2.length : Int)))) (T.nil ?_))
       refine T.seq ?_
       refine T.cond (decide (x5 < (p2.length : Int))) (by kernel_rfl) (by kernel_rfl) (fun hc6 => ?_) (fun hc6 => ?_)
       ·
        rw [hc6, cond_true] at hY2
        refine T.skip_code ?_
        refine T.seq ?_
        refine T.block ?_
        refine T.seq ?_
        refine T.region ?_
        refine T.k (.int .i64 x5) ?_
        obtain ⟨e2, hb7, hY2⟩ := Option.bind_eq_some_iff.1 hY2
        obtain ⟨hi4, hi5, hi6⟩ := idx_some hb7
        refine T.l (.pointer (some ((sadr A3).add (x5.toNat * 2)))) (fun w' hh => exec_indexAddr (e := 29) (s := 2) rfl rfl rfl (by kernel_rfl) (by kernel_rfl) hi4 hi5 ((SlOk.mono hs3 (View.le_trans (View.le_trans hV1 hV2) hV4)).some_ hi6 (by decide))) ?_
        refine T.l (.agg #[.int .i64 e2.page, .string e2.text]) (fun w' hh => exec_loadN (cs := [.int .i64 e2.page, .string e2.text]) rfl rfl (by kernel_rfl) (by kernel_rfl) (fun j u hj => (hh.cell_view (SlOk.cellF (E := eWrite) (SlOk.mono hs3 (View.le_trans (View.le_trans hV1 hV2) hV4)) hi6 j (fun _ _ _ h => h) hj)))) ?_
        refine T.step (W1.np 29 [.int .i64 0, .string (ByteArray.mk #[])] (fun b5 => ?_))
        refine T.k (.int .i64 x5) ?_
        refine T.step (W1.st 0 [.int .i64 e2.page, .string e2.text] ([box b5 29 [.int .i64 e2.page, .string e2.text], box b3 66 [.slice A10 d.pages.length c10, .slice A11 d.writes.length c11, .slice A12 (hs29 ++ [(DDH.mk A10 d.pages.length c10 A11 d.writes.length c11)]).length c12], row 25 eDDH A12 c12 (hs29 ++ [(DDH.mk A10 d.pages.length c10 A11 d.writes.length c11)]), diskso (hs29 ++ [(DDH.mk A10 d.pages.length c10 A11 d.writes.length c11)]) (out ++ [d]), box b1 25 [.slice A1 p0.pages.length c1, .slice A2 p0.writes.length c2]]) [.int .i64 e2.page, .string e2.text] (T.nil ?_))
        refine T.seq ?_
        refine T.quiet (by kernel_rfl) (by kernel_rfl) ?_
        refine TQ.k (.int .i64 r1.1) ?_
        refine TQ.k (.int .i64 (IntKind.i64.wrap (r1.1 + 1))) ?_
        obtain ⟨r6, hb8, hY2⟩ := Option.bind_eq_some_iff.1 hY2
        refine TQ.call (vSc eStr) r6 34 #[.int .i64 (IntKind.i64.wrap (r1.1 + 1))] (.string r6) (fun V u hu => sureStr V u _ hu) (by kernel_rfl) (fun _ => by kernel_rfl) (fun w' hh => undo_four_l F (IntKind.i64.wrap (r1.1 + 1)) r6 hb8 w') ?_
        refine TQ.k (.pointer (some ⟨b5, 0, none⟩)) ?_
        refine TQ.l (.int .i64 e2.page) (ld1 0) ?_
        obtain ⟨r7, hb9, hY2⟩ := Option.bind_eq_some_iff.1 hY2
        refine TQ.call (vSc eStr) r7 34 #[.int .i64 e2.page] (.string r7) (fun V u hu => sureStr V u _ hu) (by kernel_rfl) (fun _ => by kernel_rfl) (fun w' hh => undo_four_l F e2.page r7 hb9 w') ?_
        obtain ⟨s2, hb10, hY2⟩ := Option.bind_eq_some_iff.1 hY2
        refine TQ.l (.string s2) (fun w' hh => exec_scat rfl rfl rfl hb10) ?_
        refine TQ.k ((.pointer (some ⟨b3, 0, none⟩))) ?_
        refine TQ.k ((.pointer (some ⟨b3, 0, none⟩))) ?_
        refine TQ.k ((.pointer (some ⟨b3, 0, none⟩))) ?_
        refine TQ.l (.agg #[.slice A10 d.pages.length c10, .slice A11 d.writes.length c11]) (ldN 1) ?_
        refine TQ.k (.pointer (some ⟨b5, 0, none⟩)) ?_
        refine TQ.l (.int .i64 e2.page) (ld1 0) ?_
        obtain ⟨r8, hb11, hY2⟩ := Option.bind_eq_some_iff.1 hY2
        refine TQ.call (vSc eStr) r8 31 #[.agg #[.slice A10 d.pages.length c10, .slice A11 d.writes.length c11], .int .i64 e2.page] (.string r8) (fun V u hu => sureStr V u _ hu) (by kernel_rfl) (fun _ => by kernel_rfl) (fun w' hh => disk_Seen_l F d e2.page r8 hb11 w' A10 c10 (hh.lastD (i := 3) (by rfl)).2.1 A11 c11 (hh.lastD (i := 3) (by rfl)).2.2) ?_
        obtain ⟨s3, hb12, hY2⟩ := Option.bind_eq_some_iff.1 hY2
        refine TQ.l (.string s3) (fun w' hh => exec_scat rfl rfl rfl hb12) ?_
        refine TQ.k (.agg #[.int .i64 9, .string s3]) ?_
        obtain ⟨r9, hb13, hY2⟩ := Option.bind_eq_some_iff.1 hY2
        refine TQ.call (vT2 (vSc eStr) (vSc eInt)) r9 33 #[.agg #[.int .i64 9, .string s3]] (.tuple #[.string r9.1, .int .i64 r9.2]) (fun V u hu => (Sure.t2 sureStr sureInt) V u _ hu) (by kernel_rfl) (fun _ => by kernel_rfl) (fun w' hh => frame_Put_l F (DFrame.mk 9 s3) r9 hb13 w') ?_
        refine TQ.k (.tuple #[.string r9.1, .int .i64 r9.2]) ?_
        refine TQ.k (.string r9.1) ?_
        refine TQ.k (.int .i64 r9.2) ?_
        refine TQ.k (.string r9.1) ?_
        refine TQ.k (.int .i64 r9.2) ?_
        refine TQ.nil ?_
        refine T.region (T.k4 (.pointer (some ⟨b3, 0, none⟩)) (.int .i64 x5) (.int .i64 (IntKind.i64.wrap (101 + x5))) (.string r9.1) ?_)
        obtain ⟨q4, hX2, hY2⟩ := Option.bind_eq_some_iff.1 hY2
        obtain ⟨r10, hX2b, hX2⟩ := Option.bind_eq_some_iff.1 hX2
        obtain ⟨r10y, hX2g, hX2⟩ := Option.bind_eq_some_iff.1 hX2
        cases hX2
        try dsimp only at hY2
        refine T.step (W1.callI 35 [(.pointer (some ⟨b3, 0, none⟩)), .int .i64 (IntKind.i64.wrap (101 + x5)), .string r9.1] (fun v w' => v = .tuple #[] ∧ Stp w V4 [box b5 29 [.int .i64 e2.page, .string e2.text], box b1 25 [.slice A1 p0.pages.length c1, .slice A2 p0.writes.length c2]] b3 (out ++ [d]) r10.1 w') (by kernel_rfl) (fun _ => by kernel_rfl) (fun w' hh => put_s hX2b hX2g (hh.ix 4 [1, 2, 3, 0])) ?_)
        rintro v w' ⟨rfl, A13, c13, A14, c14, A15, c15, hs32, hh⟩
        refine ⟨V4, [box b3 66 [.slice A13 r10.1.pages.length c13, .slice A14 r10.1.writes.length c14, .slice A15 (hs32 ++ [(DDH.mk A13 r10.1.pages.length c13 A14 r10.1.writes.length c14)]).length c15], row 25 eDDH A15 c15 (hs32 ++ [(DDH.mk A13 r10.1.pages.length c13 A14 r10.1.writes.length c14)]), diskso (hs32 ++ [(DDH.mk A13 r10.1.pages.length c13 A14 r10.1.writes.length c14)]) ((out ++ [d]) ++ [r10.1]), box b5 29 [.int .i64 e2.page, .string e2.text], box b1 25 [.slice A1 p0.pages.length c1, .slice A2 p0.writes.length c2]], hh, ?_⟩
        clear hh
        refine T.nil ?_
        refine T.region (T.k2 (.int .i64 (IntKind.i64.wrap (x5 + 1))) (.int .i64 (IntKind.i64.wrap (x5 + 1))) (T.nil ?_))
        cases hY2
        exact fun a w' hf hh => ⟨_, rfl, (out ++ [d]), r10.1, _, rfl, Fr.s hf, _, _, _, _, _, _, _, hh.ix 5 [0, 1, 2, 4]⟩
       ·
        rw [hc6, cond_false] at hY2
        refine T.exit ?_
        cases hY2
        cases (hr3 _ rfl)
        exact fun a w' hf hh => ⟨out, d, rfl, Fr.s hf, _, _, _, _, _, _, _, hh⟩
     ·
      rintro a w' ⟨out, d, rfl, hf, A16, c16, A17, c17, A18, c18, hs35, hh⟩
      try dsimp only at hF
      refine (?_ : T 124 w V4 [box b3 66 [.slice A16 d.pages.length c16, .slice A17 d.writes.length c17, .slice A18 (hs35 ++ [(DDH.mk A16 d.pages.length c16 A17 d.writes.length c17)]).length c18], row 25 eDDH A18 c18 (hs35 ++ [(DDH.mk A16 d.pages.length c16 A17 d.writes.length c17)]), diskso (hs35 ++ [(DDH.mk A16 d.pages.length c16 A17 d.writes.length c17)]) (out ++ [d]), box b1 25 [.slice A1 p0.pages.length c1, .slice A2 p0.writes.length c2]] [(1, .string p1), (2, .slice A3 p2.length c3), (8, .int .i64 r1.1), (14, (.pointer (some ⟨b3, 0, none⟩)))] _) a w' hf hh
      clear hf hh
      refine T.sr (T.k (.pointer (some ⟨b3, 0, none⟩)) ?_)
      obtain ⟨q5, hX3, hF⟩ := Option.bind_eq_some_iff.1 hF
      obtain ⟨r11, hX3b, hX3⟩ := Option.bind_eq_some_iff.1 hX3
      obtain ⟨r11y, hX3g, hX3⟩ := Option.bind_eq_some_iff.1 hX3
      cases hX3
      try dsimp only at hF
      refine T.step (W1.callI 32 [(.pointer (some ⟨b3, 0, none⟩))] (fun v w' => v = .tuple #[] ∧ Stp w V4 [box b1 25 [.slice A1 p0.pages.length c1, .slice A2 p0.writes.length c2]] b3 (out ++ [d]) r11.1 w') (by kernel_rfl) (fun _ => by kernel_rfl) (fun w' hh => sync_s hX3b hX3g hh) ?_)
      rintro v w' ⟨rfl, A19, c19, A20, c20, A21, c21, hs38, hh⟩
      refine ⟨V4, [box b3 66 [.slice A19 r11.1.pages.length c19, .slice A20 r11.1.writes.length c20, .slice A21 (hs38 ++ [(DDH.mk A19 r11.1.pages.length c19 A20 r11.1.writes.length c20)]).length c21], row 25 eDDH A21 c21 (hs38 ++ [(DDH.mk A19 r11.1.pages.length c19 A20 r11.1.writes.length c20)]), diskso (hs38 ++ [(DDH.mk A19 r11.1.pages.length c19 A20 r11.1.writes.length c20)]) ((out ++ [d]) ++ [r11.1]), box b1 25 [.slice A1 p0.pages.length c1, .slice A2 p0.writes.length c2]], hh, ?_⟩
      clear hh
      refine T.nil ?_
      refine T.seq ?_
      refine T.sr (T.k3 (.slice A3 p2.length c3) (.int .i64 (p2.length : Int)) (.int .i64 0) (T.nil ?_))
      obtain ⟨q6, hz3, hF⟩ := Option.bind_eq_some_iff.1 hF
      refine T.mid (fun a w' => ∃ (out : List DDisk) (d : DDisk), q6 = (out ++ [d], d.pages, d.writes) ∧ Fr 124 [(1, .string p1), (2, .slice A3 p2.length c3), (8, .int .i64 r1.1), (14, (.pointer (some ⟨b3, 0, none⟩)))] a ∧ Stp w V4 [box b1 25 [.slice A1 p0.pages.length c1, .slice A2 p0.writes.length c2]] b3 out d w') ?_ ?_
      ·
       refine T.block ?_
       refine T.iter (fun s1 a w' => ∃ (out : List DDisk) (d : DDisk) (x5 : Int), s1 = (out ++ [d], d.pages, d.writes, x5) ∧ Fr 124 [(1, .string p1), (2, .slice A3 p2.length c3), (8, .int .i64 r1.1), (14, (.pointer (some ⟨b3, 0, none⟩))), (93, .slice A3 p2.length c3), (94, .int .i64 (p2.length : Int)), (95, .int .i64 x5)] a ∧ Stp w V4 [box b1 25 [.slice A1 p0.pages.length c1, .slice A2 p0.writes.length c2]] b3 out d w') hz3 ?_ ?_
       ·
        exact fun a w' hf hh => ⟨(out ++ [d]), r11.1, 0, rfl, Fr.s hf, _, _, _, _, _, _, _, hh⟩
       ·
        rintro s1 y1 hY3 hr6 a w' ⟨out, d, x5, rfl, hf, A22, c22, A23, c23, A24, c24, hs41, hh⟩
        refine (?_ : T 124 w V4 [box b3 66 [.slice A22 d.pages.length c22, .slice A23 d.writes.length c23, .slice A24 (hs41 ++ [(DDH.mk A22 d.pages.length c22 A23 d.writes.length c23)]).length c24], row 25 eDDH A24 c24 (hs41 ++ [(DDH.mk A22 d.pages.length c22 A23 d.writes.length c23)]), diskso (hs41 ++ [(DDH.mk A22 d.pages.length c22 A23 d.writes.length c23)]) (out ++ [d]), box b1 25 [.slice A1 p0.pages.length c1, .slice A2 p0.writes.length c2]] [(1, .string p1), (2, .slice A3 p2.length c3), (8, .int .i64 r1.1), (14, (.pointer (some ⟨b3, 0, none⟩))), (93, .slice A3 p2.length c3), (94, .int .i64 (p2.length : Int)), (95, .int .i64 x5)] _) a w' hf hh
        clear hf hh
        try dsimp only at hY3
        refine T.sr (T.k (.bool (decide (x5 < (p2.length : Int)))) (T.nil ?_))
        refine T.seq ?_
        refine T.cond (decide (x5 < (p2.length : Int))) (by kernel_rfl) (by kernel_rfl) (fun hc6 => ?_) (fun hc6 => ?_)
        ·
         rw [hc6, cond_true] at hY3
         refine T.skip_code ?_
         refine T.seq ?_
         refine T.block ?_
         refine T.seq ?_
         refine T.region ?_
         obtain ⟨e3, hb18, hY3⟩ := Option.bind_eq_some_iff.1 hY3
         obtain ⟨hi4, hi5, hi6⟩ := idx_some hb18
         refine T.l (.pointer (some ((sadr A3).add (x5.toNat * 2)))) (fun w' hh => exec_indexAddr (e := 29) (s := 2) rfl rfl rfl (by kernel_rfl) (by kernel_rfl) hi4 hi5 ((SlOk.mono hs3 (View.le_trans (View.le_trans hV1 hV2) hV4)).some_ hi6 (by decide))) ?_
         refine T.l (.agg #[.int .i64 e3.page, .string e3.text]) (fun w' hh => exec_loadN (cs := [.int .i64 e3.page, .string e3.text]) rfl rfl (by kernel_rfl) (by kernel_rfl) (fun j u hj => (hh.cell_view (SlOk.cellF (E := eWrite) (SlOk.mono hs3 (View.le_trans (View.le_trans hV1 hV2) hV4)) hi6 j (fun _ _ _ h => h) hj)))) ?_
         refine T.step (W1.np 29 [.int .i64 0, .string (ByteArray.mk #[])] (fun b5 => ?_))
         refine T.step (W1.st 0 [.int .i64 e3.page, .string e3.text] ([box b5 29 [.int .i64 e3.page, .string e3.text], box b3 66 [.slice A22 d.pages.length c22, .slice A23 d.writes.length c23, .slice A24 (hs41 ++ [(DDH.mk A22 d.pages.length c22 A23 d.writes.length c23)]).length c24], row 25 eDDH A24 c24 (hs41 ++ [(DDH.mk A22 d.pages.length c22 A23 d.writes.length c23)]), diskso (hs41 ++ [(DDH.mk A22 d.pages.length c22 A23 d.writes.length c23)]) (out ++ [d]), box b1 25 [.slice A1 p0.pages.length c1, .slice A2 p0.writes.length c2]]) [.int .i64 e3.page, .string e3.text] (T.nil ?_))
         refine T.region (T.k2 (.pointer (some ⟨b3, 0, none⟩)) (.pointer (some ⟨b5, 0, none⟩)) ?_)
         refine T.l (.int .i64 e3.page) (ld1 0) ?_
         refine T.k (.pointer (some ⟨b5, 1, none⟩)) ?_
         refine T.l (.string e3.text) (ld1 0) ?_
         obtain ⟨q7, hX4, hY3⟩ := Option.bind_eq_some_iff.1 hY3
         obtain ⟨r12, hX4b, hX4⟩ := Option.bind_eq_some_iff.1 hX4
         obtain ⟨r12y, hX4g, hX4⟩ := Option.bind_eq_some_iff.1 hX4
         cases hX4
         try dsimp only at hY3
         refine T.step (W1.callI 35 [(.pointer (some ⟨b3, 0, none⟩)), .int .i64 e3.page, .string e3.text] (fun v w' => v = .tuple #[] ∧ Stp w V4 [box b5 29 [.int .i64 e3.page, .string e3.text], box b1 25 [.slice A1 p0.pages.length c1, .slice A2 p0.writes.length c2]] b3 (out ++ [d]) r12.1 w') (by kernel_rfl) (fun _ => by kernel_rfl) (fun w' hh => put_s hX4b hX4g (hh.ix 4 [1, 2, 3, 0])) ?_)
         rintro v w' ⟨rfl, A25, c25, A26, c26, A27, c27, hs44, hh⟩
         refine ⟨V4, [box b3 66 [.slice A25 r12.1.pages.length c25, .slice A26 r12.1.writes.length c26, .slice A27 (hs44 ++ [(DDH.mk A25 r12.1.pages.length c25 A26 r12.1.writes.length c26)]).length c27], row 25 eDDH A27 c27 (hs44 ++ [(DDH.mk A25 r12.1.pages.length c25 A26 r12.1.writes.length c26)]), diskso (hs44 ++ [(DDH.mk A25 r12.1.pages.length c25 A26 r12.1.writes.length c26)]) ((out ++ [d]) ++ [r12.1]), box b5 29 [.int .i64 e3.page, .string e3.text], box b1 25 [.slice A1 p0.pages.length c1, .slice A2 p0.writes.length c2]], hh, ?_⟩
         clear hh
         refine T.nil ?_
         refine T.region (T.k2 (.int .i64 (IntKind.i64.wrap (x5 + 1))) (.int .i64 (IntKind.i64.wrap (x5 + 1))) (T.nil ?_))
         cases hY3
         exact fun a w' hf hh => ⟨_, rfl, (out ++ [d]), r12.1, _, rfl, Fr.s hf, _, _, _, _, _, _, _, hh.ix 5 [0, 1, 2, 4]⟩
        ·
         rw [hc6, cond_false] at hY3
         refine T.exit ?_
         cases hY3
         cases (hr6 _ rfl)
         exact fun a w' hf hh => ⟨out, d, rfl, Fr.s hf, _, _, _, _, _, _, _, hh⟩
      ·
       rintro a w' ⟨out, d, rfl, hf, A28, c28, A29, c29, A30, c30, hs47, hh⟩
       try dsimp only at hF
       refine (?_ : T 124 w V4 [box b3 66 [.slice A28 d.pages.length c28, .slice A29 d.writes.length c29, .slice A30 (hs47 ++ [(DDH.mk A28 d.pages.length c28 A29 d.writes.length c29)]).length c30], row 25 eDDH A30 c30 (hs47 ++ [(DDH.mk A28 d.pages.length c28 A29 d.writes.length c29)]), diskso (hs47 ++ [(DDH.mk A28 d.pages.length c28 A29 d.writes.length c29)]) (out ++ [d]), box b1 25 [.slice A1 p0.pages.length c1, .slice A2 p0.writes.length c2]] [(1, .string p1), (2, .slice A3 p2.length c3), (8, .int .i64 r1.1), (14, (.pointer (some ⟨b3, 0, none⟩)))] _) a w' hf hh
       clear hf hh
       refine T.sr (T.k (.pointer (some ⟨b3, 0, none⟩)) ?_)
       obtain ⟨q8, hX5, hF⟩ := Option.bind_eq_some_iff.1 hF
       obtain ⟨r13, hX5b, hX5⟩ := Option.bind_eq_some_iff.1 hX5
       obtain ⟨r13y, hX5g, hX5⟩ := Option.bind_eq_some_iff.1 hX5
       cases hX5
       try dsimp only at hF
       refine T.step (W1.callI 32 [(.pointer (some ⟨b3, 0, none⟩))] (fun v w' => v = .tuple #[] ∧ Stp w V4 [box b1 25 [.slice A1 p0.pages.length c1, .slice A2 p0.writes.length c2]] b3 (out ++ [d]) r13.1 w') (by kernel_rfl) (fun _ => by kernel_rfl) (fun w' hh => sync_s hX5b hX5g hh) ?_)
       rintro v w' ⟨rfl, A31, c31, A32, c32, A33, c33, hs50, hh⟩
       refine ⟨V4, [box b3 66 [.slice A31 r13.1.pages.length c31, .slice A32 r13.1.writes.length c32, .slice A33 (hs50 ++ [(DDH.mk A31 r13.1.pages.length c31 A32 r13.1.writes.length c32)]).length c33], row 25 eDDH A33 c33 (hs50 ++ [(DDH.mk A31 r13.1.pages.length c31 A32 r13.1.writes.length c32)]), diskso (hs50 ++ [(DDH.mk A31 r13.1.pages.length c31 A32 r13.1.writes.length c32)]) ((out ++ [d]) ++ [r13.1]), box b1 25 [.slice A1 p0.pages.length c1, .slice A2 p0.writes.length c2]], hh, ?_⟩
       clear hh
       refine T.nil ?_
       refine T.sr (T.k3 (.int .i64 r1.1) (.int .i64 (IntKind.i64.wrap (r1.1 + 1))) (.string p1) ?_)
       obtain ⟨r14, hb23, hF⟩ := Option.bind_eq_some_iff.1 hF
       refine T.step (W1.call (vT2 (vSc eStr) (vSc eInt)) r14 36 #[.int .i64 (IntKind.i64.wrap (r1.1 + 1)), .string p1] (by kernel_rfl) (fun _ => by kernel_rfl) (fun w' hh => undo_Head_l F (IntKind.i64.wrap (r1.1 + 1)) p1 r14 hb23 w') ?_)
       intro u V20 hV20 hu
       obtain rfl := (Sure.t2 sureStr sureInt) _ _ _ hu
       refine T.k5 (.tuple #[.string r14.1, .int .i64 r14.2]) (.string r14.1) (.int .i64 r14.2) (.string r14.1) (.int .i64 r14.2) (T.nil ?_)
       refine T.sr (T.k2 (.pointer (some ⟨b3, 0, none⟩)) (.string r14.1) ?_)
       obtain ⟨q9, hX6, hF⟩ := Option.bind_eq_some_iff.1 hF
       obtain ⟨r15, hX6b, hX6⟩ := Option.bind_eq_some_iff.1 hX6
       obtain ⟨r15y, hX6g, hX6⟩ := Option.bind_eq_some_iff.1 hX6
       cases hX6
       try dsimp only at hF
       refine T.step (W1.callI 35 [(.pointer (some ⟨b3, 0, none⟩)), .int .i64 0, .string r14.1] (fun v w' => v = .tuple #[] ∧ Stp w V20 [box b1 25 [.slice A1 p0.pages.length c1, .slice A2 p0.writes.length c2]] b3 (out ++ [d] ++ [r13.1]) r15.1 w') (by kernel_rfl) (fun _ => by kernel_rfl) (fun w' hh => put_s hX6b hX6g hh) ?_)
       rintro v w' ⟨rfl, A34, c34, A35, c35, A36, c36, hs53, hh⟩
       refine ⟨V20, [box b3 66 [.slice A34 r15.1.pages.length c34, .slice A35 r15.1.writes.length c35, .slice A36 (hs53 ++ [(DDH.mk A34 r15.1.pages.length c34 A35 r15.1.writes.length c35)]).length c36], row 25 eDDH A36 c36 (hs53 ++ [(DDH.mk A34 r15.1.pages.length c34 A35 r15.1.writes.length c35)]), diskso (hs53 ++ [(DDH.mk A34 r15.1.pages.length c34 A35 r15.1.writes.length c35)]) ((out ++ [d] ++ [r13.1]) ++ [r15.1]), box b1 25 [.slice A1 p0.pages.length c1, .slice A2 p0.writes.length c2]], hh, ?_⟩
       clear hh
       refine T.nil ?_
       refine T.sr (T.k (.pointer (some ⟨b3, 0, none⟩)) ?_)
       obtain ⟨q10, hX7, hF⟩ := Option.bind_eq_some_iff.1 hF
       obtain ⟨r16, hX7b, hX7⟩ := Option.bind_eq_some_iff.1 hX7
       obtain ⟨r16y, hX7g, hX7⟩ := Option.bind_eq_some_iff.1 hX7
       cases hX7
       try dsimp only at hF
       refine T.step (W1.callI 32 [(.pointer (some ⟨b3, 0, none⟩))] (fun v w' => v = .tuple #[] ∧ Stp w V20 [box b1 25 [.slice A1 p0.pages.length c1, .slice A2 p0.writes.length c2]] b3 (out ++ [d] ++ [r13.1] ++ [r15.1]) r16.1 w') (by kernel_rfl) (fun _ => by kernel_rfl) (fun w' hh => sync_s hX7b hX7g hh) ?_)
       rintro v w' ⟨rfl, A37, c37, A38, c38, A39, c39, hs56, hh⟩
       refine ⟨V20, [box b3 66 [.slice A37 r16.1.pages.length c37, .slice A38 r16.1.writes.length c38, .slice A39 (hs56 ++ [(DDH.mk A37 r16.1.pages.length c37 A38 r16.1.writes.length c38)]).length c39], row 25 eDDH A39 c39 (hs56 ++ [(DDH.mk A37 r16.1.pages.length c37 A38 r16.1.writes.length c38)]), diskso (hs56 ++ [(DDH.mk A37 r16.1.pages.length c37 A38 r16.1.writes.length c38)]) ((out ++ [d] ++ [r13.1] ++ [r15.1]) ++ [r16.1]), box b1 25 [.slice A1 p0.pages.length c1, .slice A2 p0.writes.length c2]], hh, ?_⟩
       clear hh
       refine T.nil ?_
       refine T.sr (T.k3 (.pointer (some ⟨b3, 0, none⟩)) (.pointer (some ⟨b3, 0, none⟩)) (.pointer (some ⟨b3, 2, none⟩)) ?_)
       refine T.l (.slice A39 (hs56 ++ [(DDH.mk A37 r16.1.pages.length c37 A38 r16.1.writes.length c38)]).length c39) (ld1 0) ?_
       refine T.k2 (.slice A39 (hs56 ++ [(DDH.mk A37 r16.1.pages.length c37 A38 r16.1.writes.length c38)]).length c39) (.int .i64 0) (T.nil ?_)
       cases hF
       refine T.ret rfl ?_
       exact T.ret2 rfl (rT rfl) (rT rfl) fun w' hh => ⟨(A39, c39, hs56 ++ [(DDH.mk A37 r16.1.pages.length c37 A38 r16.1.writes.length c38)]), rfl, hh.lenD (i := 2) (by rfl), gives_of (Hp.sub hh (dr1 (kp2 kp0))) ⟨flat_row (fun _ _ _ _ h => h), flat_disks _ _, trivial⟩⟩
end Go.Proofs.Ytjhkfonoobmecaa
