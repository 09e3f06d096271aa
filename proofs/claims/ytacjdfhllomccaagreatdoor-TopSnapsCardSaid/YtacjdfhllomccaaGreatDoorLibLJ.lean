/- The Go functions of group Lib compute the pure functions of that group: written by walkgen.py. Condition of each: the pure function yields a result. -/
import Derived.Test.YtacjdfhllomccaaGreatDoorLayJ
import Derived.Test.YtacjdfhllomccaaGreatDoorErrJ
import Derived.Test.YtacjdfhllomccaaGreatDoorLibFJ
import Derived.Test.YtacjdfhllomccaaGreatDoorEqLJ
namespace Go.Proofs.YtacjdfhllomccaaGreatDoor
set_option linter.unusedVariables false
theorem strings_Cut_l (p0 : ByteArray) (p1 : ByteArray) (r : ByteArray × ByteArray × Bool) (hF : strings_Cut p0 p1 = some r) (w : World) (hGl : Glob w) :
 Calls Tryz.prog 123 #[.string p0, .string p1] w (Post (vT3 (vSc eStr) (vSc eStr) (vSc eBool)) r w) := by
 unfold strings_Cut at hF
 split at hF
 case isTrue h =>
  cases hF
  obtain ⟨m, hm⟩ := hGl.len
  refine (Tryz.strings_Cut p0 p1 m w h hm).mono ?_
  rintro e w1 ⟨rfl, n, rfl⟩
  exact ⟨_, rfl, gl_draws w n, ⟨_, _, _, rfl, rfl, rfl, rfl⟩⟩
 case isFalse => cases hF
theorem strconv_Atoi_l (p0 : ByteArray) (r : Int × Bool) (hF : strconv_Atoi p0 = some r) (w : World) (hGl : Glob w) :
 Calls Tryz.prog 124 #[.string p0] w (Post (vT2 (vSc eInt) vErr) r w) := by
 unfold strconv_Atoi at hF
 by_cases h : p0.size ≤ 281474976710656
 · rw [if_pos h] at hF
   cases hv : Lib.atoiAll p0.data.toList with
   | ok v =>
    rw [hv] at hF
    cases hF
    refine (Tryz.strconv_Atoi_ok p0 (by omega) v hv w).mono ?_
    rintro e w1 ⟨rfl, hw⟩
    refine ⟨_, rfl, ?_, ⟨_, _, rfl, rfl, ⟨0, .nilIface, rfl⟩⟩⟩
    rcases hw with rfl | ⟨t, rfl⟩
    · exact RowKit.Below.refl _ _
    · exact gl_bytes w 5 t
   | range =>
    rw [hv] at hF
    cases hF
    obtain ⟨t, p, hs⟩ := hGl.rng
    refine (Tryz.strconv_Atoi_range p0 h hv _ w hs (.inr ⟨t, p, rfl⟩)).mono ?_
    rintro e w1 ⟨N, rfl, _, _, hb⟩
    exact ⟨_, rfl, hb, ⟨_, _, rfl, rfl, ⟨_, _, rfl⟩⟩⟩
   | _ =>
    rw [hv] at hF
    cases hF
    obtain ⟨t, p, hs⟩ := hGl.syn
    refine (Tryz.strconv_Atoi_syntax p0 h hv _ w hs (.inr ⟨t, p, rfl⟩)).mono ?_
    rintro e w1 ⟨N, rfl, _, _, hb⟩
    exact ⟨_, rfl, hb, ⟨_, _, rfl, rfl, ⟨_, _, rfl⟩⟩⟩
 · rw [if_neg h] at hF; cases hF
theorem strconv_Itoa_l (p0 : Int) (r : ByteArray) (hF : strconv_Itoa p0 = some r) (w : World) (hGl : Glob w) :
 Calls Tryz.prog 95 #[.int .i64 p0] w (Post (vSc eStr) r w) := by
 unfold strconv_Itoa at hF
 split at hF
 case isTrue h =>
  cases hF
  refine (Tryz.strconv_Itoa p0 h.1 h.2 w hGl.tab).mono ?_
  rintro e w1 ⟨rfl, k, os, rfl⟩
  exact ⟨_, rfl, gl_grow w k os, rfl⟩
 case isFalse => cases hF
end Go.Proofs.YtacjdfhllomccaaGreatDoor
