/- The Go functions of group LibD compute the pure functions of that group: written by walkgen.py. Condition of each: the pure function yields a result. -/
import Derived.Test.YtaccejbajgmdnaaDoorLibL
import Derived.Test.YtaccejbajgmdnaaDoorLayB
import Derived.Test.YtaccejbajgmdnaaDoorBld
import Derived.Test.YtaccejbajgmdnaaDoorLibDF
import Derived.Test.YtaccejbajgmdnaaDoorEqL
namespace Go.Proofs.YtaccejbajgmdnaaDoor
set_option linter.unusedVariables false

theorem strings_Split_l (p0 : ByteArray) (p1 : ByteArray) (r : List ByteArray) (hF : strings_Split p0 p1 = some r) (w : World) (hGl : Glob w) :
    Calls Tryd.prog 58 #[.string p0, .string p1] w (Post (vSc (eList eStr)) r w) := by
  unfold strings_Split at hF
  split at hF
  case isTrue h =>
    cases hF
    obtain ⟨m, hm⟩ := hGl.len
    refine (Tryd.strings_Split p0 p1 m w h.1 hm h.2).mono ?_
    rintro e w1 ⟨rfl, rfl⟩
    exact splitPost w _ _ _ (Lib.splitB_all p1 h.2 0 _ p0 rfl) (by have := Lib.countB_le p1 h.2 _ p0 (Nat.le_refl _); unfold maxLen; omega)
  case isFalse => cases hF

theorem strings_Count_l (p0 : ByteArray) (p1 : ByteArray) (r : Int) (hF : strings_Count p0 p1 = some r) (w : World) :
    Calls Tryd.prog 16 #[.string p0, .string p1] w (Post (vSc eInt) r w) := by
  unfold strings_Count at hF
  split at hF
  case h_1 c hc =>
    cases hF
    have e1 : p1 = ⟨#[c]⟩ := by cases p1 with | mk d => congr 1; rw [← Array.toList_inj]; exact hc
    subst e1
    refine (Tryd.strings_Count_one p0 c w).mono ?_
    rintro e w1 ⟨rfl, rfl⟩
    exact ⟨_, rfl, RowKit.Below.refl _ _, rfl⟩
  case h_2 => cases hF

theorem strings_HasSuffix_l (p0 : ByteArray) (p1 : ByteArray) (r : Bool) (hF : strings_HasSuffix p0 p1 = some r) (w : World) :
    Calls Tryd.prog 18 #[.string p0, .string p1] w (Post (vSc eBool) r w) := by
  unfold strings_HasSuffix at hF
  split at hF
  case isTrue h =>
    cases hF
    refine (Tryd.strings_HasSuffix p0 p1 w h).mono ?_
    rintro e w1 ⟨rfl, rfl⟩
    exact ⟨_, rfl, RowKit.Below.refl _ _, rfl⟩
  case isFalse => cases hF

theorem strings_IndexByte_l (p0 : ByteArray) (p1 : Int) (r : Int) (hF : strings_IndexByte p0 p1 = some r) (w : World) :
    Calls Tryd.prog 84 #[.string p0, .int .u8 p1] w (Post (vSc eInt) r w) := by
  cases hF
  refine (Tryd.strings_IndexByte p0 p1 w).mono ?_
  rintro e w1 ⟨rfl, rfl⟩
  exact ⟨_, rfl, RowKit.Below.refl _ _, rfl⟩

end Go.Proofs.YtaccejbajgmdnaaDoor
