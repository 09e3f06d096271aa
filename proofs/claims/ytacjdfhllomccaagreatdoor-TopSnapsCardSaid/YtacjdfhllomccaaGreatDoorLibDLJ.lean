/- Pure functions, written by walkgen.py out of the Go functions of group LibD. Their conditions: none. -/
import Derived.Test.YtacjdfhllomccaaGreatDoorLibFJ
import Derived.Test.YtacjdfhllomccaaGreatDoorLayBJ
import Derived.Test.YtacjdfhllomccaaGreatDoorBldJ
import Derived.Test.YtacjdfhllomccaaGreatDoorMapJ
import Derived.Test.YtacjdfhllomccaaGreatDoorLibLJ
import Derived.Test.YtacjdfhllomccaaGreatDoorEqLJ
namespace Go.Proofs.YtacjdfhllomccaaGreatDoor
set_option linter.unusedVariables false
def strings_Split (p0 : ByteArray) (p1 : ByteArray) : Option (List ByteArray) :=
 if p0.size < 4294967281 ∧ 1 ≤ p1.size then some (Lib.splitB p1 0 (Lib.countB p0 p1) p0) else none
end Go.Proofs.YtacjdfhllomccaaGreatDoor
/- The Go functions of group LibD compute the pure functions of that group: written by walkgen.py. Condition of each: the pure function yields a result. -/
namespace Go.Proofs.YtacjdfhllomccaaGreatDoor
set_option linter.unusedVariables false
theorem strings_Split_l (p0 : ByteArray) (p1 : ByteArray) (r : List ByteArray) (hF : strings_Split p0 p1 = some r) (w : World) (hGl : Glob w) :
 Calls Tryz.prog 118 #[.string p0, .string p1] w (Post (vSc (eList eStr)) r w) := by
 unfold strings_Split at hF
 split at hF
 case isTrue h =>
  cases hF
  obtain ⟨m, hm⟩ := hGl.len
  refine (Tryz.strings_Split p0 p1 m w h.1 hm h.2).mono ?_
  rintro e w1 ⟨rfl, rfl⟩
  exact splitPost w _ _ _ (Lib.splitB_all p1 h.2 0 _ p0 rfl) (by have := Lib.countB_le p1 h.2 _ p0 (Nat.le_refl _); unfold maxLen; omega)
 case isFalse => cases hF
end Go.Proofs.YtacjdfhllomccaaGreatDoor
