/- The Go functions of group Rep compute the pure functions of that group: written by walkgen.py. Condition of each: the pure function yields a result. -/
import Derived.Test.YtaodaihoglcinacLay
import Derived.Test.YtaodaihoglcinacRepF
import Derived.Test.YtaodaihoglcinacEqL
namespace Go.Proofs.Ytaodaihoglcinac
set_option linter.unusedVariables false

theorem strings_Repeat_l (p0 : ByteArray) (p1 : Int) (r : ByteArray) (hF : strings_Repeat p0 p1 = some r) (w : World) :
    Calls Try.prog 5 #[.string p0, .int .i64 p1] w (Post (vSc eStr) r w) := by
  unfold strings_Repeat at hF
  split at hF
  case isTrue h =>
    cases hF
    obtain ⟨n, rfl⟩ := Int.eq_ofNat_of_zero_le h.1
    have h1 : n ≤ 100000 := by omega
    have h2 : p0.size * n ≤ 100000 * 100000 := Nat.mul_le_mul h.2.2 h1
    refine (Try.strings_Repeat p0 n w (by omega) (by omega)).mono ?_
    rintro e w1 ⟨rfl, hb⟩
    exact ⟨_, rfl, hb, rfl⟩
  case isFalse => cases hF

end Go.Proofs.Ytaodaihoglcinac
