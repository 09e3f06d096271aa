/- The program logic's rules for arrays at an index that is not known. Its conditions: none. -/
import Derived.Test.YtacjdfhllomccaaGreatDoorDataJ
import Derived.Test.YtacjdfhllomccaaGreatDoorOpsJ
namespace Go.Proofs.YtacjdfhllomccaaGreatDoor
open Go.RowKit
set_option linter.unusedVariables false
section
variable {P : Program} {M : List (Nat × Value)} {o : Oper} {N : Sz} {w0 w : World} {V : View} {H : List HObj}
end
section
variable {P : Program} {M : List (Nat × Value)} {o : Oper} {N : Sz} {w0 w : World} {V : View} {H : List HObj} {α : Type} {E : Enc α} {φ : Act → World → Prop}
end
section
variable {N : Sz} {M : List (Nat × Value)} {w0 w : World} {V : View} {H H' : List HObj} {α : Type} {E : Enc α} {φ : Act → World → Prop} {p : Bool} {e : TypeId} {A : Option Addr} {c : Nat} {l : List α}
end
theorem T.end0 {P : Program} {fn : Func} {R : Ending → World → Prop} {N : Sz} {M : List (Nat × Value)} {w0 : World} {V : View} {H : List HObj} (hr : fn.results = #[]) (h : ∀ w, Hp w0 V H w → R (.returned (.tuple #[])) w) (hN : N.ds = [] := by rfl) : T N w0 V H M (bodyPost P fn R .normal) :=
 fun a w hf hh => ⟨by rw [hf.defers, hN]; rfl, _, by simp [results, hr], h w hh⟩
end Go.Proofs.YtacjdfhllomccaaGreatDoor
