/- The types of the parameters, opened: written by walkgen.py. Its conditions: none. -/
import Derived.Test.YtgpcpllkcehheaaLaw
namespace Go.Proofs.Ytgpcpllkcehheaa
open Go.RowKit

theorem prog_own : ownKnob Try.prog.godebug = none := by kernel_rfl
theorem prog_laid : laidOutB Try.prog = true := by kernel_rfl
theorem op31 : Opens Try.prog 31 eKey okKey := opens_key Try.underlying31 (by kernel_rfl) rfl (by kernel_rfl) (opens_int Try.underlying3) rfl (by kernel_rfl) (opens_int Try.underlying3) rfl (by kernel_rfl) (opens_int Try.underlying3)
theorem op33 : Opens Try.prog 33 eElem okElem := opens_elem Try.underlying33 (by kernel_rfl) rfl (by kernel_rfl) op31 rfl (by kernel_rfl) (opens_int Try.underlying3) rfl (by kernel_rfl) (opens_int Try.underlying3) rfl (by kernel_rfl) (opens_str Try.underlying9)
theorem op39 : Opens Try.prog 39 eSpot okSpot := opens_spot Try.underlying39 (by kernel_rfl) rfl (by kernel_rfl) op31 rfl (by kernel_rfl) (opens_int Try.underlying3)
theorem op44 : Opens Try.prog 44 eFrame okFrame := opens_frame Try.underlying44 (by kernel_rfl) rfl (by kernel_rfl) (opens_int Try.underlying3) rfl (by kernel_rfl) (opens_str Try.underlying9)
theorem op59 : Opens Try.prog 59 (eList eElem) (okAllW 56 okElem) := opens_list Try.underlying59 (by kernel_rfl) (by kernel_rfl) op33
end Go.Proofs.Ytgpcpllkcehheaa
