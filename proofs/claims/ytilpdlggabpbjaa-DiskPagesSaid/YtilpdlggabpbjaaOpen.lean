/- The types of the parameters, opened: written by walkgen.py. Its conditions: none. -/
import Derived.Test.YtilpdlggabpbjaaLaw
namespace Go.Proofs.Ytilpdlggabpbjaa
open Go.RowKit

theorem prog_own : ownKnob Try.prog.godebug = none := by kernel_rfl
theorem prog_laid : laidOutB Try.prog = true := by kernel_rfl
theorem op22 : Opens Try.prog 22 (eList eStr) (okAllW 16 okStrW) := opens_list Try.underlying22 (by kernel_rfl) (by kernel_rfl) (opens_str Try.underlying9)
theorem op42 : Opens Try.prog 42 eWrite okWrite := opens_write Try.underlying42 (by kernel_rfl) rfl (by kernel_rfl) (opens_int Try.underlying3) rfl (by kernel_rfl) (opens_str Try.underlying9)
theorem op23 : Opens Try.prog 23 (eList eWrite) (okAllW 24 okWrite) := opens_list Try.underlying23 (by kernel_rfl) (by kernel_rfl) op42
theorem op25 : Opens Try.prog 25 eDisk okDisk := opens_disk Try.underlying25 (by kernel_rfl) rfl (by kernel_rfl) op22 rfl (by kernel_rfl) op23
theorem op36 : Opens Try.prog 36 (eList eBool) (okAllW 1 (fun _ => True)) := opens_list Try.underlying36 (by kernel_rfl) (by kernel_rfl) (opens_bool Try.underlying4)
end Go.Proofs.Ytilpdlggabpbjaa
