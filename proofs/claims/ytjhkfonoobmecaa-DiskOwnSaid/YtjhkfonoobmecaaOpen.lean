/- The types of the parameters, opened: written by walkgen.py. Its conditions: none. -/
import Derived.Test.YtjhkfonoobmecaaRows
import Derived.Test.YtjhkfonoobmecaaLaw
namespace Go.Proofs.Ytjhkfonoobmecaa
open Go.RowKit

theorem prog_own : ownKnob Try.prog.godebug = none := by kernel_rfl
theorem prog_laid : laidOutB Try.prog = true := by kernel_rfl
theorem op29 : Opens Try.prog 29 eWrite okWrite := opens_write Try.underlying29 (by kernel_rfl) rfl (by kernel_rfl) (opens_int Try.underlying3) rfl (by kernel_rfl) (opens_str Try.underlying9)
theorem op23 : Opens Try.prog 23 (eList eWrite) (okAllW 24 okWrite) := opens_list Try.underlying23 (by kernel_rfl) (by kernel_rfl) op29
theorem op22 : Opens Try.prog 22 (eList eStr) (okAllW 16 okStrW) := opens_list Try.underlying22 (by kernel_rfl) (by kernel_rfl) (opens_str Try.underlying9)
theorem op25 : Opens Try.prog 25 eDisk okDisk := opens_disk Try.underlying25 (by kernel_rfl) rfl (by kernel_rfl) op22 rfl (by kernel_rfl) op23
set_option maxRecDepth 100000
def orderSigns : List Char := [.ofNat 104, .ofNat 97, .ofNat 114, .ofNat 110, .ofNat 101, .ofNat 115, .ofNat 115, .ofNat 32, .ofNat 99, .ofNat 55, .ofNat 54, .ofNat 54, .ofNat 56, .ofNat 101, .ofNat 51, .ofNat 50, .ofNat 97, .ofNat 55, .ofNat 51, .ofNat 49, .ofNat 55, .ofNat 101, .ofNat 49, .ofNat 52, .ofNat 56, .ofNat 57, .ofNat 98, .ofNat 56, .ofNat 52, .ofNat 56, .ofNat 99, .ofNat 54, .ofNat 98, .ofNat 56, .ofNat 48, .ofNat 100, .ofNat 101, .ofNat 56, .ofNat 101, .ofNat 51, .ofNat 49, .ofNat 56, .ofNat 53, .ofNat 55, .ofNat 98, .ofNat 99, .ofNat 102, .ofNat 50, .ofNat 52, .ofNat 49, .ofNat 51, .ofNat 56, .ofNat 100, .ofNat 57, .ofNat 51, .ofNat 52, .ofNat 56, .ofNat 57, .ofNat 98, .ofNat 102, .ofNat 50, .ofNat 99, .ofNat 48, .ofNat 50, .ofNat 53, .ofNat 98, .ofNat 54, .ofNat 102, .ofNat 102, .ofNat 49, .ofNat 57, .ofNat 100, .ofNat 32, .ofNat 99, .ofNat 117, .ofNat 116, .ofNat 32, .ofNat 97, .ofNat 116, .ofNat 32, .ofNat 97, .ofNat 110, .ofNat 110, .ofNat 97, .ofNat 108, .ofNat 105, .ofNat 115, .ofNat 116, .ofNat 47, .ofNat 97, .ofNat 110, .ofNat 110, .ofNat 97, .ofNat 108, .ofNat 107, .ofNat 101, .ofNat 101, .ofNat 112, .ofNat 46, .ofNat 68, .ofNat 105, .ofNat 115, .ofNat 107, .ofNat 79, .ofNat 119, .ofNat 110]
theorem order_text : Try.prog.initOrder = "harness c7668e32a7317e1489b848c6b80de8e31857bcf24138d93489bf2c025b6ff19d cut at annalist/annalkeep.DiskOwn" := by kernel_rfl
theorem order_signs : ("harness c7668e32a7317e1489b848c6b80de8e31857bcf24138d93489bf2c025b6ff19d cut at annalist/annalkeep.DiskOwn" : String) = String.ofList orderSigns := by kernel_rfl
theorem prog_order : Try.prog.initOrder.toList = orderSigns := by rw [order_text, order_signs]; exact String.toList_ofList
theorem make_of (P : Program) (h : P.initOrder.toList = orderSigns) : P.make = some .cut := by
  unfold Program.make Program.headLifts
  rw [h]
  kernel_rfl
theorem lifts_of (P : Program) (h : P.initOrder.toList = orderSigns) : P.liftsFinal = false := by
  unfold Program.liftsFinal Program.headLifts
  rw [h]
  kernel_rfl
theorem enter_of (P : Program) (h : P.initOrder.toList = orderSigns) (h1 : P.laysLater = false) (h2 : P.bearsReflect = false) (h3 : P.doorFits [] = true) : P.mayEnter = true := by
  unfold Program.mayEnter
  rw [h, h1, h2]
  have e : (stripLifts liftWords (behindMainWord (wordsSigns orderSigns))).1 = [] := by kernel_rfl
  have e0 : behindMainWord (wordsSigns orderSigns) = "cut".toList :: (behindMainWord (wordsSigns orderSigns)).tail := by kernel_rfl
  rw [e0] at e ⊢
  dsimp only
  rw [e, h3]
  clear h h1 h2 h3
  change _ = true
  kernel_rfl
theorem prog_make : Try.prog.make = some .cut := make_of _ prog_order
theorem prog_lifts : Try.prog.liftsFinal = false := lifts_of _ prog_order
theorem prog_enter : Try.prog.mayEnter = true := enter_of _ prog_order (by kernel_rfl) (by kernel_rfl) (by kernel_rfl)
end Go.Proofs.Ytjhkfonoobmecaa
