/- The types of the parameters, opened: written by walkgen.py. Its conditions: none. -/
import Derived.Test.YtaodaihoglcinadRows
import Derived.Test.YtaodaihoglcinadLaw
namespace Go.Proofs.Ytaodaihoglcinad
open Go.RowKit

theorem prog_own : ownKnob Try.prog.godebug = none := by kernel_rfl
theorem prog_laid : laidOutB Try.prog = true := by kernel_rfl
theorem op25 : Opens Try.prog 25 eKey okKey := opens_key Try.underlying25 (by kernel_rfl) rfl (by kernel_rfl) (opens_int Try.underlying3) rfl (by kernel_rfl) (opens_int Try.underlying3) rfl (by kernel_rfl) (opens_int Try.underlying3)
theorem op40 : Opens Try.prog 40 eElem okElem := opens_elem Try.underlying40 (by kernel_rfl) rfl (by kernel_rfl) op25 rfl (by kernel_rfl) (opens_int Try.underlying3) rfl (by kernel_rfl) (opens_int Try.underlying3) rfl (by kernel_rfl) (opens_str Try.underlying9)
theorem op22 : Opens Try.prog 22 (eList eElem) (okAllW 56 okElem) := opens_list Try.underlying22 (by kernel_rfl) (by kernel_rfl) op40
theorem op31 : Opens Try.prog 31 eSnap okSnap := opens_snap Try.underlying31 (by kernel_rfl) rfl (by kernel_rfl) (opens_str Try.underlying9) rfl (by kernel_rfl) (opens_int Try.underlying3)
theorem op23 : Opens Try.prog 23 (eList eSnap) (okAllW 24 okSnap) := opens_list Try.underlying23 (by kernel_rfl) (by kernel_rfl) op31
set_option maxRecDepth 100000
def orderSigns : List Char := [.ofNat 104, .ofNat 97, .ofNat 114, .ofNat 110, .ofNat 101, .ofNat 115, .ofNat 115, .ofNat 32, .ofNat 102, .ofNat 56, .ofNat 101, .ofNat 48, .ofNat 97, .ofNat 57, .ofNat 98, .ofNat 53, .ofNat 100, .ofNat 99, .ofNat 49, .ofNat 48, .ofNat 57, .ofNat 50, .ofNat 51, .ofNat 50, .ofNat 102, .ofNat 97, .ofNat 55, .ofNat 50, .ofNat 102, .ofNat 48, .ofNat 50, .ofNat 51, .ofNat 51, .ofNat 49, .ofNat 54, .ofNat 57, .ofNat 52, .ofNat 52, .ofNat 55, .ofNat 56, .ofNat 97, .ofNat 102, .ofNat 101, .ofNat 101, .ofNat 102, .ofNat 97, .ofNat 57, .ofNat 50, .ofNat 98, .ofNat 50, .ofNat 98, .ofNat 54, .ofNat 48, .ofNat 100, .ofNat 97, .ofNat 54, .ofNat 49, .ofNat 50, .ofNat 53, .ofNat 52, .ofNat 54, .ofNat 98, .ofNat 51, .ofNat 101, .ofNat 99, .ofNat 52, .ofNat 99, .ofNat 51, .ofNat 100, .ofNat 97, .ofNat 48, .ofNat 53, .ofNat 32, .ofNat 99, .ofNat 117, .ofNat 116, .ofNat 32, .ofNat 97, .ofNat 116, .ofNat 32, .ofNat 97, .ofNat 110, .ofNat 110, .ofNat 97, .ofNat 108, .ofNat 105, .ofNat 115, .ofNat 116, .ofNat 47, .ofNat 97, .ofNat 110, .ofNat 110, .ofNat 97, .ofNat 108, .ofNat 107, .ofNat 101, .ofNat 101, .ofNat 112, .ofNat 46, .ofNat 83, .ofNat 110, .ofNat 97, .ofNat 112, .ofNat 75, .ofNat 101, .ofNat 101, .ofNat 112, .ofNat 115]
theorem order_text : Try.prog.initOrder = "harness f8e0a9b5dc109232fa72f02331694478afeefa92b2b60da612546b3ec4c3da05 cut at annalist/annalkeep.SnapKeeps" := by kernel_rfl
theorem order_signs : ("harness f8e0a9b5dc109232fa72f02331694478afeefa92b2b60da612546b3ec4c3da05 cut at annalist/annalkeep.SnapKeeps" : String) = String.ofList orderSigns := by kernel_rfl
theorem prog_order : Try.prog.initOrder.toList = orderSigns := by rw [order_text, order_signs]; exact String.toList_ofList
theorem make_of (P : Program) (h : P.initOrder.toList = orderSigns) : P.make = some .cut := by
  unfold Program.make Program.headLifts
  rw [h]
  kernel_rfl
theorem lifts_of (P : Program) (h : P.initOrder.toList = orderSigns) : P.liftsFinal = false := by
  unfold Program.liftsFinal Program.headLifts
  rw [h]
  kernel_rfl
theorem enter_of (P : Program) (h : P.initOrder.toList = orderSigns) (h1 : P.laysLater = false) (h2 : P.bearsReflect = false) (h3 : P.doorFits [] = true) : P.mayEnter = true := by
  unfold Program.mayEnter
  rw [h, h1, h2]
  have e : (stripLifts liftWords (behindMainWord (wordsSigns orderSigns))).1 = [] := by kernel_rfl
  have e0 : behindMainWord (wordsSigns orderSigns) = "cut".toList :: (behindMainWord (wordsSigns orderSigns)).tail := by kernel_rfl
  rw [e0] at e ⊢
  dsimp only
  rw [e, h3]
  clear h h1 h2 h3
  change _ = true
  kernel_rfl
theorem prog_make : Try.prog.make = some .cut := make_of _ prog_order
theorem prog_lifts : Try.prog.liftsFinal = false := lifts_of _ prog_order
theorem prog_enter : Try.prog.mayEnter = true := enter_of _ prog_order (by kernel_rfl) (by kernel_rfl) (by kernel_rfl)
end Go.Proofs.Ytaodaihoglcinad
