/- The types of the parameters, opened: written by walkgen.py. Its conditions: none. -/
import Derived.Test.YtomgholekojenaaRows
import Derived.Test.YtomgholekojenaaLaw
import Derived.Test.YtomgholekojenaaOpenA
namespace Go.Proofs.Ytomgholekojenaa
open Go.RowKit

theorem prog_own : ownKnob Try.prog.godebug = none := by kernel_rfl
theorem prog_laid : laidOutB Try.prog = true := by kernel_rfl
theorem op22 : Opens Try.prog 22 (eList eStr) (okAllW 16 okStrW) := opens_list Try.underlying22 (by kernel_rfl) (by kernel_rfl) (opens_str Try.underlying9)
theorem op52 : Opens Try.prog 52 eWrite okWrite := opens_write Try.underlying52 (by kernel_rfl) rfl (by kernel_rfl) (opens_int Try.underlying3) rfl (by kernel_rfl) (opens_str Try.underlying9)
theorem op23 : Opens Try.prog 23 (eList eWrite) (okAllW 24 okWrite) := opens_list Try.underlying23 (by kernel_rfl) (by kernel_rfl) op52
theorem op25 : Opens Try.prog 25 eDisk okDisk := opens_disk Try.underlying25 (by kernel_rfl) rfl (by kernel_rfl) op22 rfl (by kernel_rfl) op23
theorem op26 : Opens Try.prog 26 (eList eBool) (okAllW 1 (fun _ => True)) := opens_list Try.underlying26 (by kernel_rfl) (by kernel_rfl) (opens_bool Try.underlying4)
theorem op42 : Opens Try.prog 42 eKey okKey := opens_key Try.underlying42 (by kernel_rfl) rfl (by kernel_rfl) (opens_int Try.underlying3) rfl (by kernel_rfl) (opens_int Try.underlying3) rfl (by kernel_rfl) (opens_int Try.underlying3)
theorem op44 : Opens Try.prog 44 eElem okElem := opens_elem Try.underlying44 (by kernel_rfl) rfl (by kernel_rfl) op42 rfl (by kernel_rfl) (opens_int Try.underlying3) rfl (by kernel_rfl) (opens_int Try.underlying3) rfl (by kernel_rfl) (opens_str Try.underlying9)
theorem op33 : Opens Try.prog 33 (eList eElem) (okAllW 56 okElem) := opens_list Try.underlying33 (by kernel_rfl) (by kernel_rfl) op44
theorem op36 : Opens Try.prog 36 eBook okBook := opens_book Try.underlying36 (by kernel_rfl) rfl (by kernel_rfl) op33 rfl (by kernel_rfl) (opens_a16 Try.underlying34 Try.underlying3 (by kernel_rfl) (by kernel_rfl)) rfl (by kernel_rfl) (opens_a16 Try.underlying34 Try.underlying3 (by kernel_rfl) (by kernel_rfl))
theorem op73 : Opens Try.prog 73 (eList eKey) (okAllW 24 okKey) := opens_list Try.underlying73 (by kernel_rfl) (by kernel_rfl) op42
theorem op74 : Opens Try.prog 74 (eList eInt) (okAllW 8 (okInt .i64)) := opens_list Try.underlying74 (by kernel_rfl) (by kernel_rfl) (opens_int Try.underlying3)
set_option maxRecDepth 100000
def orderSigns : List Char := [.ofNat 104, .ofNat 97, .ofNat 114, .ofNat 110, .ofNat 101, .ofNat 115, .ofNat 115, .ofNat 32, .ofNat 56, .ofNat 53, .ofNat 48, .ofNat 50, .ofNat 54, .ofNat 101, .ofNat 99, .ofNat 53, .ofNat 53, .ofNat 49, .ofNat 97, .ofNat 53, .ofNat 51, .ofNat 48, .ofNat 49, .ofNat 98, .ofNat 57, .ofNat 54, .ofNat 48, .ofNat 57, .ofNat 98, .ofNat 55, .ofNat 53, .ofNat 49, .ofNat 99, .ofNat 97, .ofNat 99, .ofNat 57, .ofNat 101, .ofNat 56, .ofNat 100, .ofNat 102, .ofNat 54, .ofNat 98, .ofNat 101, .ofNat 56, .ofNat 55, .ofNat 100, .ofNat 57, .ofNat 99, .ofNat 98, .ofNat 100, .ofNat 99, .ofNat 97, .ofNat 101, .ofNat 101, .ofNat 57, .ofNat 98, .ofNat 55, .ofNat 101, .ofNat 102, .ofNat 97, .ofNat 100, .ofNat 52, .ofNat 54, .ofNat 57, .ofNat 100, .ofNat 57, .ofNat 101, .ofNat 50, .ofNat 56, .ofNat 54, .ofNat 98, .ofNat 50, .ofNat 32, .ofNat 99, .ofNat 117, .ofNat 116, .ofNat 32, .ofNat 97, .ofNat 116, .ofNat 32, .ofNat 97, .ofNat 110, .ofNat 110, .ofNat 97, .ofNat 108, .ofNat 105, .ofNat 115, .ofNat 116, .ofNat 47, .ofNat 97, .ofNat 110, .ofNat 110, .ofNat 97, .ofNat 108, .ofNat 107, .ofNat 101, .ofNat 101, .ofNat 112, .ofNat 46, .ofNat 85, .ofNat 110, .ofNat 100, .ofNat 111, .ofNat 84, .ofNat 119, .ofNat 105, .ofNat 99, .ofNat 101, .ofNat 32, .ofNat 97, .ofNat 110, .ofNat 110, .ofNat 97, .ofNat 108, .ofNat 105, .ofNat 115, .ofNat 116, .ofNat 47, .ofNat 97, .ofNat 110, .ofNat 110, .ofNat 97, .ofNat 108, .ofNat 107, .ofNat 101, .ofNat 101, .ofNat 112, .ofNat 46, .ofNat 82, .ofNat 101, .ofNat 97, .ofNat 108, .ofNat 109, .ofNat 84, .ofNat 105, .ofNat 109, .ofNat 101, .ofNat 115, .ofNat 32, .ofNat 97, .ofNat 110, .ofNat 110, .ofNat 97, .ofNat 108, .ofNat 105, .ofNat 115, .ofNat 116, .ofNat 47, .ofNat 97, .ofNat 110, .ofNat 110, .ofNat 97, .ofNat 108, .ofNat 107, .ofNat 101, .ofNat 101, .ofNat 112, .ofNat 46, .ofNat 85, .ofNat 110, .ofNat 100, .ofNat 111, .ofNat 79, .ofNat 116, .ofNat 104, .ofNat 101, .ofNat 114, .ofNat 115, .ofNat 32, .ofNat 97, .ofNat 110, .ofNat 110, .ofNat 97, .ofNat 108, .ofNat 105, .ofNat 115, .ofNat 116, .ofNat 47, .ofNat 97, .ofNat 110, .ofNat 110, .ofNat 97, .ofNat 108, .ofNat 107, .ofNat 101, .ofNat 101, .ofNat 112, .ofNat 46, .ofNat 85, .ofNat 110, .ofNat 100, .ofNat 111, .ofNat 67, .ofNat 111, .ofNat 117, .ofNat 110, .ofNat 116, .ofNat 115, .ofNat 32, .ofNat 97, .ofNat 110, .ofNat 110, .ofNat 97, .ofNat 108, .ofNat 105, .ofNat 115, .ofNat 116, .ofNat 47, .ofNat 97, .ofNat 110, .ofNat 110, .ofNat 97, .ofNat 108, .ofNat 107, .ofNat 101, .ofNat 101, .ofNat 112, .ofNat 46, .ofNat 82, .ofNat 101, .ofNat 97, .ofNat 108, .ofNat 109, .ofNat 84, .ofNat 117, .ofNat 114, .ofNat 110, .ofNat 115, .ofNat 32, .ofNat 97, .ofNat 110, .ofNat 110, .ofNat 97, .ofNat 108, .ofNat 105, .ofNat 115, .ofNat 116, .ofNat 47, .ofNat 97, .ofNat 110, .ofNat 110, .ofNat 97, .ofNat 108, .ofNat 107, .ofNat 101, .ofNat 101, .ofNat 112, .ofNat 46, .ofNat 85, .ofNat 110, .ofNat 100, .ofNat 111, .ofNat 87, .ofNat 104, .ofNat 111, .ofNat 108, .ofNat 101, .ofNat 32, .ofNat 97, .ofNat 110, .ofNat 110, .ofNat 97, .ofNat 108, .ofNat 105, .ofNat 115, .ofNat 116, .ofNat 47, .ofNat 97, .ofNat 110, .ofNat 110, .ofNat 97, .ofNat 108, .ofNat 107, .ofNat 101, .ofNat 101, .ofNat 112, .ofNat 46, .ofNat 82, .ofNat 101, .ofNat 97, .ofNat 108, .ofNat 109, .ofNat 65, .ofNat 112, .ofNat 97, .ofNat 114, .ofNat 116, .ofNat 32, .ofNat 97, .ofNat 110, .ofNat 110, .ofNat 97, .ofNat 108, .ofNat 105, .ofNat 115, .ofNat 116, .ofNat 47, .ofNat 97, .ofNat 110, .ofNat 110, .ofNat 97, .ofNat 108, .ofNat 107, .ofNat 101, .ofNat 101, .ofNat 112, .ofNat 46, .ofNat 82, .ofNat 101, .ofNat 97, .ofNat 108, .ofNat 109, .ofNat 70, .ofNat 111, .ofNat 108, .ofNat 108, .ofNat 111, .ofNat 119, .ofNat 115]
theorem order_text : Try.prog.initOrder = "harness 85026ec551a5301b9609b751cac9e8df6be87d9cbdcaee9b7efad469d9e286b2 cut at annalist/annalkeep.UndoTwice annalist/annalkeep.RealmTimes annalist/annalkeep.UndoOthers annalist/annalkeep.UndoCounts annalist/annalkeep.RealmTurns annalist/annalkeep.UndoWhole annalist/annalkeep.RealmApart annalist/annalkeep.RealmFollows" := by kernel_rfl
theorem order_signs : ("harness 85026ec551a5301b9609b751cac9e8df6be87d9cbdcaee9b7efad469d9e286b2 cut at annalist/annalkeep.UndoTwice annalist/annalkeep.RealmTimes annalist/annalkeep.UndoOthers annalist/annalkeep.UndoCounts annalist/annalkeep.RealmTurns annalist/annalkeep.UndoWhole annalist/annalkeep.RealmApart annalist/annalkeep.RealmFollows" : String) = String.ofList orderSigns := by kernel_rfl
theorem prog_order : Try.prog.initOrder.toList = orderSigns := by rw [order_text, order_signs]; exact String.toList_ofList
theorem make_of (P : Program) (h : P.initOrder.toList = orderSigns) : P.make = some .cut := by
  unfold Program.make Program.headLifts
  rw [h]
  kernel_rfl
theorem lifts_of (P : Program) (h : P.initOrder.toList = orderSigns) : P.liftsFinal = false := by
  unfold Program.liftsFinal Program.headLifts
  rw [h]
  kernel_rfl
theorem enter_of (P : Program) (h : P.initOrder.toList = orderSigns) (h1 : P.laysLater = false) (h2 : P.bearsReflect = false) (h3 : P.doorFits [] = true) : P.mayEnter = true := by
  unfold Program.mayEnter
  rw [h, h1, h2]
  have e : (stripLifts liftWords (behindMainWord (wordsSigns orderSigns))).1 = [] := by kernel_rfl
  have e0 : behindMainWord (wordsSigns orderSigns) = "cut".toList :: (behindMainWord (wordsSigns orderSigns)).tail := by kernel_rfl
  rw [e0] at e ⊢
  dsimp only
  rw [e, h3]
  clear h h1 h2 h3
  change _ = true
  kernel_rfl
theorem prog_make : Try.prog.make = some .cut := make_of _ prog_order
theorem prog_lifts : Try.prog.liftsFinal = false := lifts_of _ prog_order
theorem prog_enter : Try.prog.mayEnter = true := enter_of _ prog_order (by kernel_rfl) (by kernel_rfl) (by kernel_rfl)
end Go.Proofs.Ytomgholekojenaa
