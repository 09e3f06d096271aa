/- The types of the parameters, opened: written by walkgen.py. Its conditions: none. -/
import Derived.Test.YtaodaihoglcinaaRows
import Derived.Test.YtaodaihoglcinaaLaw
namespace Go.Proofs.Ytaodaihoglcinaa
open Go.RowKit

theorem prog_own : ownKnob Try.prog.godebug = none := by kernel_rfl
theorem prog_laid : laidOutB Try.prog = true := by kernel_rfl
theorem op24 : Opens Try.prog 24 eKey okKey := opens_key Try.underlying24 (by kernel_rfl) rfl (by kernel_rfl) (opens_int Try.underlying3) rfl (by kernel_rfl) (opens_int Try.underlying3) rfl (by kernel_rfl) (opens_int Try.underlying3)
theorem op28 : Opens Try.prog 28 eElem okElem := opens_elem Try.underlying28 (by kernel_rfl) rfl (by kernel_rfl) op24 rfl (by kernel_rfl) (opens_int Try.underlying3) rfl (by kernel_rfl) (opens_int Try.underlying3) rfl (by kernel_rfl) (opens_str Try.underlying9)
theorem op22 : Opens Try.prog 22 (eList eElem) (okAllW 56 okElem) := opens_list Try.underlying22 (by kernel_rfl) (by kernel_rfl) op28
theorem op25 : Opens Try.prog 25 (eList eInt) (okAllW 8 (okInt .i64)) := opens_list Try.underlying25 (by kernel_rfl) (by kernel_rfl) (opens_int Try.underlying3)
set_option maxRecDepth 100000
def orderSigns : List Char := [.ofNat 104, .ofNat 97, .ofNat 114, .ofNat 110, .ofNat 101, .ofNat 115, .ofNat 115, .ofNat 32, .ofNat 55, .ofNat 48, .ofNat 54, .ofNat 53, .ofNat 101, .ofNat 100, .ofNat 56, .ofNat 99, .ofNat 54, .ofNat 99, .ofNat 57, .ofNat 54, .ofNat 101, .ofNat 100, .ofNat 56, .ofNat 49, .ofNat 97, .ofNat 101, .ofNat 101, .ofNat 49, .ofNat 56, .ofNat 53, .ofNat 98, .ofNat 57, .ofNat 48, .ofNat 53, .ofNat 54, .ofNat 55, .ofNat 52, .ofNat 102, .ofNat 100, .ofNat 55, .ofNat 55, .ofNat 52, .ofNat 48, .ofNat 48, .ofNat 49, .ofNat 48, .ofNat 97, .ofNat 100, .ofNat 53, .ofNat 100, .ofNat 98, .ofNat 49, .ofNat 56, .ofNat 98, .ofNat 49, .ofNat 48, .ofNat 56, .ofNat 51, .ofNat 55, .ofNat 48, .ofNat 53, .ofNat 48, .ofNat 100, .ofNat 56, .ofNat 50, .ofNat 57, .ofNat 100, .ofNat 102, .ofNat 56, .ofNat 48, .ofNat 53, .ofNat 102, .ofNat 32, .ofNat 99, .ofNat 117, .ofNat 116, .ofNat 32, .ofNat 97, .ofNat 116, .ofNat 32, .ofNat 97, .ofNat 110, .ofNat 110, .ofNat 97, .ofNat 108, .ofNat 105, .ofNat 115, .ofNat 116, .ofNat 47, .ofNat 97, .ofNat 110, .ofNat 110, .ofNat 97, .ofNat 108, .ofNat 107, .ofNat 101, .ofNat 101, .ofNat 112, .ofNat 46, .ofNat 82, .ofNat 117, .ofNat 110, .ofNat 79, .ofNat 119, .ofNat 110]
theorem order_text : Try.prog.initOrder = "harness 7065ed8c6c96ed81aee185b905674fd7740010ad5db18b10837050d829df805f cut at annalist/annalkeep.RunOwn" := by kernel_rfl
theorem order_signs : ("harness 7065ed8c6c96ed81aee185b905674fd7740010ad5db18b10837050d829df805f cut at annalist/annalkeep.RunOwn" : String) = String.ofList orderSigns := by kernel_rfl
theorem prog_order : Try.prog.initOrder.toList = orderSigns := by rw [order_text, order_signs]; exact String.toList_ofList
theorem make_of (P : Program) (h : P.initOrder.toList = orderSigns) : P.make = some .cut := by
  unfold Program.make Program.headLifts
  rw [h]
  kernel_rfl
theorem lifts_of (P : Program) (h : P.initOrder.toList = orderSigns) : P.liftsFinal = false := by
  unfold Program.liftsFinal Program.headLifts
  rw [h]
  kernel_rfl
theorem enter_of (P : Program) (h : P.initOrder.toList = orderSigns) (h1 : P.laysLater = false) (h2 : P.bearsReflect = false) (h3 : P.doorFits [] = true) : P.mayEnter = true := by
  unfold Program.mayEnter
  rw [h, h1, h2]
  have e : (stripLifts liftWords (behindMainWord (wordsSigns orderSigns))).1 = [] := by kernel_rfl
  have e0 : behindMainWord (wordsSigns orderSigns) = "cut".toList :: (behindMainWord (wordsSigns orderSigns)).tail := by kernel_rfl
  rw [e0] at e ⊢
  dsimp only
  rw [e, h3]
  clear h h1 h2 h3
  change _ = true
  kernel_rfl
theorem prog_make : Try.prog.make = some .cut := make_of _ prog_order
theorem prog_lifts : Try.prog.liftsFinal = false := lifts_of _ prog_order
theorem prog_enter : Try.prog.mayEnter = true := enter_of _ prog_order (by kernel_rfl) (by kernel_rfl) (by kernel_rfl)
end Go.Proofs.Ytaodaihoglcinaa
