/- The types of the parameters, opened: written by walkgen.py. Its conditions: none. -/
import Derived.Test.YtoaopihihccfkaaRows
import Derived.Test.YtoaopihihccfkaaLaw
namespace Go.Proofs.Ytoaopihihccfkaa
open Go.RowKit

theorem prog_own : ownKnob Try.prog.godebug = none := by kernel_rfl
theorem prog_laid : laidOutB Try.prog = true := by kernel_rfl
theorem op34 : Opens Try.prog 34 eKey okKey := opens_key Try.underlying34 (by kernel_rfl) rfl (by kernel_rfl) (opens_int Try.underlying3) rfl (by kernel_rfl) (opens_int Try.underlying3) rfl (by kernel_rfl) (opens_int Try.underlying3)
theorem op39 : Opens Try.prog 39 eElem okElem := opens_elem Try.underlying39 (by kernel_rfl) rfl (by kernel_rfl) op34 rfl (by kernel_rfl) (opens_int Try.underlying3) rfl (by kernel_rfl) (opens_int Try.underlying3) rfl (by kernel_rfl) (opens_str Try.underlying9)
theorem op29 : Opens Try.prog 29 (eList eElem) (okAllW 56 okElem) := opens_list Try.underlying29 (by kernel_rfl) (by kernel_rfl) op39
theorem op54 : Opens Try.prog 54 (eList eInt) (okAllW 8 (okInt .i64)) := opens_list Try.underlying54 (by kernel_rfl) (by kernel_rfl) (opens_int Try.underlying3)
theorem op36 : Opens Try.prog 36 eSpot okSpot := opens_spot Try.underlying36 (by kernel_rfl) rfl (by kernel_rfl) op34 rfl (by kernel_rfl) (opens_int Try.underlying3)
theorem op55 : Opens Try.prog 55 (eList eSpot) (okAllW 32 okSpot) := opens_list Try.underlying55 (by kernel_rfl) (by kernel_rfl) op36
theorem op57 : Opens Try.prog 57 eNode okNode := opens_node Try.underlying57 (by kernel_rfl) rfl (by kernel_rfl) (opens_int Try.underlying3) rfl (by kernel_rfl) op29 rfl (by kernel_rfl) op54 rfl (by kernel_rfl) op55 rfl (by kernel_rfl) op54
theorem op22 : Opens Try.prog 22 (eList eNode) (okAllW 104 okNode) := opens_list Try.underlying22 (by kernel_rfl) (by kernel_rfl) op57
theorem op24 : Opens Try.prog 24 eTree okTree := opens_tree Try.underlying24 (by kernel_rfl) rfl (by kernel_rfl) (opens_int Try.underlying3) rfl (by kernel_rfl) op22
set_option maxRecDepth 100000
def orderSigns : List Char := [.ofNat 104, .ofNat 97, .ofNat 114, .ofNat 110, .ofNat 101, .ofNat 115, .ofNat 115, .ofNat 32, .ofNat 53, .ofNat 98, .ofNat 55, .ofNat 54, .ofNat 54, .ofNat 51, .ofNat 98, .ofNat 57, .ofNat 101, .ofNat 97, .ofNat 53, .ofNat 51, .ofNat 53, .ofNat 98, .ofNat 50, .ofNat 101, .ofNat 54, .ofNat 50, .ofNat 100, .ofNat 98, .ofNat 100, .ofNat 99, .ofNat 52, .ofNat 48, .ofNat 100, .ofNat 101, .ofNat 48, .ofNat 54, .ofNat 97, .ofNat 98, .ofNat 100, .ofNat 53, .ofNat 54, .ofNat 54, .ofNat 52, .ofNat 101, .ofNat 54, .ofNat 54, .ofNat 49, .ofNat 55, .ofNat 52, .ofNat 54, .ofNat 100, .ofNat 100, .ofNat 50, .ofNat 50, .ofNat 53, .ofNat 102, .ofNat 101, .ofNat 54, .ofNat 53, .ofNat 48, .ofNat 53, .ofNat 99, .ofNat 56, .ofNat 55, .ofNat 57, .ofNat 53, .ofNat 49, .ofNat 56, .ofNat 55, .ofNat 48, .ofNat 49, .ofNat 100, .ofNat 32, .ofNat 99, .ofNat 117, .ofNat 116, .ofNat 32, .ofNat 97, .ofNat 116, .ofNat 32, .ofNat 97, .ofNat 110, .ofNat 110, .ofNat 97, .ofNat 108, .ofNat 105, .ofNat 115, .ofNat 116, .ofNat 47, .ofNat 97, .ofNat 110, .ofNat 110, .ofNat 97, .ofNat 108, .ofNat 107, .ofNat 101, .ofNat 101, .ofNat 112, .ofNat 46, .ofNat 84, .ofNat 114, .ofNat 101, .ofNat 101, .ofNat 68, .ofNat 101, .ofNat 101, .ofNat 112, .ofNat 32, .ofNat 97, .ofNat 110, .ofNat 110, .ofNat 97, .ofNat 108, .ofNat 105, .ofNat 115, .ofNat 116, .ofNat 47, .ofNat 97, .ofNat 110, .ofNat 110, .ofNat 97, .ofNat 108, .ofNat 107, .ofNat 101, .ofNat 101, .ofNat 112, .ofNat 46, .ofNat 66, .ofNat 117, .ofNat 105, .ofNat 108, .ofNat 100, .ofNat 68, .ofNat 101, .ofNat 101, .ofNat 112, .ofNat 32, .ofNat 97, .ofNat 110, .ofNat 110, .ofNat 97, .ofNat 108, .ofNat 105, .ofNat 115, .ofNat 116, .ofNat 47, .ofNat 97, .ofNat 110, .ofNat 110, .ofNat 97, .ofNat 108, .ofNat 107, .ofNat 101, .ofNat 101, .ofNat 112, .ofNat 46, .ofNat 70, .ofNat 105, .ofNat 110, .ofNat 100, .ofNat 70, .ofNat 105, .ofNat 114, .ofNat 115, .ofNat 116, .ofNat 32, .ofNat 97, .ofNat 110, .ofNat 110, .ofNat 97, .ofNat 108, .ofNat 105, .ofNat 115, .ofNat 116, .ofNat 47, .ofNat 97, .ofNat 110, .ofNat 110, .ofNat 97, .ofNat 108, .ofNat 107, .ofNat 101, .ofNat 101, .ofNat 112, .ofNat 46, .ofNat 66, .ofNat 117, .ofNat 105, .ofNat 108, .ofNat 100, .ofNat 70, .ofNat 101, .ofNat 119, .ofNat 32, .ofNat 97, .ofNat 110, .ofNat 110, .ofNat 97, .ofNat 108, .ofNat 105, .ofNat 115, .ofNat 116, .ofNat 47, .ofNat 97, .ofNat 110, .ofNat 110, .ofNat 97, .ofNat 108, .ofNat 107, .ofNat 101, .ofNat 101, .ofNat 112, .ofNat 46, .ofNat 70, .ofNat 105, .ofNat 110, .ofNat 100, .ofNat 78, .ofNat 101, .ofNat 119, .ofNat 32, .ofNat 97, .ofNat 110, .ofNat 110, .ofNat 97, .ofNat 108, .ofNat 105, .ofNat 115, .ofNat 116, .ofNat 47, .ofNat 97, .ofNat 110, .ofNat 110, .ofNat 97, .ofNat 108, .ofNat 107, .ofNat 101, .ofNat 101, .ofNat 112, .ofNat 46, .ofNat 70, .ofNat 105, .ofNat 110, .ofNat 100, .ofNat 79, .ofNat 110, .ofNat 32, .ofNat 97, .ofNat 110, .ofNat 110, .ofNat 97, .ofNat 108, .ofNat 105, .ofNat 115, .ofNat 116, .ofNat 47, .ofNat 97, .ofNat 110, .ofNat 110, .ofNat 97, .ofNat 108, .ofNat 107, .ofNat 101, .ofNat 101, .ofNat 112, .ofNat 46, .ofNat 80, .ofNat 97, .ofNat 115, .ofNat 116, .ofNat 69, .ofNat 97, .ofNat 99, .ofNat 104, .ofNat 32, .ofNat 97, .ofNat 110, .ofNat 110, .ofNat 97, .ofNat 108, .ofNat 105, .ofNat 115, .ofNat 116, .ofNat 47, .ofNat 97, .ofNat 110, .ofNat 110, .ofNat 97, .ofNat 108, .ofNat 107, .ofNat 101, .ofNat 101, .ofNat 112, .ofNat 46, .ofNat 80, .ofNat 97, .ofNat 115, .ofNat 116, .ofNat 83, .ofNat 97, .ofNat 109, .ofNat 101]
theorem order_text : Try.prog.initOrder = "harness 5b7663b9ea535b2e62dbdc40de06abd5664e661746dd225fe6505c879518701d cut at annalist/annalkeep.TreeDeep annalist/annalkeep.BuildDeep annalist/annalkeep.FindFirst annalist/annalkeep.BuildFew annalist/annalkeep.FindNew annalist/annalkeep.FindOn annalist/annalkeep.PastEach annalist/annalkeep.PastSame" := by kernel_rfl
theorem order_signs : ("harness 5b7663b9ea535b2e62dbdc40de06abd5664e661746dd225fe6505c879518701d cut at annalist/annalkeep.TreeDeep annalist/annalkeep.BuildDeep annalist/annalkeep.FindFirst annalist/annalkeep.BuildFew annalist/annalkeep.FindNew annalist/annalkeep.FindOn annalist/annalkeep.PastEach annalist/annalkeep.PastSame" : String) = String.ofList orderSigns := by kernel_rfl
theorem prog_order : Try.prog.initOrder.toList = orderSigns := by rw [order_text, order_signs]; exact String.toList_ofList
theorem make_of (P : Program) (h : P.initOrder.toList = orderSigns) : P.make = some .cut := by
  unfold Program.make Program.headLifts
  rw [h]
  kernel_rfl
theorem lifts_of (P : Program) (h : P.initOrder.toList = orderSigns) : P.liftsFinal = false := by
  unfold Program.liftsFinal Program.headLifts
  rw [h]
  kernel_rfl
theorem enter_of (P : Program) (h : P.initOrder.toList = orderSigns) (h1 : P.laysLater = false) (h2 : P.bearsReflect = false) (h3 : P.doorFits [] = true) : P.mayEnter = true := by
  unfold Program.mayEnter
  rw [h, h1, h2]
  have e : (stripLifts liftWords (behindMainWord (wordsSigns orderSigns))).1 = [] := by kernel_rfl
  have e0 : behindMainWord (wordsSigns orderSigns) = "cut".toList :: (behindMainWord (wordsSigns orderSigns)).tail := by kernel_rfl
  rw [e0] at e ⊢
  dsimp only
  rw [e, h3]
  clear h h1 h2 h3
  change _ = true
  kernel_rfl
theorem prog_make : Try.prog.make = some .cut := make_of _ prog_order
theorem prog_lifts : Try.prog.liftsFinal = false := lifts_of _ prog_order
theorem prog_enter : Try.prog.mayEnter = true := enter_of _ prog_order (by kernel_rfl) (by kernel_rfl) (by kernel_rfl)
end Go.Proofs.Ytoaopihihccfkaa
