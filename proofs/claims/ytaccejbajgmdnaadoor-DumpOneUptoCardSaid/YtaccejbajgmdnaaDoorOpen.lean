/- The types of the parameters, opened: written by walkgen.py. Its conditions: none. -/
import Derived.Test.YtaccejbajgmdnaaDoorRows
import Derived.Test.YtaccejbajgmdnaaDoorLaw
namespace Go.Proofs.YtaccejbajgmdnaaDoor
open Go.RowKit

theorem prog_own : ownKnob Tryd.prog.godebug = none := by kernel_rfl
theorem prog_laid : laidOutB Tryd.prog = true := by kernel_rfl
theorem op34 : Opens Tryd.prog 34 eKey okKey := opens_key Tryd.underlying34 (by kernel_rfl) rfl (by kernel_rfl) (opens_int Tryd.underlying3) rfl (by kernel_rfl) (opens_int Tryd.underlying3) rfl (by kernel_rfl) (opens_int Tryd.underlying3)
theorem op36 : Opens Tryd.prog 36 eElem okElem := opens_elem Tryd.underlying36 (by kernel_rfl) rfl (by kernel_rfl) op34 rfl (by kernel_rfl) (opens_int Tryd.underlying3) rfl (by kernel_rfl) (opens_int Tryd.underlying3) rfl (by kernel_rfl) (opens_str Tryd.underlying9)
theorem op22 : Opens Tryd.prog 22 (eList eElem) (okAllW 56 okElem) := opens_list Tryd.underlying22 (by kernel_rfl) (by kernel_rfl) op36
theorem op45 : Opens Tryd.prog 45 (eList eStr) (okAllW 16 okStrW) := opens_list Tryd.underlying45 (by kernel_rfl) (by kernel_rfl) (opens_str Tryd.underlying9)
set_option maxRecDepth 100000
def orderSigns : List Char := [.ofNat 104, .ofNat 97, .ofNat 114, .ofNat 110, .ofNat 101, .ofNat 115, .ofNat 115, .ofNat 32, .ofNat 51, .ofNat 55, .ofNat 55, .ofNat 53, .ofNat 57, .ofNat 99, .ofNat 101, .ofNat 54, .ofNat 55, .ofNat 53, .ofNat 98, .ofNat 49, .ofNat 101, .ofNat 53, .ofNat 52, .ofNat 56, .ofNat 49, .ofNat 99, .ofNat 98, .ofNat 99, .ofNat 50, .ofNat 100, .ofNat 98, .ofNat 52, .ofNat 53, .ofNat 52, .ofNat 50, .ofNat 56, .ofNat 97, .ofNat 55, .ofNat 99, .ofNat 55, .ofNat 54, .ofNat 57, .ofNat 97, .ofNat 55, .ofNat 51, .ofNat 97, .ofNat 98, .ofNat 50, .ofNat 52, .ofNat 97, .ofNat 101, .ofNat 56, .ofNat 48, .ofNat 101, .ofNat 49, .ofNat 100, .ofNat 56, .ofNat 56, .ofNat 98, .ofNat 102, .ofNat 55, .ofNat 50, .ofNat 57, .ofNat 53, .ofNat 49, .ofNat 49, .ofNat 102, .ofNat 49, .ofNat 100, .ofNat 53, .ofNat 99, .ofNat 48, .ofNat 32, .ofNat 99, .ofNat 117, .ofNat 116, .ofNat 32, .ofNat 97, .ofNat 116, .ofNat 32, .ofNat 97, .ofNat 110, .ofNat 110, .ofNat 97, .ofNat 108, .ofNat 105, .ofNat 115, .ofNat 116, .ofNat 47, .ofNat 97, .ofNat 110, .ofNat 110, .ofNat 97, .ofNat 108, .ofNat 107, .ofNat 101, .ofNat 101, .ofNat 112, .ofNat 46, .ofNat 68, .ofNat 105, .ofNat 114, .ofNat 79, .ofNat 116, .ofNat 104, .ofNat 101, .ofNat 114, .ofNat 115, .ofNat 32, .ofNat 97, .ofNat 110, .ofNat 110, .ofNat 97, .ofNat 108, .ofNat 105, .ofNat 115, .ofNat 116, .ofNat 47, .ofNat 97, .ofNat 110, .ofNat 110, .ofNat 97, .ofNat 108, .ofNat 107, .ofNat 101, .ofNat 101, .ofNat 112, .ofNat 46, .ofNat 68, .ofNat 105, .ofNat 114, .ofNat 80, .ofNat 97, .ofNat 115, .ofNat 116, .ofNat 32, .ofNat 97, .ofNat 110, .ofNat 110, .ofNat 97, .ofNat 108, .ofNat 105, .ofNat 115, .ofNat 116, .ofNat 47, .ofNat 97, .ofNat 110, .ofNat 110, .ofNat 97, .ofNat 108, .ofNat 107, .ofNat 101, .ofNat 101, .ofNat 112, .ofNat 46, .ofNat 68, .ofNat 117, .ofNat 109, .ofNat 112, .ofNat 79, .ofNat 110, .ofNat 101, .ofNat 32, .ofNat 97, .ofNat 110, .ofNat 110, .ofNat 97, .ofNat 108, .ofNat 105, .ofNat 115, .ofNat 116, .ofNat 47, .ofNat 97, .ofNat 110, .ofNat 110, .ofNat 97, .ofNat 108, .ofNat 107, .ofNat 101, .ofNat 101, .ofNat 112, .ofNat 46, .ofNat 68, .ofNat 117, .ofNat 109, .ofNat 112, .ofNat 66, .ofNat 97, .ofNat 99, .ofNat 107, .ofNat 32, .ofNat 97, .ofNat 110, .ofNat 110, .ofNat 97, .ofNat 108, .ofNat 105, .ofNat 115, .ofNat 116, .ofNat 47, .ofNat 97, .ofNat 110, .ofNat 110, .ofNat 97, .ofNat 108, .ofNat 107, .ofNat 101, .ofNat 101, .ofNat 112, .ofNat 46, .ofNat 68, .ofNat 105, .ofNat 114, .ofNat 77, .ofNat 97, .ofNat 110, .ofNat 121, .ofNat 32, .ofNat 97, .ofNat 110, .ofNat 110, .ofNat 97, .ofNat 108, .ofNat 105, .ofNat 115, .ofNat 116, .ofNat 47, .ofNat 97, .ofNat 110, .ofNat 110, .ofNat 97, .ofNat 108, .ofNat 107, .ofNat 101, .ofNat 101, .ofNat 112, .ofNat 46, .ofNat 68, .ofNat 105, .ofNat 114, .ofNat 78, .ofNat 97, .ofNat 109, .ofNat 101, .ofNat 115]
theorem order_text : Tryd.prog.initOrder = "harness 37759ce675b1e5481cbc2db45428a7c769a73ab24ae80e1d88bf729511f1d5c0 cut at annalist/annalkeep.DirOthers annalist/annalkeep.DirPast annalist/annalkeep.DumpOne annalist/annalkeep.DumpBack annalist/annalkeep.DirMany annalist/annalkeep.DirNames" := by kernel_rfl
theorem order_signs : ("harness 37759ce675b1e5481cbc2db45428a7c769a73ab24ae80e1d88bf729511f1d5c0 cut at annalist/annalkeep.DirOthers annalist/annalkeep.DirPast annalist/annalkeep.DumpOne annalist/annalkeep.DumpBack annalist/annalkeep.DirMany annalist/annalkeep.DirNames" : String) = String.ofList orderSigns := by kernel_rfl
theorem prog_order : Tryd.prog.initOrder.toList = orderSigns := by rw [order_text, order_signs]; exact String.toList_ofList
theorem make_of (P : Program) (h : P.initOrder.toList = orderSigns) : P.make = some .cut := by
  unfold Program.make Program.headLifts
  rw [h]
  kernel_rfl
theorem lifts_of (P : Program) (h : P.initOrder.toList = orderSigns) : P.liftsFinal = false := by
  unfold Program.liftsFinal Program.headLifts
  rw [h]
  kernel_rfl
theorem enter_of (P : Program) (h : P.initOrder.toList = orderSigns) (h1 : P.laysLater = false) (h2 : P.bearsReflect = false) (h3 : P.doorFits [] = true) : P.mayEnter = true := by
  unfold Program.mayEnter
  rw [h, h1, h2]
  have e : (stripLifts liftWords (behindMainWord (wordsSigns orderSigns))).1 = [] := by kernel_rfl
  have e0 : behindMainWord (wordsSigns orderSigns) = "cut".toList :: (behindMainWord (wordsSigns orderSigns)).tail := by kernel_rfl
  rw [e0] at e ⊢
  dsimp only
  rw [e, h3]
  clear h h1 h2 h3
  change _ = true
  kernel_rfl
theorem prog_make : Tryd.prog.make = some .cut := make_of _ prog_order
theorem prog_lifts : Tryd.prog.liftsFinal = false := lifts_of _ prog_order
theorem prog_enter : Tryd.prog.mayEnter = true := enter_of _ prog_order (by kernel_rfl) (by kernel_rfl) (by kernel_rfl)
end Go.Proofs.YtaccejbajgmdnaaDoor
