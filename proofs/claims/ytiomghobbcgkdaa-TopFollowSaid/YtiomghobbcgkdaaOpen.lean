/- Arrays and books, opened. Its conditions: none. -/
import Derived.Test.YtiomghobbcgkdaaLaw
import Derived.Test.YtiomghobbcgkdaaArr
import Derived.OpenShut
import Derived.Test.YtiomghobbcgkdaaRows
namespace Go.Proofs.Ytiomghobbcgkdaa
open Go.ChangeShapes Go.WideShapes Go.ChangeAt Go.RowKit
set_option linter.unusedVariables false

section
variable {P : Program} {t : TypeId}
def okA16 (x : DA16) : Prop := ∀ v ∈ x.list, okInt .i64 v
def okBook (x : DBook) : Prop := (okAllW 56 okElem) x.run ∧ okA16 x.roles ∧ okA16 x.fed
end
end Go.Proofs.Ytiomghobbcgkdaa
/- The types of the parameters, opened: written by walkgen.py. Its conditions: none. -/
namespace Go.Proofs.Ytiomghobbcgkdaa
open Go.RowKit

theorem prog_own : ownKnob Try.prog.godebug = none := by kernel_rfl
theorem prog_laid : laidOutB Try.prog = true := by kernel_rfl
theorem op22 : Opens Try.prog 22 (eList eStr) (okAllW 16 okStrW) := opens_list Try.underlying22 (by kernel_rfl) (by kernel_rfl) (opens_str Try.underlying9)
set_option maxRecDepth 100000
def orderSigns : List Char := [.ofNat 104, .ofNat 97, .ofNat 114, .ofNat 110, .ofNat 101, .ofNat 115, .ofNat 115, .ofNat 32, .ofNat 97, .ofNat 97, .ofNat 49, .ofNat 98, .ofNat 48, .ofNat 102, .ofNat 101, .ofNat 57, .ofNat 100, .ofNat 53, .ofNat 52, .ofNat 100, .ofNat 53, .ofNat 98, .ofNat 52, .ofNat 101, .ofNat 56, .ofNat 55, .ofNat 98, .ofNat 101, .ofNat 53, .ofNat 54, .ofNat 51, .ofNat 54, .ofNat 102, .ofNat 54, .ofNat 57, .ofNat 56, .ofNat 54, .ofNat 99, .ofNat 48, .ofNat 48, .ofNat 57, .ofNat 98, .ofNat 97, .ofNat 51, .ofNat 56, .ofNat 102, .ofNat 101, .ofNat 51, .ofNat 51, .ofNat 97, .ofNat 57, .ofNat 55, .ofNat 51, .ofNat 53, .ofNat 102, .ofNat 53, .ofNat 99, .ofNat 48, .ofNat 99, .ofNat 99, .ofNat 50, .ofNat 97, .ofNat 101, .ofNat 57, .ofNat 101, .ofNat 56, .ofNat 56, .ofNat 102, .ofNat 50, .ofNat 56, .ofNat 50, .ofNat 102, .ofNat 32, .ofNat 99, .ofNat 117, .ofNat 116, .ofNat 32, .ofNat 97, .ofNat 116, .ofNat 32, .ofNat 97, .ofNat 110, .ofNat 110, .ofNat 97, .ofNat 108, .ofNat 105, .ofNat 115, .ofNat 116, .ofNat 47, .ofNat 97, .ofNat 110, .ofNat 110, .ofNat 97, .ofNat 108, .ofNat 116, .ofNat 111, .ofNat 112, .ofNat 46, .ofNat 84, .ofNat 111, .ofNat 112, .ofNat 70, .ofNat 111, .ofNat 108, .ofNat 108, .ofNat 111, .ofNat 119, .ofNat 32, .ofNat 97, .ofNat 110, .ofNat 110, .ofNat 97, .ofNat 108, .ofNat 105, .ofNat 115, .ofNat 116, .ofNat 47, .ofNat 97, .ofNat 110, .ofNat 110, .ofNat 97, .ofNat 108, .ofNat 107, .ofNat 101, .ofNat 101, .ofNat 112, .ofNat 46, .ofNat 68, .ofNat 105, .ofNat 115, .ofNat 107, .ofNat 79, .ofNat 119, .ofNat 110, .ofNat 32, .ofNat 97, .ofNat 110, .ofNat 110, .ofNat 97, .ofNat 108, .ofNat 105, .ofNat 115, .ofNat 116, .ofNat 47, .ofNat 97, .ofNat 110, .ofNat 110, .ofNat 97, .ofNat 108, .ofNat 107, .ofNat 101, .ofNat 101, .ofNat 112, .ofNat 46, .ofNat 82, .ofNat 101, .ofNat 97, .ofNat 108, .ofNat 109, .ofNat 65, .ofNat 112, .ofNat 97, .ofNat 114, .ofNat 116, .ofNat 32, .ofNat 97, .ofNat 110, .ofNat 110, .ofNat 97, .ofNat 108, .ofNat 105, .ofNat 115, .ofNat 116, .ofNat 47, .ofNat 97, .ofNat 110, .ofNat 110, .ofNat 97, .ofNat 108, .ofNat 107, .ofNat 101, .ofNat 101, .ofNat 112, .ofNat 46, .ofNat 66, .ofNat 111, .ofNat 111, .ofNat 107, .ofNat 79, .ofNat 119, .ofNat 110]
theorem order_text : Try.prog.initOrder = "harness aa1b0fe9d54d5b4e87be5636f6986c009ba38fe33a9735f5c0cc2ae9e88f282f cut at annalist/annaltop.TopFollow annalist/annalkeep.DiskOwn annalist/annalkeep.RealmApart annalist/annalkeep.BookOwn" := by kernel_rfl
theorem order_signs : ("harness aa1b0fe9d54d5b4e87be5636f6986c009ba38fe33a9735f5c0cc2ae9e88f282f cut at annalist/annaltop.TopFollow annalist/annalkeep.DiskOwn annalist/annalkeep.RealmApart annalist/annalkeep.BookOwn" : String) = String.ofList orderSigns := by kernel_rfl
theorem prog_order : Try.prog.initOrder.toList = orderSigns := by rw [order_text, order_signs]; exact String.toList_ofList
theorem make_of (P : Program) (h : P.initOrder.toList = orderSigns) : P.make = some .cut := by
  unfold Program.make Program.headLifts
  rw [h]
  kernel_rfl
theorem lifts_of (P : Program) (h : P.initOrder.toList = orderSigns) : P.liftsFinal = false := by
  unfold Program.liftsFinal Program.headLifts
  rw [h]
  kernel_rfl
theorem enter_of (P : Program) (h : P.initOrder.toList = orderSigns) (h1 : P.laysLater = false) (h2 : P.bearsReflect = false) (h3 : P.doorFits [] = true) : P.mayEnter = true := by
  unfold Program.mayEnter
  rw [h, h1, h2]
  have e : (stripLifts liftWords (behindMainWord (wordsSigns orderSigns))).1 = [] := by kernel_rfl
  have e0 : behindMainWord (wordsSigns orderSigns) = "cut".toList :: (behindMainWord (wordsSigns orderSigns)).tail := by kernel_rfl
  rw [e0] at e ⊢
  dsimp only
  rw [e, h3]
  clear h h1 h2 h3
  change _ = true
  kernel_rfl
theorem prog_make : Try.prog.make = some .cut := make_of _ prog_order
theorem prog_lifts : Try.prog.liftsFinal = false := lifts_of _ prog_order
theorem prog_enter : Try.prog.mayEnter = true := enter_of _ prog_order (by kernel_rfl) (by kernel_rfl) (by kernel_rfl)
end Go.Proofs.Ytiomghobbcgkdaa
