/- What the methods of strings.Builder do to a builder that the call has made: the shelf's contracts. Its conditions: as each states. -/
import Derived.Test.YtaccejbajgmdnaaDoorBld
import Derived.Test.YtaccejbajgmdnaaDoorLayB
import Derived.Test.YtaccejbajgmdnaaDoorBldP
namespace Go.Proofs.YtaccejbajgmdnaaDoor
open Go.RowKit
set_option linter.unusedVariables false
theorem byteCells_snoc (l : ByteArray) (x : UInt8) : Lib.byteCells l.data.toList ++ [Value.int .u8 (x.toNat : Int)] = Lib.byteCells (l ++ ByteArray.mk #[x]).data.toList := by
  rw [ByteArray.data_append, Array.toList_append]
  simp [Lib.byteCells]
theorem byteCells_len (l : ByteArray) : (Lib.byteCells l.data.toList).length = l.size := by
  rw [Lib.byteCells_length]; rfl
theorem bld_WriteString (b : Nat) (l s : ByteArray) (hs : l.size + s.size ≤ 140737488355328) (w : World) (h : Lib.IsBuilderF 70 5 b b (Lib.byteCells l.data.toList) w) (hb : b ≤ w.heap.size) :
    Calls Tryd.prog 34 #[.pointer (some ⟨b, 0, none⟩), .string s] w fun x w' => x = .returned (.tuple #[.int .i64 s.size, .nilIface]) ∧ Lib.IsBuilderF 70 5 b b (Lib.byteCells (l ++ s).data.toList) w' ∧ Below b w w' ∧ Lib.OthersKept 5 (some b) w w' := by
  refine (bl_WriteString b _ s w h (by rw [byteCells_len]; exact hs) hb).mono ?_
  rintro x w' ⟨rfl, h1, h2, h3⟩
  exact ⟨rfl, .inr (by rw [← byteCells_app]; exact h1), h2, h3⟩
theorem bld_WriteByte (b : Nat) (l : ByteArray) (c : UInt8) (hs : l.size + (ByteArray.mk #[c]).size ≤ 140737488355328) (w : World) (h : Lib.IsBuilderF 70 5 b b (Lib.byteCells l.data.toList) w) (hb : b ≤ w.heap.size) :
    Calls Tryd.prog 86 #[.pointer (some ⟨b, 0, none⟩), .int .u8 (c.toNat : Int)] w fun x w' => x = .returned .nilIface ∧ Lib.IsBuilderF 70 5 b b (Lib.byteCells (l ++ ByteArray.mk #[c]).data.toList) w' ∧ Below b w w' ∧ Lib.OthersKept 5 (some b) w w' := by
  refine (bl_WriteByte b _ (c.toNat : Int) w h (by rw [byteCells_len]; exact hs) hb).mono ?_
  rintro x w' ⟨rfl, h1, h2, h3⟩
  exact ⟨rfl, .inr (by rw [← byteCells_snoc]; exact h1), h2, h3⟩
theorem bld_String (b : Nat) (l : ByteArray) (w : World) (h : Lib.IsBuilderF 70 5 b b (Lib.byteCells l.data.toList) w) (hb : b ≤ w.heap.size) :
    Calls Tryd.prog 36 #[.pointer (some ⟨b, 0, none⟩)] w fun x w' => x = .returned (.string l) ∧ Lib.IsBuilderF 70 5 b b (Lib.byteCells l.data.toList) w' ∧ Below b w w' ∧ Lib.OthersKept 5 (some b) w w' :=
  Tryd.Builder_String_any_k b b l.data.toList w h hb
end Go.Proofs.YtaccejbajgmdnaaDoor
