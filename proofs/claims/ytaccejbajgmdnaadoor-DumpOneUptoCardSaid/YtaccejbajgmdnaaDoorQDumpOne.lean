/- Plain Lean: the law DumpOne. Its conditions: none beyond the text's size. -/
import Derived.Test.YtaccejbajgmdnaaDoorWDumpOneF
import Derived.Test.YtaccejbajgmdnaaDoorPDump2
import Derived.Test.YtaccejbajgmdnaaDoorPEq
import Derived.Test.YtaccejbajgmdnaaDoorLaw
namespace Go.Proofs.YtaccejbajgmdnaaDoor
set_option linter.unusedVariables false
set_option linter.unusedSimpArgs false
variable {F : Nat} [Big F]
theorem itoa_small {n : Nat} (h : n < 10) : Lib.itoa (n : Int) = [UInt8.ofNat (48 + n)] := by
  rw [itoa_digits (by omega), Int.toNat_natCast, Lib.decDigits, dif_pos h]
def one0 : DElem := ⟨⟨0, 0, 0⟩, 1, 0, ByteArray.mk #[]⟩
theorem one0_line : linesL [one0] = [48, 32, 48, 32, 48, 32, 49, 32, 48, 32, 95, 10] := by
  have e0 : Lib.itoa 0 = [48] := itoa_small (n := 0) (by decide)
  have e1 : Lib.itoa 1 = [49] := itoa_small (n := 1) (by decide)
  show (lineL one0 ++ [10]) ++ [] = _
  show (((Lib.itoa 0 ++ [32]) ++ (Lib.itoa 0 ++ [32]) ++ (Lib.itoa 0 ++ [32]) ++ (Lib.itoa 1 ++ [32]) ++ (Lib.itoa 0 ++ [32])) ++ wordL [] ++ [10]) ++ [] = _
  rw [e0, e1]; rfl
theorem annalkeep_DumpOne_true (F : Nat) [Big F] (s : ByteArray) (_ : okStr s) (_ : s.size ≤ reachBytes) (b0 : s.size ≤ 1048576) : annalkeep_DumpOne F s = some true := by
  unfold annalkeep_DumpOne
  have h1 : dump_Read F (ByteArray.mk #[48, 32, 48, 32, 48, 32, 49, 32, 48, 32, 95, 10]) = some ([one0], 0) := by
    have hc : chkR [one0] = 0 := by decide
    rw [show (ByteArray.mk #[48, 32, 48, 32, 48, 32, 49, 32, 48, 32, 95, 10]) = ofL [48, 32, 48, 32, 48, 32, 49, 32, 48, 32, 95, 10] from rfl, ← one0_line, dump_Read_eq _ (by rw [one0_line]; decide), readS_printed (by intro e he; simp only [List.mem_singleton] at he; subst he; decide)]
    unfold finS finR
    dsimp only
    rw [List.nil_append, if_neg (by simpa using hc)]
  rw [h1, Option.bind_some, show (((0 : Int) != 0)) = false from rfl, cond_false, eqElem _ _ (by simp), Option.bind_some, show decide ([one0] = [(DElem.mk (DKey.mk 0 0 0) 1 0 (ByteArray.mk #[]))]) = true from decide_eq_true rfl, show (!true) = false from rfl, Option.bind_some, cond_false]
  obtain ⟨l, rfl⟩ := exists_ofL s
  have hl : l.length ≤ 1048576 := b0
  rw [dump_Read_eq l (by omega), Option.bind_some]
  cases hr : readS l with
  | none => rfl
  | some m =>
    obtain ⟨h2, h3, h4⟩ := readS_lines _ l (Nat.le_refl _) m hr
    unfold finS finR
    dsimp only
    rw [List.nil_append]
    by_cases hc : chkR m = 0
    · rw [if_neg (by simpa using hc)]
      have hm := (chkR_zero.1 hc).len
      rw [show (((0 : Int) != 0)) = false from rfl, cond_false, dump_Print_eq (fun e he => ⟨(h4 e he).1, by have := (h4 e he).2; omega⟩) (by omega), Option.bind_some, if_neg (by simpa using hc), h2, seq_ofL]
      simp
    · rw [if_pos hc]; rfl
end Go.Proofs.YtaccejbajgmdnaaDoor
