/- Plain Lean: the law DumpBack. Its conditions: none. -/
import Derived.Test.YtaccejbajgmdnaaDoorWDumpBackF
import Derived.Test.YtaccejbajgmdnaaDoorPDump2
import Derived.Test.YtaccejbajgmdnaaDoorPEq
import Derived.Test.YtaccejbajgmdnaaDoorFSum
import Derived.Test.YtaccejbajgmdnaaDoorLaw
namespace Go.Proofs.YtaccejbajgmdnaaDoor
set_option linter.unusedVariables false
set_option linter.unusedSimpArgs false
variable {F : Nat} [Big F]
theorem itoa_less {n : Nat} (h : n < 10) : Lib.itoa (n : Int) = [UInt8.ofNat (48 + n)] := by
  rw [itoa_digits (by omega), Int.toNat_natCast, Lib.decDigits, dif_pos h]
def oneB : DElem := ⟨⟨0, 0, 0⟩, 1, 0, ByteArray.mk #[97, 32, 98]⟩
theorem oneB_line : linesL [oneB] = [48, 32, 48, 32, 48, 32, 49, 32, 48, 32, 97, 37, 50, 48, 98, 10] := by
  have e0 : Lib.itoa 0 = [48] := itoa_less (n := 0) (by decide)
  have e1 : Lib.itoa 1 = [49] := itoa_less (n := 1) (by decide)
  show (lineL oneB ++ [10]) ++ [] = _
  show (((Lib.itoa 0 ++ [32]) ++ (Lib.itoa 0 ++ [32]) ++ (Lib.itoa 0 ++ [32]) ++ (Lib.itoa 1 ++ [32]) ++ (Lib.itoa 0 ++ [32])) ++ wordL [97, 32, 98] ++ [10]) ++ [] = _
  rw [e0, e1]; rfl
theorem print_bad {l : List DElem} (h : chkR l ≠ 0) : dump_Print F l = some (ofL [], chkR l) := by
  unfold dump_Print
  rw [run_Check_eq, Option.bind_some, bne0_true h, cond_true]; rfl
theorem print_run {l : List DElem} (h : Run l) : dump_Print F l = some (ofL (linesL l), 0) := by
  rw [dump_Print_eq (fun e he => ⟨(chk_ints (h.ok e he)).1, by have := (chk_ints (h.ok e he)).2; omega⟩) (by have := h.len; omega), if_neg (by simpa using chkR_zero.2 h)]
theorem run_length {l : List DElem} (h : Run l) : (linesL l).length ≤ 100000 := by
  have h1 := lines_length l (n := 40) fun e he => chk_ints (h.ok e he)
  have h2 := h.len
  have h3 : l.length * (107 + 3 * 40) ≤ 400 * (107 + 3 * 40) := Nat.mul_le_mul_right _ h2
  omega
theorem read_run {l : List DElem} (h : Run l) : dump_Read F (ofL (linesL l)) = some (l, 0) := by
  have := run_length h
  rw [dump_Read_eq _ (by omega), readS_printed h.ok]
  unfold finS finR
  dsimp only
  rw [List.nil_append, if_neg (by simpa using chkR_zero.2 h)]
theorem annalkeep_DumpBack_true (F : Nat) [Big F] (l : List DElem) (k : Int) (_ : okAllW 56 okElem l) (_ : okInt .i64 k) : annalkeep_DumpBack F l k = some true := by
  unfold annalkeep_DumpBack
  have hb : Run [oneB] := chkR_zero.1 (by decide)
  have h1 : dump_Print F [(DElem.mk (DKey.mk 0 0 0) 1 0 (ByteArray.mk #[97, 32, 98]))] = some (ofL (linesL [oneB]), 0) := print_run hb
  rw [h1, Option.bind_some, oneB_line, show (ByteArray.mk #[48, 32, 48, 32, 48, 32, 49, 32, 48, 32, 97, 37, 50, 48, 98, 10]) = ofL [48, 32, 48, 32, 48, 32, 49, 32, 48, 32, 97, 37, 50, 48, 98, 10] from rfl]
  dsimp only
  rw [seq_ofL, show (((0 : Int) != 0) || !([48, 32, 48, 32, 48, 32, 49, 32, 48, 32, 97, 37, 50, 48, 98, 10] == ([48, 32, 48, 32, 48, 32, 49, 32, 48, 32, 97, 37, 50, 48, 98, 10] : List UInt8))) = false by decide, cond_false]
  by_cases hc : chkR l = 0
  · have hr := chkR_zero.1 hc
    have hlen := run_length hr
    have hl4 := hr.len
    rw [print_run hr, Option.bind_some]
    dsimp only
    rw [show (((0 : Int) != 0)) = false from rfl, cond_false, read_run hr, Option.bind_some]
    dsimp only
    rw [show (((0 : Int) != 0)) = false from rfl, cond_false, eqElem _ _ (by omega), Option.bind_some, decide_eq_true rfl, show (!true) = false from rfl, cond_false]
    have hcount : ∀ m : List UInt8, strings_Count (ofL m) (ByteArray.mk #[10]) = some ((m.count 10 : Nat) : Int) := fun m => rfl
    rw [hcount, lines_count, Option.bind_some, show ((l.length : Int) != (l.length : Int)) = false by simp, Option.bind_some, cond_false]
    generalize ht : linesL l = t at hlen
    rw [show ((ofL t).size : Int) = (t.length : Int) from rfl, w64 (by omega) (by omega)]
    obtain ⟨r, hr1, hr2, hr3⟩ := within_some k (n := (t.length : Int) + 1) (by omega) (by omega)
    rw [hr1, Option.bind_some, sslice_ofL (by omega) hr2 (by omega), Option.bind_some, show (0 : Int).toNat = 0 from rfl, List.drop_zero]
    obtain ⟨j, p, hj, hp1, hp2⟩ := lines_take l r.toNat
    rw [ht] at hp1
    rw [hp1]
    have hrj : Run (l.take j) := hr.sub (List.take_sublist j l)
    have hlj := run_length hrj
    have hpl : p.length ≤ 100000 := by
      have := congrArg List.length hp1
      rw [List.length_take, List.length_append] at this
      omega
    have hread : dump_Read F (ofL (linesL (l.take j) ++ p)) = some (finS [] ((readS p).map (l.take j ++ ·))) := by
      rw [dump_Read_eq _ (by rw [List.length_append]; omega), readS_app _ _ hrj.ok]
    rw [hread, Option.bind_some, show (ByteArray.mk #[] : ByteArray) = ofL [] from rfl, seq_ofL]
    have hsuf : ∀ m : List UInt8, m.length ≤ 1000000 → strings_HasSuffix (ofL m) (ByteArray.mk #[10]) = some (Lib.hasSuffix m [10]) := fun m hm => by
      unfold strings_HasSuffix
      rw [if_pos (show (ofL m).size ≤ 9223372036854775807 by show m.length ≤ _; omega)]; rfl
    rw [hsuf _ (by rw [List.length_append]; omega), Option.bind_some, hcount, List.count_append, lines_count, List.count_eq_zero.2 hp2, Nat.add_zero]
    by_cases h0 : p = []
    · subst h0
      rw [List.append_nil, readS_nil, Option.map_some, List.append_nil]
      have hz : (bif (!(linesL (l.take j) == [])) then some (!(Lib.hasSuffix (linesL (l.take j)) [10])) else some false : Option Bool) = some false := by
        by_cases hj0 : l.take j = []
        · rw [hj0]; rfl
        · rw [lines_end hj0]
          cases (linesL (l.take j) == []) <;> rfl
      rw [hz, Option.bind_some, cond_false, Option.bind_some]
      have hf : finS [] (some (l.take j)) = (l.take j, 0) := by
        unfold finS finR
        dsimp only
        rw [List.nil_append, if_neg (by simpa using chkR_zero.2 hrj)]
      rw [hf]
      dsimp only
      rw [show ((0 : Int) == 0) = true from rfl, cond_true, lslice_to (by rw [List.length_take]; omega), Option.bind_some, eqElem _ _ (by rw [List.length_take]; omega), Option.bind_some, Option.bind_some]
      congr 1
      rw [decide_eq_true_eq, List.length_take, Nat.min_eq_left hj]
    · have hne : (linesL (l.take j) ++ p == []) = false := by rw [beq_eq_false_iff_ne]; simp [h0]
      rw [hne, show (!false) = true from rfl, cond_true, part_end h0 hp2, show (!false) = true from rfl, Option.bind_some, cond_true, readS_none h0 hp2]
      rfl
  · rw [print_bad hc, Option.bind_some, bne0_true hc, cond_true, show (ByteArray.mk #[] : ByteArray) = ofL [] from rfl, seq_ofL, show (([] : List UInt8) == []) = true from rfl, cond_true, run_Check_eq, Option.bind_some, Option.bind_some]
    simp
end Go.Proofs.YtaccejbajgmdnaaDoor
