/- Plain Lean: the law FilePatches. Its conditions: none. -/
import Derived.Test.YtiaoncjkfgebdaaWFilePatchesF
import Derived.Test.YtiaoncjkfgebdaaPFileL
namespace Go.Proofs.Ytiaoncjkfgebdaa
set_option linter.unusedVariables false
set_option linter.unusedSimpArgs false
variable {F : Nat} [Big F]
def patS : List UInt8 := [97, 98, 99]
def patT : List UInt8 := [88, 89, 90]
def patM : List DElem := [⟨⟨0, 5, 1⟩, 1, 0, ofL patS⟩]
theorem pat_smoke : file_Set F [] 0 5 (ofL patS) 1 = some (patM, 0) ∧ ∃ n, file_Patch F patM 0 5 1 (ofL patT) 2 = some (n, 0) ∧ file_Get F n 0 5 2 = some (ofL [97, 88, 89, 90], 0) := by
  have h : setE [] 0 5 (ofL patS) 1 = 0 := set_nil (by decide) (by decide) (by decide) (by decide)
  have e : foldE (doStep 1) [] (setC [] 0 5 (ofL patS)) = .inl patM := by rfl
  obtain ⟨h1, h2⟩ := file_Set_is (F := F) h e
  refine ⟨h2, [⟨⟨0, 5, 1⟩, 1, 2, ofL patS⟩, ⟨⟨0, 5, 1⟩, 2, 0, ofL [97, 88, 89, 90]⟩], ?_⟩
  obtain ⟨C, S, hC, hS, hP⟩ := file_Patch_eq (F := F) patM 0 5 1 (ofL patT) 2 (by decide)
  rw [set_content h h1 (by decide), ofL_inj] at hC
  rw [ofL_inj] at hS
  subst hC hS
  rw [hP, (look_set h h1).2, if_neg (by decide), if_neg (by decide)]
  have hE := set_next (s' := ofL (patched patS patT (1 : Int).toNat)) (t' := 2) h h1 (by decide) (by decide) (by decide)
  have e' : foldE (doStep 2) patM (setC patM 0 5 (ofL (patched patS patT (1 : Int).toNat))) = .inl [⟨⟨0, 5, 1⟩, 1, 2, ofL patS⟩, ⟨⟨0, 5, 1⟩, 2, 0, ofL [97, 88, 89, 90]⟩] := by rfl
  obtain ⟨h3, h4⟩ := file_Set_is (F := F) hE e'
  refine ⟨h4, ?_⟩
  rw [file_Get_eq, (look_set hE h3).2, if_pos rfl, set_content hE h3 (by decide)]; rfl
theorem annalkeep_FilePatches_true (F : Nat) [Big F] (l : List DElem) (p o a : Int) (s : ByteArray) (t : Int) (_ : okAllW 56 okElem l) (_ : okInt .i64 p) (_ : okInt .i64 o) (_ : okInt .i64 a) (_ : okStr s) (hs : s.size ≤ reachBytes) (_ : okInt .i64 t) : annalkeep_FilePatches F l p o a s t = some true := by
  unfold annalkeep_FilePatches
  obtain ⟨s1, n, s2, s3⟩ := pat_smoke (F := F)
  show ((file_Set F [] 0 5 (ofL patS) 1).bind _) = _
  rw [s1, Option.bind_some]
  show ((file_Patch F patM 0 5 1 (ofL patT) 2).bind _) = _
  rw [s2, Option.bind_some]
  show ((file_Get F n 0 5 2).bind _) = _
  have sq : seq (ofL [97, 88, 89, 90]) (ByteArray.mk #[97, 88, 89, 90]) = true := seq_self _
  rw [s3, Option.bind_some]
  dsimp only
  rw [sq]
  show (file_Get F l p o 2147483647).bind _ = _
  rw [file_Get_eq, Option.bind_some]
  obtain ⟨C, S, hC, rfl, hP⟩ := file_Patch_eq (F := F) l p o a s t hs
  rw [hP]
  by_cases h0 : lookE l p o = 0
  · have hcs := content_run (t := 2147483647) h0
    rw [hC, ofL_size] at hcs
    rw [ofL_size] at hs
    unfold reachBytes at hs
    rw [if_pos h0, hC, if_neg (by simpa using h0), h0]
    by_cases ha : a < 0 ∨ (C.length : Int) < a
    · rw [if_pos ha]; rfl
    · rw [if_neg ha]
      rcases file_Set_cases (F := F) l p o (ofL (patched C S a.toNat)) t with ⟨h, e⟩ | ⟨h, e | ⟨m, hm, e⟩⟩
      · rw [e, Option.bind_some, bne0_true h, Bool.or_true, cond_true]; rfl
      · rw [e]; rfl
      · obtain ⟨k1, k2⟩ := look_set h hm
        rw [e, Option.bind_some]
        simp only [bne_self_eq_false, Bool.or_false, cond_false]
        rw [file_Get_eq, k2, if_pos rfl, set_content h hm (Int.le_refl _), Option.bind_some]
        obtain ⟨n, rfl⟩ : ∃ n : Nat, a = (n : Int) := ⟨a.toNat, by omega⟩
        rw [Int.toNat_natCast]
        show (bif ((0 : Int) != 0 || (decide ((n : Int) < 0) || (decide (((patched C S n).length : Int) < IntKind.i64.wrap ((n : Int) + (S.length : Int))) || (((patched C S n).length : Int) != (if (C.length : Int) < IntKind.i64.wrap ((n : Int) + (S.length : Int)) then IntKind.i64.wrap ((n : Int) + (S.length : Int)) else (C.length : Int)))))) then some false else
          ((sslice (ofL (patched C S n)) 0 (n : Int)).bind fun s1 => (sslice (ofL C) 0 (n : Int)).bind fun s2 => bif seq s1 s2 then
              (sslice (ofL (patched C S n)) (n : Int) (IntKind.i64.wrap ((n : Int) + (S.length : Int)))).bind fun s3 => bif seq s3 (ofL S) then
                (sslice (ofL (patched C S n)) (IntKind.i64.wrap ((n : Int) + (S.length : Int))) ((patched C S n).length : Int)).bind fun s4 =>
                (sslice (ofL C) (if IntKind.i64.wrap ((n : Int) + (S.length : Int)) < (C.length : Int) then IntKind.i64.wrap ((n : Int) + (S.length : Int)) else (C.length : Int)) (C.length : Int)).bind fun s5 => some (seq s4 s5)
              else some false else some false).bind fun z1 => some z1) = some true
        rw [w64 (n := (n : Int) + (S.length : Int)) (by omega) (by omega)]
        have hl : (patched C S n).length = if C.length < n + S.length then n + S.length else C.length := by
          unfold patched; simp only [List.length_append, List.length_take, List.length_drop]; split <;> omega
        have b1 : ((0 : Int) != 0 || (decide ((n : Int) < 0) || (decide (((patched C S n).length : Int) < (n : Int) + (S.length : Int)) || (((patched C S n).length : Int) != (if (C.length : Int) < (n : Int) + (S.length : Int) then (n : Int) + (S.length : Int) else (C.length : Int)))))) = false := by
          rw [hl, decide_eq_false (by omega), decide_eq_false (by split <;> omega), Bool.false_or, Bool.false_or, bne_self_eq_false, Bool.false_or, bne_eq_false_iff_eq]
          split <;> split <;> omega
        rw [b1, cond_false]
        have l1 : n + S.length ≤ (patched C S n).length := by rw [hl]; split <;> omega
        rw [sslice_ofL (by omega) (by omega) (by omega), Option.bind_some, sslice_ofL (by omega) (by omega) (by omega), Option.bind_some, seq_ofL]
        rw [sslice_ofL (by omega) (by omega) (by omega), Option.bind_some, seq_ofL]
        rw [sslice_ofL (by omega) (by omega) (by omega), Option.bind_some, sslice_ofL (by split <;> omega) (by split <;> omega) (by omega), Option.bind_some, seq_ofL]
        have e1 : List.drop (0 : Int).toNat (List.take (n : Int).toNat (patched C S n)) = List.drop (0 : Int).toNat (List.take (n : Int).toNat C) := by
          simp only [Int.toNat_natCast, show (0 : Int).toNat = 0 from rfl, List.drop_zero]
          unfold patched
          rw [List.append_assoc, List.take_append_of_le_length (by rw [List.length_take]; omega), List.take_take, Nat.min_self]
        have e2 : List.drop (n : Int).toNat (List.take ((n : Int) + (S.length : Int)).toNat (patched C S n)) = S := by
          rw [show ((n : Int) + (S.length : Int)).toNat = n + S.length by omega, Int.toNat_natCast]
          unfold patched
          have : (C.take n ++ S).length = n + S.length := by rw [List.length_append, List.length_take]; omega
          rw [← this, List.take_left]
          have h2 : (C.take n).length = n := by rw [List.length_take]; omega
          conv => lhs; arg 1; rw [← h2]
          rw [List.drop_left]
        have e3 : List.drop ((n : Int) + (S.length : Int)).toNat (List.take ((patched C S n).length : Int).toNat (patched C S n)) = List.drop (if (n : Int) + (S.length : Int) < (C.length : Int) then (n : Int) + (S.length : Int) else (C.length : Int)).toNat (List.take (C.length : Int).toNat C) := by
          rw [show ((n : Int) + (S.length : Int)).toNat = n + S.length by omega, Int.toNat_natCast, Int.toNat_natCast, List.take_length, List.take_length]
          unfold patched
          have : (C.take n ++ S).length = n + S.length := by rw [List.length_append, List.length_take]; omega
          conv => lhs; arg 1; rw [← this]
          rw [List.drop_left]
          split
          · rfl
          · rw [List.drop_eq_nil_of_le (by omega), List.drop_eq_nil_of_le (by omega)]
        rw [e1, e2, e3]
        simp
  · rw [if_neg h0, if_pos h0, Option.bind_some, bne0_true h0, Bool.true_or, cond_true]; rfl
end Go.Proofs.Ytiaoncjkfgebdaa
