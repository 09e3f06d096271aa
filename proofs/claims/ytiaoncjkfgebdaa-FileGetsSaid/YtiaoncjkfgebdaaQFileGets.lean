/- Plain Lean: the law FileGets. Its conditions: none. -/
import Derived.Test.YtiaoncjkfgebdaaWFileGetsF
import Derived.Test.YtiaoncjkfgebdaaPFileL
namespace Go.Proofs.Ytiaoncjkfgebdaa
set_option linter.unusedVariables false
set_option linter.unusedSimpArgs false
variable {F : Nat} [Big F]
def getsS : ByteArray := ByteArray.mk #[115, 101, 118, 101, 110, 116, 101, 101, 110, 32, 98, 121, 116, 101, 115, 46, 46]
theorem gets_smoke : ∃ m, file_Set F [] 0 5 getsS 1 = some (m, 0) ∧ m.length = 2 ∧ DoSpec [] (setC [] 0 5 getsS) 1 m := by
  have h : setE [] 0 5 getsS 1 = 0 := set_nil (by decide) (by decide) (by decide) (by decide)
  have e : foldE (doStep 1) [] (setC [] 0 5 getsS) = .inl [⟨⟨0, 5, 1⟩, 1, 0, getsS.extract 0 16⟩, ⟨⟨0, 5, 2⟩, 1, 0, getsS.extract 16 17⟩] := by rfl
  obtain ⟨h1, h2⟩ := file_Set_is (F := F) h e
  exact ⟨_, h2, rfl, h1⟩
theorem annalkeep_FileGets_true (F : Nat) [Big F] (l : List DElem) (p o : Int) (s : ByteArray) (t u : Int) (_ : okAllW 56 okElem l) (_ : okInt .i64 p) (_ : okInt .i64 o) (_ : okStr s) (_ : s.size ≤ reachBytes) (_ : okInt .i64 t) (_ : okInt .i64 u) : annalkeep_FileGets F l p o s t u = some true := by
  unfold annalkeep_FileGets
  obtain ⟨m0, s1, s2, s3⟩ := gets_smoke (F := F)
  have h : setE [] 0 5 getsS 1 = 0 := set_nil (by decide) (by decide) (by decide) (by decide)
  show ((file_Set F [] 0 5 getsS 1).bind _) = _
  rw [s1, Option.bind_some, file_Get_eq, (look_set h s3).2, if_pos rfl, set_content h s3 (by decide), s2, Option.bind_some]
  show (bif ((0 : Int) != 0 || ((0 : Int) != 0 || (((2 : Nat) : Int) != 2 || !(seq getsS getsS)))) then _ else _) = _
  rw [seq_self]
  show (file_Set F l p o s t).bind _ = _
  rcases file_Set_cases (F := F) l p o s t with ⟨h, e⟩ | ⟨h, e | ⟨m, hm, e⟩⟩
  · rw [e, Option.bind_some, bne0_true h]; rfl
  · rw [e]; rfl
  · obtain ⟨hr, hk, hs, t0, t1, tl⟩ := setE_zero.1 h
    obtain ⟨k1, k2⟩ := look_set h hm
    rw [e, Option.bind_some, w64 (by omega) (by omega)]
    simp only [bne_self_eq_false, cond_false, file_Get_eq, k1, k2, if_true, Option.bind_some]
    rw [set_content h hm (by split <;> omega), set_past hm (by split <;> omega), seq_self, seq_self, run_Check_eq, chkR_run hm.run]; rfl
end Go.Proofs.Ytiaoncjkfgebdaa
