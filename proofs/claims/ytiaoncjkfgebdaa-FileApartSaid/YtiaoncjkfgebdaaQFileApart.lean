/- Plain Lean: the law FileApart. Its conditions: none. -/
import Derived.Test.YtiaoncjkfgebdaaWFileApartF
import Derived.Test.YtiaoncjkfgebdaaPFileL
namespace Go.Proofs.Ytiaoncjkfgebdaa
set_option linter.unusedVariables false
set_option linter.unusedSimpArgs false
variable {F : Nat} [Big F]
def abcS : ByteArray := ByteArray.mk #[97, 98, 99]
theorem apart_smoke : ∃ m, file_Set F [] 0 5 abcS 1 = some (m, 0) ∧ m.length = 1 ∧ DoSpec [] (setC [] 0 5 abcS) 1 m := by
  have h : setE [] 0 5 abcS 1 = 0 := set_nil (by decide) (by decide) (by decide) (by decide)
  have e : foldE (doStep 1) [] (setC [] 0 5 abcS) = .inl [⟨⟨0, 5, 1⟩, 1, 0, abcS⟩] := by rfl
  obtain ⟨h1, h2⟩ := file_Set_is (F := F) h e
  exact ⟨_, h2, rfl, h1⟩
theorem look_two {l m : List DElem} (hl : Run l) (hm : Run m) (p o : Int) : lookE l p o = lookE m p o := by
  unfold lookE; rw [chkR_run hl, chkR_run hm]
theorem annalkeep_FileApart_true (F : Nat) [Big F] (l : List DElem) (o q : Int) (s : ByteArray) (t : Int) (_ : okAllW 56 okElem l) (_ : okInt .i64 o) (_ : okInt .i64 q) (_ : okStr s) (_ : s.size ≤ reachBytes) (_ : okInt .i64 t) : annalkeep_FileApart F l o q s t = some true := by
  unfold annalkeep_FileApart
  obtain ⟨m0, s1, s2, s3⟩ := apart_smoke (F := F)
  show ((file_Set F [] 0 5 abcS 1).bind _) = _
  rw [s1, Option.bind_some, file_Get_eq, show lookE m0 0 6 = 0 from lookE_zero.2 ⟨s3.run, by decide⟩, if_pos rfl, set_other s3 (by decide), s2, Option.bind_some]
  show (bif ((0 : Int) != 0 || ((0 : Int) != 0 || (((1 : Nat) : Int) != 1 || !(seq (content [] 0 6 1) e0)))) then _ else _) = _
  rw [show content [] 0 6 1 = e0 from rfl, seq_self]
  show (file_Set F l 0 o s t).bind _ = _
  rcases file_Set_cases (F := F) l 0 o s t with ⟨h, e⟩ | ⟨h, e | ⟨m, hm, e⟩⟩
  · rw [e, Option.bind_some, bne0_true h, Bool.true_or, cond_true]; simp
  · rw [e]; rfl
  · obtain ⟨hr, hk, hs, t0, t1, tl⟩ := setE_zero.1 h
    rw [e, Option.bind_some]
    by_cases hoq : o = q
    · rw [beq_iff_eq.2 hoq]; rfl
    · rw [beq_eq_false_iff_ne.2 hoq]
      simp only [bne_self_eq_false, Bool.or_false, cond_false, file_Get_eq, Option.bind_some]
      rw [look_two hm.run hr 0 q, look_two hm.run hr 1 o, set_other hm (fun h => hoq h.2.symm), set_other hm (fun h => by simp at h)]
      simp [seq_self]
end Go.Proofs.Ytiaoncjkfgebdaa
