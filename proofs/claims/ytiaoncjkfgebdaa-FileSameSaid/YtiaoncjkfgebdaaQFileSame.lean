/- Plain Lean: the law FileSame. Its conditions: none. -/
import Derived.Test.YtiaoncjkfgebdaaWFileSameF
import Derived.Test.YtiaoncjkfgebdaaPFileL
import Derived.Test.YtiaoncjkfgebdaaPRunL
namespace Go.Proofs.Ytiaoncjkfgebdaa
set_option linter.unusedVariables false
set_option linter.unusedSimpArgs false
variable {F : Nat} [Big F]
def sameS : ByteArray := ByteArray.mk #[97, 98, 99]
theorem same_smoke : file_Set F [] 0 5 sameS 1 = some ([⟨⟨0, 5, 1⟩, 1, 0, sameS⟩], 0) ∧ file_Set F [⟨⟨0, 5, 1⟩, 1, 0, sameS⟩] 0 5 e0 2 = some ([⟨⟨0, 5, 1⟩, 1, 2, sameS⟩], 0) := by
  have h : setE [] 0 5 sameS 1 = 0 := set_nil (by decide) (by decide) (by decide) (by decide)
  have e : foldE (doStep 1) [] (setC [] 0 5 sameS) = .inl [⟨⟨0, 5, 1⟩, 1, 0, sameS⟩] := by rfl
  obtain ⟨h1, h2⟩ := file_Set_is (F := F) h e
  have e' : foldE (doStep 2) [⟨⟨0, 5, 1⟩, 1, 0, sameS⟩] (setC [⟨⟨0, 5, 1⟩, 1, 0, sameS⟩] 0 5 e0) = .inl [⟨⟨0, 5, 1⟩, 1, 2, sameS⟩] := by rfl
  obtain ⟨h3, h4⟩ := file_Set_is (F := F) (set_next (s' := e0) (t' := 2) h h1 (by decide) (by decide) (by decide)) e'
  exact ⟨h2, h4⟩
theorem annalkeep_FileSame_true (F : Nat) [Big F] (l : List DElem) (p o : Int) (t : Int) (_ : okAllW 56 okElem l) (_ : okInt .i64 p) (_ : okInt .i64 o) (_ : okInt .i64 t) : annalkeep_FileSame F l p o t = some true := by
  unfold annalkeep_FileSame
  obtain ⟨s1, s2⟩ := same_smoke (F := F)
  show ((file_Set F [] 0 5 sameS 1).bind _) = _
  rw [s1, Option.bind_some]
  show ((file_Set F [⟨⟨0, 5, 1⟩, 1, 0, sameS⟩] 0 5 e0 2).bind _) = _
  rw [s2]
  show (file_Get F l p o 2147483647).bind _ = _
  rw [file_Get_eq, Option.bind_some]
  generalize hs : (if lookE l p o = 0 then content l p o 2147483647 else e0) = s
  show (file_Set F l p o s t).bind (fun r4 => (file_Set F l p o e0 t).bind _) = _
  have nope : ∀ (a b : Int), (lookE l p o = 0 ∨ s = e0) → (some ((lookE l p o == 0) || (seq s (ByteArray.mk #[])))) = some true := fun a b h => by
    rcases h with h | h
    · rw [h]; rfl
    · rw [h]; rw [show seq e0 (ByteArray.mk #[]) = true from seq_self e0, Bool.or_true]
  have hh : lookE l p o = 0 ∨ s = e0 := by
    by_cases h : lookE l p o = 0
    · exact .inl h
    · right; rw [← hs, if_neg h]
  rcases file_Set_cases (F := F) l p o s t with ⟨h, e⟩ | ⟨h, e | ⟨m, hm, e⟩⟩ <;> rcases file_Set_cases (F := F) l p o e0 t with ⟨h', e'⟩ | ⟨h', e' | ⟨n, hn, e'⟩⟩ <;> rw [e, e'] <;> simp only [Option.bind_some]
  · rw [bne0_true h, Bool.true_or, Bool.or_true, cond_true]; exact nope 0 0 hh
  · rw [bne0_true h, Bool.true_or, Bool.or_true, cond_true]; exact nope 0 0 hh
  · rw [bne0_true h, Bool.true_or, Bool.or_true, cond_true]; exact nope 0 0 hh
  · rw [bne0_true h', Bool.or_true, Bool.or_true, cond_true]; exact nope 0 0 hh
  · rw [show ((8 : Int) != 0) = true from rfl, Bool.or_true, Bool.or_true, cond_true]; exact nope 0 0 hh
  · rw [show ((8 : Int) != 0) = true from rfl, Bool.true_or, Bool.or_true, cond_true]; exact nope 0 0 hh
  · rw [bne0_true h', Bool.or_true, Bool.or_true, cond_true]; exact nope 0 0 hh
  · rw [show ((8 : Int) != 0) = true from rfl, Bool.or_true, Bool.or_true, cond_true]; exact nope 0 0 hh
  · obtain ⟨hr, hk, hz, t0, t1, tl⟩ := setE_zero.1 h
    obtain ⟨k1, k2⟩ := look_set h hm
    obtain ⟨_, k3⟩ := look_set h' hn
    rw [k1]
    simp only [bne_self_eq_false, Bool.or_false, cond_false]
    have hnil : setC m p o s = [] := setC_nil fun i hi => by rw [← nowV_at hm.run (Int.le_trans hm.last t1), set_want h hm t1 hi]
    have hE := set_next (s' := s) (t' := t) h hm hz (Int.le_refl _) t1
    obtain ⟨_, h6⟩ := file_Set_is (F := F) (m := m) hE (by rw [hnil]; rfl)
    rw [h6, file_Get_eq, k3]
    simp only [Option.bind_some, if_true]
    have := hm.run.len
    rw [set_content h' hn t1, eqElem_self _ (by omega), show seq e0 (ByteArray.mk #[]) = true from seq_self e0]; rfl
end Go.Proofs.Ytiaoncjkfgebdaa
