/- Plain Lean: what the laws of runs share. Its conditions: none. -/
import Derived.Test.YtaodaihoglcinacPRun
import Derived.Test.YtaodaihoglcinacPEq
import Derived.Test.YtaodaihoglcinacLaw
namespace Go.Proofs.Ytaodaihoglcinac
set_option linter.unusedVariables false
set_option linter.unusedSimpArgs false
variable {F : Nat} [Big F]
theorem okInt_i64 {n : Int} (h : okInt .i64 n) : -9223372036854775808 ≤ n ∧ n ≤ 9223372036854775807 := by
  unfold okInt at h
  simp [Lit.wf, IntKind.min, IntKind.max, IntKind.signed, IntKind.bits] at h
  omega
theorem within_eq {n m : Int} (hm : 0 < m) (hn : m ≤ 2000000) (h : okInt .i64 n) : ∃ r : Nat, annalkeep_Within n m = some (r : Int) ∧ (r : Int) < m := by
  obtain ⟨h1, h2⟩ := okInt_i64 h
  unfold annalkeep_Within toDiv
  have e1 : IntKind.u64.wrap m = m := by simp [IntKind.wrap, IntKind.bits, IntKind.signed]; omega
  have e2 : 0 ≤ IntKind.u64.wrap n := by simp [IntKind.wrap, IntKind.bits, IntKind.signed]; omega
  rw [e1, if_neg (by omega), Option.bind_some]
  have h3 := Int.tmod_nonneg m e2
  have h4 := Int.tmod_lt_of_pos (IntKind.u64.wrap n) hm
  refine ⟨((IntKind.u64.wrap n).tmod m).toNat, ?_, by omega⟩
  rw [w64 (by omega) (by omega)]
  congr 1; omega
theorem chkR_run {l : List DElem} (h : Run l) : chkR l = 0 := chkR_zero.2 h
theorem atE_run {l : List DElem} (h : Run l) {k : DKey} (hk : chkK k = 0) (t : Int) : atE l k t = if (atR l k t).isNone then 4 else 0 := by
  unfold atE; rw [if_neg (by simpa using chkR_run h), if_neg (by simpa using hk)]
theorem atV_run {l : List DElem} (h : Run l) {k : DKey} (hk : chkK k = 0) (t : Int) : atV l k t = (atR l k t).getD zeroE := by
  unfold atV; rw [if_pos ⟨chkR_run h, hk⟩]
theorem at_bad {l : List DElem} {k : DKey} (hk : chkK k ≠ 0) (hl : Run l) (t : Int) : atE l k t = chkK k ∧ atV l k t = zeroE := by
  unfold atE atV; rw [if_neg (by simpa using chkR_run hl), if_pos hk, if_neg (fun h => hk h.2)]; exact ⟨rfl, rfl⟩
theorem at_same {l m : List DElem} (hl : Run l) (hm : Run m) {k : DKey} {t u : Int} (h : atR l k t = atR m k u) : atE l k t = atE m k u ∧ atV l k t = atV m k u := by
  by_cases hk : chkK k = 0
  · rw [atE_run hl hk, atE_run hm hk, atV_run hl hk, atV_run hm hk, h]; exact ⟨rfl, rfl⟩
  · have h1 := at_bad hk hl t
    have h2 := at_bad hk hm u
    exact ⟨h1.1.trans h2.1.symm, h1.2.trans h2.2.symm⟩
theorem endE_val (t : Int) (e : DElem) : (endE t e).val = e.val ∧ (endE t e).made = e.made ∧ (endE t e).key = e.key := by unfold endE; split <;> exact ⟨rfl, rfl, rfl⟩
theorem seq_self (x : ByteArray) : seq x x = true := (seq_iff x x).2 rfl
/-- What a put that went well is. -/
theorem put_ok {l : List DElem} {k : DKey} {v : ByteArray} {t : Int} (h : putE l k v t = 0) : Run l ∧ Run (putR l k v t) ∧ chkE (newE k v t) = 0 ∧ chkK k = 0 ∧ lastL l ≤ t ∧ 1 ≤ t ∧ t ≤ 2147483647 ∧ v.size ≤ 40 := by
  obtain ⟨h1, h2, h3, h4⟩ := putE_zero.1 h
  obtain ⟨h5, h6, h7, h8⟩ := newE_ok h2
  exact ⟨h1, h1.putR h3 h2 h4, h2, h5, h3, h6, h7, h8⟩
theorem cut_ok {l : List DElem} {k : DKey} {t : Int} (h : cutE l k t = 0) : Run l ∧ Run (cutR l k t) ∧ chkK k = 0 ∧ lastL l ≤ t ∧ 1 ≤ t ∧ t ≤ 2147483647 ∧ ∃ e, nowR l k = some e := by
  obtain ⟨h1, h2, h3, h4, h5, h6⟩ := cutE_zero.1 h
  exact ⟨h1, h1.cutR h5 h3 h4 k, h2, h5, h3, h4, Option.isSome_iff_exists.1 h6⟩
end Go.Proofs.Ytaodaihoglcinac
