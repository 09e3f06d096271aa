/- Plain Lean: the law StreamThen. Its conditions: none. -/
import Derived.Test.YtldlakjemifdmaaWStreamThenF
import Derived.Test.YtldlakjemifdmaaPStream
import Derived.Test.YtldlakjemifdmaaPRunL
import Derived.Test.YtldlakjemifdmaaPEq
namespace Go.Proofs.Ytldlakjemifdmaa
set_option linter.unusedVariables false
set_option linter.unusedSimpArgs false

theorem chkR_one {e : DElem} (h : chkE e = 0) : chkR [e] = 0 :=
  chkR_zero.2 ⟨by simp, fun x hx => by rw [List.mem_singleton] at hx; rw [hx]; exact h, List.pairwise_singleton _ _⟩
theorem annalkeep_StreamThen_true (F : Nat) [Big F] (l : List DElem) (pfs t u : Int) (k : DKey) (k0 : okAllW 56 okElem l) (k1 : okInt .i64 pfs) (k2 : okInt .i64 t) (k3 : okInt .i64 u) (k4 : okKey k) :
    annalkeep_StreamThen F l pfs t u k = some true := by
  unfold annalkeep_StreamThen
  have c1 : chkR [(DElem.mk (DKey.mk 0 0 0) 1 3 (ByteArray.mk #[]))] = 0 := chkR_one (by decide)
  have e1 : uptoE [(DElem.mk (DKey.mk 0 0 0) 1 3 (ByteArray.mk #[]))] 0 2 = 0 := uptoE_zero.2 ⟨chkR_zero.1 c1, by decide, by decide, by decide, by decide⟩
  have u1 : uptoR [(DElem.mk (DKey.mk 0 0 0) 1 3 (ByteArray.mk #[]))] 0 2 = [(DElem.mk (DKey.mk 0 0 0) 1 0 (ByteArray.mk #[]))] := rfl
  rw [stream_Upto_eq, e1, if_pos rfl, u1, Option.bind_some]
  dsimp only
  rw [bne0_false rfl, cond_false, eqElem_self _ (by simp), Option.bind_some, Option.bind_some, Bool.not_true, cond_false, stream_Upto_eq, Option.bind_some]
  by_cases h : uptoE l pfs t = 0
  · obtain ⟨hl, h1, h2, h3, h4⟩ := uptoE_zero.1 h
    rw [h, if_pos rfl]
    dsimp only
    rw [bne0_false rfl, cond_false]
    generalize hv : (if t < u then t else u) = v
    have hvt : v ≤ t := by rw [← hv]; split <;> omega
    have hm := hl.upto pfs t
    rw [run_At_eq, Option.bind_some, run_At_eq, Option.bind_some, run_Check_eq, chkR_run hm]
    dsimp only
    by_cases hk : chkK ⟨pfs, k.obj, k.off⟩ = 0
    · rw [atE_run hl hk, atE_run hm hk, atV_run hl hk, atV_run hm hk, at_upto (pfs := pfs) hl hvt (k := ⟨pfs, k.obj, k.off⟩) rfl]
      cases atR l ⟨pfs, k.obj, k.off⟩ v with
      | none => simp [seq_self]
      | some e => simp [thenE_val, thenE_made, seq_self]
    · rw [(at_bad hk hl v).1, (at_bad hk hl v).2, (at_bad hk hm v).1, (at_bad hk hm v).2]
      simp [seq_self]
  · rw [if_neg h]
    dsimp only
    rw [bne0_true h, cond_true]; rfl
end Go.Proofs.Ytldlakjemifdmaa
