/- Plain Lean: the law DirOthers. Its conditions: none. -/
import Derived.Test.YtaccejbajgmdnaaDoorWDirOthersF
import Derived.Test.YtaccejbajgmdnaaDoorPDir2
import Derived.Test.YtaccejbajgmdnaaDoorLaw
namespace Go.Proofs.YtaccejbajgmdnaaDoor
set_option linter.unusedVariables false
set_option linter.unusedSimpArgs false
variable {F : Nat} [Big F]
theorem find_same {l m : List DElem} {p o t : Int} {s : List UInt8} (hl : Run l) (hm : Run m) (h : m.findSome? (wD p o (ofL s) t) = l.findSome? (wD p o (ofL s) t)) : findD m p o s t = findD l p o s t := by
  have hk : lookD m p o = lookD l p o := by
    unfold lookD
    rw [if_neg (by simpa using chkR_zero.2 hm), if_neg (by simpa using chkR_zero.2 hl)]
  unfold findD fdD
  rw [hk, h]
theorem live_end {e : DElem} {t : Int} (he : chkE e = 0) (hl : live e 2147483647 = true) : e.gone = 0 := by
  obtain ⟨_, _, _, h4, _⟩ := chkE_ok he
  rcases (live_iff.1 hl).2 with h | h
  · exact h
  · omega
/-- Adding a name changes no other one. -/
theorem add_other {l : List DElem} {k : DKey} {p o of t : Int} {s s' : List UInt8} (hr : Run l) (h0 : 0 ≤ of) (hne : s ≠ s') (ha : atR l k 2147483647 = none) (hp : putE l k (valD of s) t = 0) :
    findD (putR l k (valD of s) t) p o s' 2147483647 = findD l p o s' 2147483647 := by
  obtain ⟨_, hc, ht, hn⟩ := putE_zero.1 hp
  refine find_same hr (hr.putR ht hc hn) (look_upd _ hr.ord ?_)
  have hdead : ∀ e ∈ hist l k, live e 2147483647 = false := fun e he => atR_none.1 ha e (mem_hist.1 he).1 (mem_hist.1 he).2
  rw [none_all (fun e he => wD_none fun hl => by rw [hdead e he] at hl; cases hl)]
  refine (none_all fun e he => ?_).symm
  rcases List.mem_append.1 he with he | he
  · rcases mem_clo.1 he with ⟨h1, _⟩ | ⟨x, hx, hg, _, rfl⟩
    · exact wD_none fun hl => by rw [hdead e h1] at hl; cases hl
    · exfalso
      have := hdead x hx
      obtain ⟨_, _, h3, _, _⟩ := chkE_ok (hr.ok x (mem_hist.1 hx).1)
      rw [live_iff.2 ⟨h3, .inl hg⟩] at this
      cases this
  · rw [List.mem_singleton.1 he]
    refine wD_none fun _ h2 h3 => hne ?_
    have := ent_new (e := newE k (valD of s) t) h0 rfl h2
    rw [this] at h3
    have h4 : s.toArray = s'.toArray := congrArg ByteArray.data h3
    simpa using h4
/-- Dropping one neither. -/
theorem drop_other {l : List DElem} {e : DElem} {p o t : Int} {s s' : ByteArray} (hr : Run l) (hne : s ≠ s') (he : e ∈ l) (hl : live e 2147483647 = true) (hs : (entS e).1 = s) (hc : cutE l e.key t = 0) :
    (cutR l e.key t).findSome? (wD p o s' 2147483647) = l.findSome? (wD p o s' 2147483647) := by
  obtain ⟨_, _, t0, t1, ht, _⟩ := cutE_zero.1 hc
  refine look_upd _ hr.ord ?_
  have hw : ∀ x ∈ hist l e.key, wD p o s' 2147483647 x = none := fun x hx => wD_none fun h1 _ h3 => by
    have := Run.live_one hr.ord (mem_hist.1 hx).1 he (mem_hist.1 hx).2 h1 hl
    rw [this, hs] at h3
    exact hne h3
  rw [none_all hw]
  refine (none_all fun x hx => ?_).symm
  rcases mem_clo.1 hx with ⟨h1, _⟩ | ⟨y, hy, hg, _, rfl⟩
  · exact hw x h1
  · refine wD_none fun h1 _ _ => ?_
    have := (live_iff.1 h1).2
    dsimp only at this
    omega
theorem annalkeep_DirOthers_true (F : Nat) [Big F] (l : List DElem) (p o : Int) (s s' : ByteArray) (of t : Int) (_ : okAllW 56 okElem l) (_ : okInt .i64 p) (_ : okInt .i64 o) (_ : okStr s) (_ : s.size ≤ reachBytes) (_ : okStr s') (_ : s'.size ≤ reachBytes) (_ : okInt .i64 of) (_ : okInt .i64 t) : annalkeep_DirOthers F l p o s s' of t = some true := by
  obtain ⟨s, rfl⟩ : ∃ b, s = ofL b := ⟨s.data.toList, by simp [ofL]⟩
  obtain ⟨s', rfl⟩ : ∃ b, s' = ofL b := ⟨s'.data.toList, by simp [ofL]⟩
  unfold annalkeep_DirOthers
  rw [add0, Option.bind_some]
  dsimp only
  rw [drop0 (by decide) (by decide), Option.bind_some, cut1]
  dsimp only
  rw [show ((((0 : Int) != 0) || (((0 : Int) != 0) || ((((([e0] : List DElem).length : Int)) != 1) || (((([] : List DElem).length : Int)) != 0))))) = false from rfl, cond_false, seq_ofL]
  cases hss : (s == s') with
  | true => rfl
  | false =>
    have hne : s ≠ s' := by simpa using hss
    have hne' : ofL s ≠ ofL s' := fun h => hne (by have h4 : s.toArray = s'.toArray := congrArg ByteArray.data h; simpa using h4)
    rw [cond_false, dir_Find_eq, Option.bind_some]
    obtain ⟨m, e, ea, ha⟩ := add_cases (F := F) l p o s of t
    obtain ⟨m2, e2, ed, _, hd⟩ := drop_cases (F := F) l p o s t
    have h2 : ((dir_Drop F l p o (ofL s) t).bind fun r6 =>
              bif (r6.2 == 0) then
                (dir_Find F r6.1 p o (ofL s') 2147483647).bind fun r7 =>
                bif (((findD l p o s' 2147483647).1 != r7.1) || ((findD l p o s' 2147483647).2 != r7.2)) then
                  some (.inr false)
                else
                  some (.inl ())
              else
                some (.inl ()) : Option ((Unit) ⊕ Bool)) = some (.inl ()) := by
      rw [ed, Option.bind_some]
      dsimp only
      by_cases h : e2 = 0
      · obtain ⟨hr, _, _, hf, hc, rfl⟩ := hd h
        obtain ⟨x, hx, _, _, hl, _, h6, h7⟩ := fdD_some hf
        rw [h7] at hc ⊢
        dsimp only at hc ⊢
        obtain ⟨_, _, t0, t1, ht, _⟩ := cutE_zero.1 hc
        rw [show (e2 == 0) = true by simpa using h, cond_true, dir_Find_eq, Option.bind_some, find_same hr (hr.cutR ht t0 t1 x.key) (drop_other hr hne' hx hl h6 hc)]
        simp
      · rw [show (e2 == 0) = false by simpa using h, cond_false]
    rw [ea, Option.bind_some]
    dsimp only
    by_cases h : e = 0
    · obtain ⟨hr, _, _, h0, k, hat, hp, rfl⟩ := ha h
      rw [show (e == 0) = true by simpa using h, cond_true, dir_Find_eq, Option.bind_some, add_other hr h0 hne hat hp]
      rw [show ((findD l p o s' 2147483647).1 != (findD l p o s' 2147483647).1 || (findD l p o s' 2147483647).2 != (findD l p o s' 2147483647).2) = false by simp, cond_false, Option.bind_some]
      dsimp only
      rw [h2, Option.bind_some]
    · rw [show (e == 0) = false by simpa using h, cond_false, Option.bind_some]
      dsimp only
      rw [h2, Option.bind_some]
end Go.Proofs.YtaccejbajgmdnaaDoor
