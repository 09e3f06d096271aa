/- Plain Lean: the law RealmTimes. Its conditions: none. -/
import Derived.Test.YtomgholekojenaaWRealmTimesF
import Derived.Test.YtomgholekojenaaPBook
namespace Go.Proofs.Ytomgholekojenaa
set_option linter.unusedVariables false
set_option linter.unusedSimpArgs false

/-- The book with two masters. -/
def bk2 : DBook := ⟨[], ⟨1, 1, 0, 0, 0, 0, 0, 0, 0, 0, 0, 0, 0, 0, 0, 0⟩, ⟨0, 0, 0, 0, 0, 0, 0, 0, 0, 0, 0, 0, 0, 0, 0, 0⟩⟩
theorem book_bk2 : Book bk2 := chkB_zero.1 (by decide)
theorem chkE_one {k : DKey} {v : ByteArray} {t : Int} (hk : chkK k = 0) (h1 : 1 ≤ t) (h2 : t ≤ 2147483647) (hv : v.size ≤ 40) : chkE (newE k v t) = 0 := chkE_new hk h1 h2 hv
theorem run_new {k : DKey} {v : ByteArray} {t : Int} (h : chkE (newE k v t) = 0) : Run [newE k v t] := ⟨by simp, fun x hx => by rw [List.mem_singleton.1 hx]; exact h, List.pairwise_singleton _ _⟩
theorem putR_nil (k : DKey) (v : ByteArray) (t : Int) : putR [] k v t = [newE k v t] := rfl
theorem putE_nil {k : DKey} {v : ByteArray} {t : Int} (h : chkE (newE k v t) = 0) : putE [] k v t = 0 :=
  putE_zero.2 ⟨Run.nil, h, by obtain ⟨_, h1, _, _⟩ := newE_ok h; show (0 : Int) ≤ t; omega, by rw [putR_nil]; simp⟩

theorem annalkeep_RealmTimes_true (F : Nat) [Big F] (val : ByteArray) (t u : Int) (k0 : okStr val) (k0_ : val.size ≤ reachBytes) (k1 : okInt .i64 t) (k2 : okInt .i64 u) : annalkeep_RealmTimes F val t u = some true := by
  unfold annalkeep_RealmTimes annalkeep_book
  obtain ⟨x, hx, hx1⟩ := within_eq (n := t) (m := 1000) (by decide) (by decide) k1
  obtain ⟨y, hy, hy1⟩ := within_eq (n := u) (m := 1000) (by decide) (by decide) k2
  rw [Option.bind_some, hx, Option.bind_some, hy, Option.bind_some, w64 (n := 1 + (x : Int)) (by omega) (by omega), w64 (n := 1 + (y : Int)) (by omega) (by omega), w64 (n := 1 + (x : Int) - 1) (by omega) (by omega)]
  show ((realm_Put F bk2 ⟨0, 0, 1⟩ (ByteArray.mk #[97]) (1 + (x : Int))).bind _) = _
  have c1 : chkE (newE ⟨0, 0, 1⟩ (ByteArray.mk #[97]) (1 + (x : Int))) = 0 := chkE_one (by decide) (by omega) (by omega) (by decide)
  have e1 : putB bk2 ⟨0, 0, 1⟩ (ByteArray.mk #[97]) (1 + (x : Int)) = (⟨[newE ⟨0, 0, 1⟩ (ByteArray.mk #[97]) (1 + (x : Int))], bk2.roles, bk2.fed⟩, 0) :=
    putB_good book_bk2 (by decide) (by decide) (by decide) (putE_nil c1) (by show ([newE _ _ _] : List DElem).length ≤ 400; simp)
  have b1 : Book ⟨[newE ⟨0, 0, 1⟩ (ByteArray.mk #[97]) (1 + (x : Int))], bk2.roles, bk2.fed⟩ := by
    have := (putB_ok (b := bk2) (k := ⟨0, 0, 1⟩) (v := ByteArray.mk #[97]) (t := 1 + (x : Int)) (by rw [e1])).2.2.2.2.2.2
    rwa [e1] at this
  rw [realm_Put_eq, Option.bind_some, e1]
  dsimp only
  rw [show ((0 : Int) != 0 || ((([newE ⟨0, 0, 1⟩ (ByteArray.mk #[97]) (1 + (x : Int))] : List DElem).length : Int) != 1)) = false by rfl, cond_false, realm_Put_eq, Option.bind_some]
  have hat : atP [newE ⟨0, 0, 1⟩ (ByteArray.mk #[97]) (1 + (x : Int))] 1 = [] := rfl
  by_cases hv : 40 < val.size
  · rw [decide_eq_true (by omega), cond_true]
    have hc : chkE (newE ⟨1, 0, 0⟩ val (1 + (y : Int))) = 2 := by
      unfold chkE newE
      dsimp only
      rw [if_neg (by decide), if_neg (by omega), if_pos hv]
    have he : putE [] ⟨1, 0, 0⟩ val (1 + (y : Int)) = 2 := by
      unfold putE
      rw [if_neg (by decide), hc, if_pos (by decide)]
    have := putB_err (v := val) (t := 1 + (y : Int)) b1 (k := ⟨1, 0, 0⟩) (by decide) (by decide) rfl (by rw [hat, he]; decide)
    rw [this]
    show some (putE (atP [newE ⟨0, 0, 1⟩ (ByteArray.mk #[97]) (1 + (x : Int))] 1) ⟨1, 0, 0⟩ val (1 + (y : Int)) == 2) = _
    rw [hat, he]; rfl
  · rw [decide_eq_false (by omega), cond_false]
    have c2 : chkE (newE ⟨1, 0, 0⟩ val (1 + (y : Int))) = 0 := chkE_one (by decide) (by omega) (by omega) (by omega)
    have e2 : putB ⟨[newE ⟨0, 0, 1⟩ (ByteArray.mk #[97]) (1 + (x : Int))], bk2.roles, bk2.fed⟩ ⟨1, 0, 0⟩ val (1 + (y : Int)) = (⟨[newE ⟨0, 0, 1⟩ (ByteArray.mk #[97]) (1 + (x : Int)), newE ⟨1, 0, 0⟩ val (1 + (y : Int))], bk2.roles, bk2.fed⟩, 0) :=
      putB_good b1 (by decide) (by decide) rfl (by show putE (atP _ 1) _ _ _ = 0; rw [hat]; exact putE_nil c2) (by show ([newE _ _ _, newE _ _ _] : List DElem).length ≤ 400; simp)
    have b2 : Book ⟨[newE ⟨0, 0, 1⟩ (ByteArray.mk #[97]) (1 + (x : Int)), newE ⟨1, 0, 0⟩ val (1 + (y : Int))], bk2.roles, bk2.fed⟩ := by
      have := (putB_ok (b := ⟨[newE ⟨0, 0, 1⟩ (ByteArray.mk #[97]) (1 + (x : Int))], bk2.roles, bk2.fed⟩) (k := ⟨1, 0, 0⟩) (v := val) (t := 1 + (y : Int)) (by rw [e2])).2.2.2.2.2.2
      rwa [e2] at this
    rw [e2]
    dsimp only
    rw [realm_Put_eq, Option.bind_some]
    have hat2 : atP [newE ⟨0, 0, 1⟩ (ByteArray.mk #[97]) (1 + (x : Int)), newE ⟨1, 0, 0⟩ val (1 + (y : Int))] 0 = [newE ⟨0, 0, 1⟩ (ByteArray.mk #[97]) (1 + (x : Int))] := rfl
    have hlast : lastL [newE ⟨0, 0, 1⟩ (ByteArray.mk #[97]) (1 + (x : Int))] = 1 + (x : Int) := by
      refine Int.le_antisymm (lastL_le.2 ⟨by omega, fun e he => ?_⟩) ?_
      · rw [List.mem_singleton.1 he, lastE_le]; show 1 + (x : Int) ≤ 1 + (x : Int) ∧ (0 : Int) ≤ 1 + (x : Int); omega
      · have := le_lastL (l := [newE ⟨0, 0, 1⟩ (ByteArray.mk #[97]) (1 + (x : Int))]) (List.mem_singleton.2 rfl)
        have h2 := (lastE_le.1 (Int.le_refl (lastE (newE ⟨0, 0, 1⟩ (ByteArray.mk #[97]) (1 + (x : Int)))))).1
        exact Int.le_trans h2 this
    have h9 : putE [newE ⟨0, 0, 1⟩ (ByteArray.mk #[97]) (1 + (x : Int))] ⟨0, 0, 2⟩ (ByteArray.mk #[98]) (1 + (x : Int) - 1) = 9 := by
      unfold putE
      rw [if_neg (by simpa using chkR_zero.2 (run_new c1))]
      by_cases h0 : x = 0
      · subst h0
        rfl
      · rw [if_neg (by simpa using chkE_one (k := ⟨0, 0, 2⟩) (v := ByteArray.mk #[98]) (t := 1 + (x : Int) - 1) (by decide) (by omega) (by omega) (by decide)), hlast, if_pos (by omega)]
    have := putB_err (v := ByteArray.mk #[98]) (t := 1 + (x : Int) - 1) b2 (k := ⟨0, 0, 2⟩) (by decide) (by decide) rfl (by show putE (atP _ 0) _ _ _ ≠ 0; rw [hat2, h9]; decide)
    rw [this]
    show (Option.bind (bif ((0 : Int) == 0) then (bif (((2 : Nat) : Int) == 2) then (bif ((1 + (y : Int)) == 1 + (y : Int)) then some (putE (atP [newE ⟨0, 0, 1⟩ (ByteArray.mk #[97]) (1 + (x : Int)), newE ⟨1, 0, 0⟩ val (1 + (y : Int))] 0) ⟨0, 0, 2⟩ (ByteArray.mk #[98]) (1 + (x : Int) - 1) == 9) else some false) else some false) else some false) fun z1 => some z1) = _
    rw [hat2, h9]
    simp
end Go.Proofs.Ytomgholekojenaa
