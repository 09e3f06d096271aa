/- Plain Lean: what grow.Insert and grow.Set make of a right tree. Its conditions: none. -/
import Derived.Test.YtcmkdoahkncakaaPIns2J
import Derived.Test.YtcmkdoahkncakaaCpFJ
import Derived.Test.YtcmkdoahkncakaaLookFJ
import Derived.Test.YtcmkdoahkncakaaGrowIFJ
import Derived.Test.YtcmkdoahkncakaaGrowSFJ
import Derived.Test.YtcmkdoahkncakaaWGrowSetsFJ
import Derived.Test.YtcmkdoahkncakaaPTreeLJ
import Derived.Test.YtcmkdoahkncakaaRows
import Derived.Test.YtcmkdoahkncakaaLawJ
namespace Go.Proofs.Ytcmkdoahkncakaa
set_option linter.unusedVariables false
set_option linter.unusedSimpArgs false
variable {F : Nat} [Big F]

/-! ### Copies -/
theorem node_Copy_eq {n : DNode} (h : chkN n = 0) : node_Copy n = some n := by
  obtain ⟨h1, h2⟩ := small8 h
  have h3 : n.seps.length ≤ 8 ∧ n.tids.length ≤ 8 := by
    rcases chkN_zero.1 h with h | h | h
    · rw [h.2.2.2.1, h.2.2.2.2]; simp
    · rw [h.2.seps, h.2.tids]; simp
    · have := h.2.seps; have := h.2.tids; omega
  unfold node_Copy
  rw [grow_ok (by simp; omega) (by simp; omega), Option.bind_some, grow_ok (by simp; omega) (by simp; omega), Option.bind_some, grow_ok (by simp; omega) (by simp; omega), Option.bind_some, grow_ok (by simp; omega) (by simp; omega), Option.bind_some]
  rfl
theorem allN_of {N : NL} (h : ∀ (j : Nat) (k : Int), N[j]? ≠ some (.inl k)) : allN N = some (fN N) := by
  have e : N = (fN N).map Sum.inr := List.ext_getElem? fun j => by
    rw [List.getElem?_map, fN_get]
    cases hj : N[j]? with
    | none => rfl
    | some x =>
      cases x with
      | inl k => exact absurd hj (h j k)
      | inr n => rfl
  conv => lhs; rw [e]
  exact allN_map _
theorem tree_Copy_eq {t : DTree} (hl : t.nodes.length ≤ 400) (hc : ∀ n ∈ t.nodes, chkN n = 0) : tree_Copy F t = some t := by
  unfold tree_Copy
  rw [loop_run (fun k => ((t.nodes.take k).map (Sum.inr : DNode → Int ⊕ DNode), (k : Int))) t.nodes.length (by simp) (by omega) (fun k hk => ?_) (r := t.nodes.map Sum.inr) ?_, Option.bind_some, allN_map, Option.bind_some]
  · dsimp only
    rw [decide_eq_false (by omega), cond_false, List.take_length]
  · have hg : t.nodes[k]? = some t.nodes[k] := List.getElem?_eq_getElem hk
    have hr : roomN 104 (((t.nodes.take k).map (Sum.inr : DNode → Int ⊕ DNode)).length + 1) = some () := by
      unfold roomN; rw [List.length_map, List.length_take, if_pos ⟨by omega, by unfold maxLen; omega⟩]
    dsimp only
    rw [decide_eq_true (by omega), cond_true, idx_nat', hg, Option.bind_some, node_Copy_eq (hc _ (List.getElem_mem _)), Option.bind_some, hr, Option.bind_some, w64 (by omega) (by omega), List.take_add_one, hg, List.map_append]
    rfl

/-! ### A right tree as a list of nodes -/
def nlT (t : DTree) : NL := t.nodes.map Sum.inr
theorem fN_nl (t : DTree) : fN (nlT t) = t.nodes := fN_inr _
theorem nl_get {t : DTree} {j : Nat} {x : Int ⊕ DNode} (h : (nlT t)[j]? = some x) : ∃ n, t.nodes[j]? = some n ∧ x = .inr n := by
  unfold nlT at h
  rw [List.getElem?_map] at h
  obtain ⟨n, hn, rfl⟩ := Option.map_eq_some_iff.1 h
  exact ⟨n, hn, rfl⟩
theorem good_chk {t : DTree} {h : Nat} (g : Good t h) : ChkL (nlT t) := fun n hn => by rw [fN_nl] at hn; exact g.chk n hn
theorem good_sub {t : DTree} {h : Nat} (g : Good t h) : SubT (fN (nlT t)) h t.root (mOf 0 h) topS := by
  rw [fN_nl]; exact (okN_sub g.chk h t.root 0 topS (Int.le_refl _)).1 g.ok
/-- What an edited list of nodes is. -/
theorem good_of {N : NL} {h : Nat} {root : Int} (hc : ChkL N) (hl : N.length ≤ 400) (c : SubT (fN N) h root (mOf 0 h) topS) (hn : (ids (fN N) h root).Nodup) (hall : ∀ (j : Nat) (x : Int ⊕ DNode), N[j]? = some x → kindN x ≠ 0 → j ∈ ids (fN N) h root) : Good ⟨root, fN N⟩ h := by
  refine ⟨by show (fN N).length ≤ 400; rw [fN_length]; exact hl, hc, (okN_sub hc h root 0 topS (Int.le_refl _)).2 c, hn, fun i hi hk => ?_⟩
  have hi' : i < (fN N).length := hi
  rw [fN_length] at hi'
  have hg : N[i]? = some N[i] := List.getElem?_eq_getElem hi'
  refine hall i _ hg fun h0 => hk ?_
  have : nd (fN N) (i : Int) = fN1 N[i] := by unfold nd; rw [Int.toNat_natCast, fN_get, hg]; rfl
  rw [this]
  cases hx : N[i] with
  | inl k => rfl
  | inr n => rw [hx] at h0; exact h0

/-- A record is set. -/
theorem chg_good {t : DTree} {h : Nat} {e : DElem} (g : Good t h) (he : chkE e = 0) :
    ∃ N : NL, fixD (chgB F e) F (nlT t, t.root) = some N ∧ allN N = some (fN N) ∧ Good ⟨t.root, fN N⟩ h ∧ elemsAt (fN N) h t.root = (elemsAt t.nodes h t.root).map (setE e) := by
  have hF := (inferInstance : Big F).le
  have hh := good_fuel g
  obtain ⟨N, hrun, P⟩ := chg_code (F := F) he h F (nlT t) t.root (mOf 0 h) topS (by omega) (good_chk g) (good_sub g) (by rw [fN_nl]; exact g.nodup) rfl
  have hn : (ids (fN N) h t.root).Nodup := by rw [P.ids, fN_nl]; exact g.nodup
  have hin : ∀ (j : Nat) (x : Int ⊕ DNode), N[j]? = some x → (∃ n, x = .inr n) ∧ (kindN x ≠ 0 → j ∈ ids (fN N) h t.root) := fun j x hx => by
    by_cases hj : j ∈ ids (fN N) h t.root
    · obtain ⟨n, hn, _⟩ := P.sub.used j hj
      rw [hn] at hx
      exact ⟨⟨n, (Option.some.inj hx).symm⟩, fun _ => hj⟩
    · rw [P.out j (by rw [← P.ids]; exact hj)] at hx
      obtain ⟨n, hn, rfl⟩ := nl_get hx
      exact ⟨⟨n, rfl⟩, fun hk => by
        rw [P.ids, fN_nl]
        exact g.all j (List.getElem?_eq_some_iff.1 hn).1 (by rw [nd_at hn]; exact hk)⟩
  refine ⟨N, hrun, allN_of fun j k hj => ?_, good_of P.chk ?_ P.sub hn fun j x hx => (hin j x hx).2, ?_⟩
  · obtain ⟨⟨n, hn⟩, _⟩ := hin j _ hj
    cases hn
  · rw [P.len]; unfold nlT; rw [List.length_map]; exact g.len
  · rw [P.elems, fN_nl]

/-! ### The functions -/
def anyS (e : DElem) (l : List DElem) : Bool := l.any fun x => spotE x == spotE e
theorem anyS_iff {e : DElem} {l : List DElem} : anyS e l = true ↔ ∃ x ∈ l, spotE x = spotE e := by
  unfold anyS; rw [List.any_eq_true]
  constructor
  · rintro ⟨x, hx, h⟩; exact ⟨x, hx, by simpa using h⟩
  · rintro ⟨x, hx, h⟩; exact ⟨x, hx, by simpa using h⟩
theorem anyS_append (e : DElem) (a b : List DElem) : anyS e (a ++ b) = (anyS e a || anyS e b) := List.any_append
def preL (ns : List DNode) (m : Nat) (x : Bool × Int × Int) : Prop := kidOk ns m x.2.2 ∧ 0 ≤ x.2.1 ∧ x.2.1 + ((elemsF ns m x.2.2).length : Int) ≤ 100000
def specL (ns : List DNode) (e : DElem) (m : Nat) (x : Bool × Int × Int) : Bool × Int := (x.1 || anyS e (elemsF ns m x.2.2), x.2.1 + ((elemsF ns m x.2.2).length : Int))
theorem flat_take {α β : Type} (f : α → List β) {l : List α} {k : Nat} (hk : k < l.length) : (l.take (k + 1)).flatMap f = (l.take k).flatMap f ++ f l[k] ∧ ((l.take k).flatMap f).length + (f l[k]).length ≤ (l.flatMap f).length := by
  have h1 : (l.take (k + 1)).flatMap f = (l.take k).flatMap f ++ f l[k] := by
    rw [List.take_add_one, List.getElem?_eq_getElem hk, List.flatMap_append]; simp
  refine ⟨h1, ?_⟩
  have h2 : l.flatMap f = (l.take (k + 1)).flatMap f ++ (l.drop (k + 1)).flatMap f := by rw [← List.flatMap_append, List.take_append_drop]
  rw [h2, h1, List.length_append, List.length_append]; omega
theorem grow_look_good {t : DTree} (hs : ∀ n ∈ t.nodes, Small n) {h : Nat} (hg : Good t h) {e : DElem} (he : chkE e = 0) : grow_look F t e = some (((elemsAt t.nodes h t.root).length : Int), anyS e (elemsAt t.nodes h t.root), 0) := by
  have hF := (inferInstance : Big F).le
  have h4 := good_fuel hg
  have hz : chkT F t = 0 := chkT_zero.2 ⟨h, hg⟩
  have hel := elemsF_eq hg.chk h F t.root 0 topS hg.ok (by omega)
  unfold grow_look
  rw [tree_Check_eq t hs, Option.bind_some, bne0_false hz, cond_false, elem_Check_eq, Option.bind_some, bne0_false he, cond_false]
  rw [fix_spec (preL t.nodes) (specL t.nodes e) ?h0 ?hstep F _ ?hpre]
  case h0 =>
    rintro ⟨x1, x2, x3⟩ ⟨⟨h, d, s, hm, _⟩, _⟩
    omega
  case hpre => exact ⟨⟨h, 0, topS, by omega, hg.ok⟩, Int.le_refl _, by dsimp only; rw [hel]; have := good_small hg; omega⟩
  case hstep =>
    rintro m self ih ⟨b, c, i⟩ ⟨hok, hc0, hc1⟩
    obtain ⟨⟨i0, i1⟩, hkids⟩ := hok.kids hg.chk
    dsimp only at hc0 hc1 i0 i1 hkids
    obtain ⟨e8, k8⟩ := small8 (hg.chk _ (nd_mem i0 i1))
    rw [elemsF, List.length_append] at hc1
    dsimp only
    rw [nd_get i0 i1, Option.bind_some]
    rw [loop_run (fun k => (b || anyS e ((nd t.nodes i).elems.take k), c + (k : Int), (k : Int))) (nd t.nodes i).elems.length (r := (b || anyS e (nd t.nodes i).elems, c + ((nd t.nodes i).elems.length : Int))) (by simp [anyS]) (by omega) ?s1 ?e1]
    case s1 =>
      intro k hk
      have hgk : (nd t.nodes i).elems[k]? = some (nd t.nodes i).elems[k] := List.getElem?_eq_getElem hk
      dsimp only
      rw [decide_eq_true (by omega), cond_true, idx_nat', hgk, Option.bind_some, List.take_add_one, hgk, anyS_append, w64 (by omega) (by omega), w64 (by omega) (by omega)]
      have e1 : c + (k : Int) + 1 = c + ((k + 1 : Nat) : Int) := by omega
      have e2 : (k : Int) + 1 = ((k + 1 : Nat) : Int) := by omega
      rw [e1, e2]
      cases hb : (b || anyS e ((nd t.nodes i).elems.take k)) with
      | true => rw [cond_true, Option.bind_some, ← Bool.or_assoc, hb]; rfl
      | false =>
        rw [cond_false, elem_Spot_eq, Option.bind_some, elem_Spot_eq, Option.bind_some, Option.bind_some, ← Bool.or_assoc, hb, Bool.false_or]
        simp [anyS]
    case e1 =>
      dsimp only
      rw [decide_eq_false (by omega), cond_false, List.take_length]
    rw [Option.bind_some]
    dsimp only
    have hlen : ((nd t.nodes i).kids.flatMap (elemsF t.nodes m)).length ≤ 100000 := by omega
    rw [loop_run (fun k => (b || anyS e (nd t.nodes i).elems || anyS e (((nd t.nodes i).kids.take k).flatMap (elemsF t.nodes m)), c + ((nd t.nodes i).elems.length : Int) + ((((nd t.nodes i).kids.take k).flatMap (elemsF t.nodes m)).length : Int), (k : Int))) (nd t.nodes i).kids.length
      (r := (b || anyS e (nd t.nodes i).elems || anyS e ((nd t.nodes i).kids.flatMap (elemsF t.nodes m)), c + ((nd t.nodes i).elems.length : Int) + (((nd t.nodes i).kids.flatMap (elemsF t.nodes m)).length : Int))) (by simp [anyS]) (by omega) ?s2 ?e2]
    case s2 =>
      intro k hk
      have hgk : (nd t.nodes i).kids[k]? = some (nd t.nodes i).kids[k] := List.getElem?_eq_getElem hk
      obtain ⟨q1, q2⟩ := flat_take (elemsF t.nodes m) hk
      dsimp only
      rw [decide_eq_true (by omega), cond_true, idx_nat', hgk, Option.bind_some, ih _ ⟨hkids _ (List.getElem_mem _), by dsimp only; omega, by dsimp only; omega⟩, Option.bind_some]
      unfold specL
      dsimp only
      rw [q1, anyS_append, List.length_append, w64 (by omega) (by omega), Bool.or_assoc, Int.add_assoc (c + _)]
      rfl
    case e2 =>
      dsimp only
      rw [decide_eq_false (by omega), cond_false, List.take_length]
    rw [Option.bind_some]
    dsimp only
    unfold specL
    dsimp only
    rw [elemsF, anyS_append, List.length_append, Bool.or_assoc]
    congr 2; omega
  rw [Option.bind_some]
  dsimp only
  rw [Option.bind_some]
  unfold specL
  dsimp only
  rw [hel, Bool.false_or, Int.zero_add]
theorem grow_look_no {t : DTree} (hs : ∀ n ∈ t.nodes, Small n) {h : Nat} (hg : Good t h) {e : DElem} (he : chkE e ≠ 0) : grow_look F t e = some (0, false, chkE e) := by
  unfold grow_look
  rw [tree_Check_eq t hs, Option.bind_some, bne0_false (chkT_zero.2 ⟨h, hg⟩), cond_false, elem_Check_eq, Option.bind_some, bne0_true he, cond_true]
theorem elems_ok {t : DTree} {h : Nat} (g : Good t h) : ∀ e ∈ elemsAt t.nodes h t.root, chkE e = 0 := fun e he => ((elems_sorted g.chk h t.root 0 topS g.ok).2 e he).2
theorem elems_ord {t : DTree} {h : Nat} (g : Good t h) : (elemsAt t.nodes h t.root).Pairwise SpO := (elems_sorted g.chk h t.root 0 topS g.ok).1
theorem chk_small {t : DTree} {h : Nat} (g : Good t h) : ∀ n ∈ t.nodes, Small n := fun n hn => small_chk (g.chk n hn)
def zT : DTree := ⟨0, []⟩
theorem grow_Set_good {t : DTree} {h : Nat} {e : DElem} (g : Good t h) (he : chkE e = 0) (hne : anyS e (elemsAt t.nodes h t.root) = true) :
    ∃ t', grow_Set F t e = some (t', 0) ∧ Good t' h ∧ elemsAt t'.nodes h t'.root = (elemsAt t.nodes h t.root).map (setE e) := by
  obtain ⟨N, h1, h2, h3, h4⟩ := chg_good (F := F) g he
  refine ⟨⟨t.root, fN N⟩, ?_, h3, h4⟩
  unfold grow_Set
  rw [grow_look_good (chk_small g) g he, Option.bind_some]
  dsimp only
  rw [bne0_false rfl, cond_false, hne, Bool.not_true, cond_false, tree_Copy_eq g.len g.chk, Option.bind_some]
  show ((fixD (chgB F e) F (nlT t, t.root)).bind fun q1 => (allN q1).bind fun l1 => some ((DTree.mk t.root l1), 0)) = _
  rw [h1, Option.bind_some, h2, Option.bind_some]
theorem grow_Set_no {t : DTree} {h : Nat} {e : DElem} (g : Good t h) (he : chkE e ≠ 0) : grow_Set F t e = some (⟨0, []⟩, chkE e) := by
  unfold grow_Set
  rw [grow_look_no (chk_small g) g he, Option.bind_some]
  dsimp only
  rw [bne0_true he, cond_true]
end Go.Proofs.Ytcmkdoahkncakaa
/- Plain Lean: setting a record changes it and no other. Its conditions: none beyond what holds of every argument. -/
namespace Go.Proofs.Ytcmkdoahkncakaa
set_option linter.unusedVariables false
set_option linter.unusedSimpArgs false
variable {F : Nat} [Big F]
theorem anyS_map (e y : DElem) (l : List DElem) : anyS e (l.map (setE y)) = anyS e l := by
  unfold anyS
  rw [List.any_map]
  congr 1
  funext x
  show (spotE (setE y x) == spotE e) = _
  rw [setE_spot]
theorem set_back {l : List DElem} (hp : l.Pairwise SpO) {x y : DElem} (hx : x ∈ l) (hs : spotE y = spotE x) : (l.map (setE y)).map (setE x) = l := by
  rw [List.map_map]
  refine (List.map_congr_left fun z hz => ?_).trans (List.map_id _)
  show setE x (setE y z) = z
  unfold setE
  by_cases h : spotE z = spotE x
  · rw [if_pos (h.trans hs.symm), if_pos hs]; exact (spo_spot hp hz hx h).symm
  · rw [if_neg (show ¬ spotE z = spotE y by rw [hs]; exact h), if_neg h]
theorem annalkeep_GrowSets_true (F : Nat) [Big F] (t : DTree) (x : DElem) (i : Int) (ok : okTree t) (okx : okElem x) (oki : okInt .i64 i) : annalkeep_GrowSets F t x i = some true := by
  have hs := small_tree ok
  have hca : chkE (at1E 1 (ByteArray.mk #[97])) = 0 := at1_ok (by decide) (by decide) (by decide)
  have hcb : chkE (at1E 1 (ByteArray.mk #[98])) = 0 := at1_ok (by decide) (by decide) (by decide)
  obtain ⟨ho, hp⟩ := one_ok hca
  obtain ⟨hg, he, hn⟩ := one_leaf (l := [at1E 1 (ByteArray.mk #[97])]) (by simp) ho hp
  have hany : anyS (at1E 1 (ByteArray.mk #[98])) (elemsAt (buildT [at1E 1 (ByteArray.mk #[97])]).nodes 0 (buildT [at1E 1 (ByteArray.mk #[97])]).root) = true := by rw [he]; rfl
  obtain ⟨t1, k1, k2, k3⟩ := grow_Set_good (F := F) hg hcb hany
  rw [he] at k3
  have k4 : [at1E 1 (ByteArray.mk #[97])].map (setE (at1E 1 (ByteArray.mk #[98]))) = [at1E 1 (ByteArray.mk #[98])] := by
    rw [List.map_cons, List.map_nil, setE, if_pos (show spotE (at1E 1 (ByteArray.mk #[97])) = spotE (at1E 1 (ByteArray.mk #[98])) from rfl)]
  rw [k4] at k3
  unfold annalkeep_GrowSets
  rw [at1_eq, Option.bind_some, of_eq (by simp) ho hp, Option.bind_some, at1_eq, Option.bind_some, k1, Option.bind_some]
  dsimp only
  rw [tree_All_good (good_smalls k2) k2, k3, Option.bind_some]
  dsimp only
  rw [bne0_false rfl, cond_false, cond_false, Option.bind_some, equal_refl (by simp), Option.bind_some, Bool.not_true, Option.bind_some, cond_false]
  by_cases hc : chkT F t = 0
  rotate_left
  · rw [tree_All_bad hs hc, Option.bind_some]
    dsimp only
    rw [bne0_true hc, Bool.true_or, cond_true]
  obtain ⟨h, g⟩ := chkT_zero.1 hc
  rw [tree_All_good hs g, Option.bind_some]
  dsimp only
  have hsm := good_small g
  have hord := elems_ord g
  have hok := elems_ok g
  rw [bne0_false rfl, Bool.false_or]
  by_cases h0 : (elemsAt t.nodes h t.root).length = 0
  · rw [h0, show (((0 : Nat) : Int) == 0) = true from rfl, cond_true]
  rw [show (((elemsAt t.nodes h t.root).length : Int) == 0) = false from by simp; exact List.length_pos_iff.1 (by omega), cond_false]
  obtain ⟨r, hr1, hr2⟩ := within_nat (n := i) (m := ((elemsAt t.nodes h t.root).length : Int)) (by omega) (by omega)
  obtain ⟨z, hz⟩ : ∃ z, (elemsAt t.nodes h t.root)[r]? = some z := ⟨_, List.getElem?_eq_getElem (by omega)⟩
  have hzm := List.mem_of_getElem? hz
  rw [hr1, Option.bind_some, idx_nat', hz, Option.bind_some]
  have hsp : spotE ⟨z.key, z.made, x.gone, x.val⟩ = spotE z := rfl
  generalize hy : (DElem.mk z.key z.made x.gone x.val) = y at *
  have hay : anyS y (elemsAt t.nodes h t.root) = true := anyS_iff.2 ⟨z, hzm, hsp.symm⟩
  by_cases hcy : chkE y = 0
  rotate_left
  · rw [grow_Set_no g hcy, Option.bind_some]
    dsimp only
    rw [bne0_true hcy, cond_true, elem_Check_eq, Option.bind_some]
    simp
  obtain ⟨t2, m1, m2, m3⟩ := grow_Set_good (F := F) g hcy hay
  have haz : anyS z (elemsAt t2.nodes h t2.root) = true := by rw [m3, anyS_map]; exact anyS_iff.2 ⟨z, hzm, rfl⟩
  obtain ⟨t3, n1, n2, n3⟩ := grow_Set_good (F := F) m2 (hok z hzm) haz
  rw [m3, set_back hord hzm hsp] at n3
  rw [m1, Option.bind_some]
  dsimp only
  rw [bne0_false rfl, cond_false, n1, Option.bind_some, tree_All_good (good_smalls m2) m2, m3, Option.bind_some, tree_All_good (good_smalls n2) n2, n3, Option.bind_some]
  dsimp only
  rw [bne0_false rfl, cond_false, cond_false, cond_false, equal_refl (by omega), Option.bind_some, Bool.not_true, cond_false, List.length_map]
  rw [show (((elemsAt t.nodes h t.root).length : Int) != ((elemsAt t.nodes h t.root).length : Int)) = false by simp, Option.bind_some, cond_false]
  generalize elemsAt t.nodes h t.root = l at *
  rw [loop_run (fun k => (k : Int)) l.length (r := .inl ()) (s := (0 : Int)) rfl (by omega) ?hs ?he, Option.bind_some]
  case he =>
    rw [decide_eq_false (by omega), cond_false]
  case hs =>
    intro k hk
    have hgk : l[k]? = some l[k] := List.getElem?_eq_getElem hk
    have hgm : (l.map (setE y))[k]? = some (setE y l[k]) := by rw [List.getElem?_map, hgk]; rfl
    have hst : setE y l[k] = if l[k] = z then y else l[k] := by
      unfold setE
      by_cases hq : l[k] = z
      · rw [if_pos hq, if_pos (by rw [hq]; exact hsp.symm)]
      · rw [if_neg hq, if_neg fun h' => hq (spo_spot hord (List.getElem_mem _) hzm (h'.trans hsp))]
    rw [decide_eq_true (by omega), cond_true, idx_nat', idx_nat', hgk, hgm, Option.bind_some, w64 (by omega) (by omega), hst]
    by_cases hq : l[k] = z
    · rw [if_pos hq, hq]
      simp
    · rw [if_neg hq]
      simp [hq, show (l[k] == z) = false by simpa using hq]
end Go.Proofs.Ytcmkdoahkncakaa
/- The types of the parameters, opened: written by walkgen.py. Its conditions: none. -/
namespace Go.Proofs.Ytcmkdoahkncakaa
open Go.RowKit

theorem prog_own : ownKnob Try.prog.godebug = none := by kernel_rfl
theorem prog_laid : laidOutB Try.prog = true := by kernel_rfl
theorem op26 : Opens Try.prog 26 eKey okKey := opens_key Try.underlying26 (by kernel_rfl) rfl (by kernel_rfl) (opens_int Try.underlying3) rfl (by kernel_rfl) (opens_int Try.underlying3) rfl (by kernel_rfl) (opens_int Try.underlying3)
theorem op28 : Opens Try.prog 28 eElem okElem := opens_elem Try.underlying28 (by kernel_rfl) rfl (by kernel_rfl) op26 rfl (by kernel_rfl) (opens_int Try.underlying3) rfl (by kernel_rfl) (opens_int Try.underlying3) rfl (by kernel_rfl) (opens_str Try.underlying9)
theorem op34 : Opens Try.prog 34 (eList eElem) (okAllW 56 okElem) := opens_list Try.underlying34 (by kernel_rfl) (by kernel_rfl) op28
theorem op47 : Opens Try.prog 47 (eList eInt) (okAllW 8 (okInt .i64)) := opens_list Try.underlying47 (by kernel_rfl) (by kernel_rfl) (opens_int Try.underlying3)
theorem op43 : Opens Try.prog 43 eSpot okSpot := opens_spot Try.underlying43 (by kernel_rfl) rfl (by kernel_rfl) op26 rfl (by kernel_rfl) (opens_int Try.underlying3)
theorem op95 : Opens Try.prog 95 (eList eSpot) (okAllW 32 okSpot) := opens_list Try.underlying95 (by kernel_rfl) (by kernel_rfl) op43
theorem op97 : Opens Try.prog 97 eNode okNode := opens_node Try.underlying97 (by kernel_rfl) rfl (by kernel_rfl) (opens_int Try.underlying3) rfl (by kernel_rfl) op34 rfl (by kernel_rfl) op47 rfl (by kernel_rfl) op95 rfl (by kernel_rfl) op47
theorem op22 : Opens Try.prog 22 (eList eNode) (okAllW 104 okNode) := opens_list Try.underlying22 (by kernel_rfl) (by kernel_rfl) op97
theorem op24 : Opens Try.prog 24 eTree okTree := opens_tree Try.underlying24 (by kernel_rfl) rfl (by kernel_rfl) (opens_int Try.underlying3) rfl (by kernel_rfl) op22
set_option maxRecDepth 100000
def orderSigns : List Char := [.ofNat 104, .ofNat 97, .ofNat 114, .ofNat 110, .ofNat 101, .ofNat 115, .ofNat 115, .ofNat 32, .ofNat 99, .ofNat 101, .ofNat 99, .ofNat 102, .ofNat 54, .ofNat 48, .ofNat 102, .ofNat 51, .ofNat 55, .ofNat 50, .ofNat 101, .ofNat 51, .ofNat 100, .ofNat 49, .ofNat 52, .ofNat 50, .ofNat 50, .ofNat 55, .ofNat 56, .ofNat 55, .ofNat 56, .ofNat 48, .ofNat 54, .ofNat 102, .ofNat 57, .ofNat 56, .ofNat 52, .ofNat 57, .ofNat 100, .ofNat 99, .ofNat 53, .ofNat 97, .ofNat 51, .ofNat 52, .ofNat 52, .ofNat 55, .ofNat 100, .ofNat 55, .ofNat 51, .ofNat 53, .ofNat 56, .ofNat 54, .ofNat 102, .ofNat 102, .ofNat 51, .ofNat 49, .ofNat 50, .ofNat 100, .ofNat 57, .ofNat 100, .ofNat 102, .ofNat 55, .ofNat 50, .ofNat 99, .ofNat 53, .ofNat 101, .ofNat 54, .ofNat 50, .ofNat 55, .ofNat 100, .ofNat 54, .ofNat 55, .ofNat 55, .ofNat 101, .ofNat 32, .ofNat 99, .ofNat 117, .ofNat 116, .ofNat 32, .ofNat 97, .ofNat 116, .ofNat 32, .ofNat 97, .ofNat 110, .ofNat 110, .ofNat 97, .ofNat 108, .ofNat 105, .ofNat 115, .ofNat 116, .ofNat 47, .ofNat 97, .ofNat 110, .ofNat 110, .ofNat 97, .ofNat 108, .ofNat 107, .ofNat 101, .ofNat 101, .ofNat 112, .ofNat 46, .ofNat 71, .ofNat 114, .ofNat 111, .ofNat 119, .ofNat 83, .ofNat 101, .ofNat 116, .ofNat 115, .ofNat 32, .ofNat 97, .ofNat 110, .ofNat 110, .ofNat 97, .ofNat 108, .ofNat 105, .ofNat 115, .ofNat 116, .ofNat 47, .ofNat 97, .ofNat 110, .ofNat 110, .ofNat 97, .ofNat 108, .ofNat 107, .ofNat 101, .ofNat 101, .ofNat 112, .ofNat 46, .ofNat 83, .ofNat 104, .ofNat 114, .ofNat 105, .ofNat 110, .ofNat 107, .ofNat 83, .ofNat 111, .ofNat 109, .ofNat 101, .ofNat 32, .ofNat 97, .ofNat 110, .ofNat 110, .ofNat 97, .ofNat 108, .ofNat 105, .ofNat 115, .ofNat 116, .ofNat 47, .ofNat 97, .ofNat 110, .ofNat 110, .ofNat 97, .ofNat 108, .ofNat 107, .ofNat 101, .ofNat 101, .ofNat 112, .ofNat 46, .ofNat 83, .ofNat 104, .ofNat 114, .ofNat 105, .ofNat 110, .ofNat 107, .ofNat 65, .ofNat 108, .ofNat 108, .ofNat 32, .ofNat 97, .ofNat 110, .ofNat 110, .ofNat 97, .ofNat 108, .ofNat 105, .ofNat 115, .ofNat 116, .ofNat 47, .ofNat 97, .ofNat 110, .ofNat 110, .ofNat 97, .ofNat 108, .ofNat 107, .ofNat 101, .ofNat 101, .ofNat 112, .ofNat 46, .ofNat 80, .ofNat 114, .ofNat 117, .ofNat 110, .ofNat 101, .ofNat 83, .ofNat 116, .ofNat 101, .ofNat 112, .ofNat 115, .ofNat 32, .ofNat 97, .ofNat 110, .ofNat 110, .ofNat 97, .ofNat 108, .ofNat 105, .ofNat 115, .ofNat 116, .ofNat 47, .ofNat 97, .ofNat 110, .ofNat 110, .ofNat 97, .ofNat 108, .ofNat 107, .ofNat 101, .ofNat 101, .ofNat 112, .ofNat 46, .ofNat 71, .ofNat 114, .ofNat 111, .ofNat 119, .ofNat 79, .ofNat 114, .ofNat 100, .ofNat 101, .ofNat 114, .ofNat 115, .ofNat 32, .ofNat 97, .ofNat 110, .ofNat 110, .ofNat 97, .ofNat 108, .ofNat 105, .ofNat 115, .ofNat 116, .ofNat 47, .ofNat 97, .ofNat 110, .ofNat 110, .ofNat 97, .ofNat 108, .ofNat 107, .ofNat 101, .ofNat 101, .ofNat 112, .ofNat 46, .ofNat 84, .ofNat 114, .ofNat 101, .ofNat 101, .ofNat 69, .ofNat 109, .ofNat 112, .ofNat 116, .ofNat 121, .ofNat 32, .ofNat 97, .ofNat 110, .ofNat 110, .ofNat 97, .ofNat 108, .ofNat 105, .ofNat 115, .ofNat 116, .ofNat 47, .ofNat 97, .ofNat 110, .ofNat 110, .ofNat 97, .ofNat 108, .ofNat 107, .ofNat 101, .ofNat 101, .ofNat 112, .ofNat 46, .ofNat 71, .ofNat 114, .ofNat 111, .ofNat 119, .ofNat 77, .ofNat 97, .ofNat 110, .ofNat 121, .ofNat 32, .ofNat 97, .ofNat 110, .ofNat 110, .ofNat 97, .ofNat 108, .ofNat 105, .ofNat 115, .ofNat 116, .ofNat 47, .ofNat 97, .ofNat 110, .ofNat 110, .ofNat 97, .ofNat 108, .ofNat 107, .ofNat 101, .ofNat 101, .ofNat 112, .ofNat 46, .ofNat 84, .ofNat 114, .ofNat 101, .ofNat 101, .ofNat 70, .ofNat 117, .ofNat 108, .ofNat 108, .ofNat 32, .ofNat 97, .ofNat 110, .ofNat 110, .ofNat 97, .ofNat 108, .ofNat 105, .ofNat 115, .ofNat 116, .ofNat 47, .ofNat 97, .ofNat 110, .ofNat 110, .ofNat 97, .ofNat 108, .ofNat 107, .ofNat 101, .ofNat 101, .ofNat 112, .ofNat 46, .ofNat 71, .ofNat 114, .ofNat 111, .ofNat 119, .ofNat 83, .ofNat 104, .ofNat 114, .ofNat 105, .ofNat 110, .ofNat 107, .ofNat 115, .ofNat 32, .ofNat 97, .ofNat 110, .ofNat 110, .ofNat 97, .ofNat 108, .ofNat 105, .ofNat 115, .ofNat 116, .ofNat 47, .ofNat 97, .ofNat 110, .ofNat 110, .ofNat 97, .ofNat 108, .ofNat 107, .ofNat 101, .ofNat 101, .ofNat 112, .ofNat 46, .ofNat 87, .ofNat 114, .ofNat 105, .ofNat 116, .ofNat 101, .ofNat 80, .ofNat 97, .ofNat 115, .ofNat 116, .ofNat 32, .ofNat 97, .ofNat 110, .ofNat 110, .ofNat 97, .ofNat 108, .ofNat 105, .ofNat 115, .ofNat 116, .ofNat 47, .ofNat 97, .ofNat 110, .ofNat 110, .ofNat 97, .ofNat 108, .ofNat 107, .ofNat 101, .ofNat 101, .ofNat 112, .ofNat 46, .ofNat 87, .ofNat 114, .ofNat 105, .ofNat 116, .ofNat 101, .ofNat 83, .ofNat 97, .ofNat 109, .ofNat 101]
theorem order_text : Try.prog.initOrder = "harness cecf60f372e3d1422787806f9849dc5a3447d73586ff312d9df72c5e627d677e cut at annalist/annalkeep.GrowSets annalist/annalkeep.ShrinkSome annalist/annalkeep.ShrinkAll annalist/annalkeep.PruneSteps annalist/annalkeep.GrowOrders annalist/annalkeep.TreeEmpty annalist/annalkeep.GrowMany annalist/annalkeep.TreeFull annalist/annalkeep.GrowShrinks annalist/annalkeep.WritePast annalist/annalkeep.WriteSame" := by kernel_rfl
theorem order_signs : ("harness cecf60f372e3d1422787806f9849dc5a3447d73586ff312d9df72c5e627d677e cut at annalist/annalkeep.GrowSets annalist/annalkeep.ShrinkSome annalist/annalkeep.ShrinkAll annalist/annalkeep.PruneSteps annalist/annalkeep.GrowOrders annalist/annalkeep.TreeEmpty annalist/annalkeep.GrowMany annalist/annalkeep.TreeFull annalist/annalkeep.GrowShrinks annalist/annalkeep.WritePast annalist/annalkeep.WriteSame" : String) = String.ofList orderSigns := by kernel_rfl
theorem prog_order : Try.prog.initOrder.toList = orderSigns := by rw [order_text, order_signs]; exact String.toList_ofList
theorem make_of (P : Program) (h : P.initOrder.toList = orderSigns) : P.make = some .cut := by
  unfold Program.make Program.headLifts
  rw [h]
  kernel_rfl
theorem lifts_of (P : Program) (h : P.initOrder.toList = orderSigns) : P.liftsFinal = false := by
  unfold Program.liftsFinal Program.headLifts
  rw [h]
  kernel_rfl
theorem enter_of (P : Program) (h : P.initOrder.toList = orderSigns) (h1 : P.laysLater = false) (h2 : P.bearsReflect = false) (h3 : P.doorFits [] = true) : P.mayEnter = true := by
  unfold Program.mayEnter
  rw [h, h1, h2]
  have e : (stripLifts liftWords (behindMainWord (wordsSigns orderSigns))).1 = [] := by kernel_rfl
  have e0 : behindMainWord (wordsSigns orderSigns) = "cut".toList :: (behindMainWord (wordsSigns orderSigns)).tail := by kernel_rfl
  rw [e0] at e ⊢
  dsimp only
  rw [e, h3]
  clear h h1 h2 h3
  change _ = true
  kernel_rfl
theorem prog_make : Try.prog.make = some .cut := make_of _ prog_order
theorem prog_lifts : Try.prog.liftsFinal = false := lifts_of _ prog_order
theorem prog_enter : Try.prog.mayEnter = true := enter_of _ prog_order (by kernel_rfl) (by kernel_rfl) (by kernel_rfl)
end Go.Proofs.Ytcmkdoahkncakaa
