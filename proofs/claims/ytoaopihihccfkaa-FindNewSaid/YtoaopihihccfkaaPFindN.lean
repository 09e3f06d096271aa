/- Plain Lean: what find.Since answers. Its conditions: none. -/
import Derived.Test.YtoaopihihccfkaaFindNF
import Derived.Test.YtoaopihihccfkaaMFrom
import Derived.Test.YtoaopihihccfkaaPTreeL
namespace Go.Proofs.Ytoaopihihccfkaa
set_option linter.unusedVariables false
set_option linter.unusedSimpArgs false
variable {F : Nat} [Big F]

def tidAt (n : DNode) (k : Nat) : Int := (n.tids[k]?).getD 0
def newF (ns : List DNode) (t : Int) : Nat → Int → List DElem
  | 0, _ => []
  | m + 1, i => ((nd ns i).elems.filter fun e => decide (t < lastE e)) ++ (nd ns i).kids.zipIdx.flatMap fun p => if t < tidAt (nd ns i) p.2 then newF ns t m p.1 else []
def lookF (ns : List DNode) (t : Int) : Nat → Int → Nat
  | 0, _ => 0
  | m + 1, i => 1 + ((nd ns i).kids.zipIdx.map fun p => if t < tidAt (nd ns i) p.2 then lookF ns t m p.1 else 0).sum
theorem sum_le {α : Type} {f g : α → Nat} : ∀ {l : List α}, (∀ a ∈ l, f a ≤ g a) → (l.map f).sum ≤ (l.map g).sum
  | [], _ => Nat.le_refl _
  | a :: l, h => by
    have h1 := sum_le (l := l) fun b hb => h b (List.mem_cons_of_mem _ hb)
    have h2 := h a List.mem_cons_self
    rw [List.map_cons, List.map_cons, List.sum_cons, List.sum_cons]; omega
theorem lookF_mono (ns : List DNode) {t u : Int} (htu : t ≤ u) : ∀ (m : Nat) (i : Int), lookF ns u m i ≤ lookF ns t m i := by
  intro m
  induction m with
  | zero => intro i; exact Nat.le_refl _
  | succ m ih =>
    intro i
    rw [lookF, lookF]
    refine Nat.add_le_add_left (sum_le fun p _ => ?_) _
    by_cases h : u < tidAt (nd ns i) p.2
    · rw [if_pos h, if_pos (by omega)]; exact ih p.1
    · rw [if_neg h]; exact Nat.zero_le _
theorem zip_sum (f : Int → Nat) : ∀ (l : List Int) (n : Nat), ((l.zipIdx n).map fun p => f p.1).sum = (l.map f).sum
  | [], _ => rfl
  | a :: l, n => by rw [List.zipIdx_cons, List.map_cons, List.map_cons, List.sum_cons, List.sum_cons, zip_sum f l]
theorem lookF_ids {ns : List DNode} (hns : ∀ n ∈ ns, chkN n = 0) (t : Int) : ∀ (m h : Nat) (i d : Int) (s : Span), okN ns h i d s → lookF ns t m i ≤ (ids ns h i).length := by
  intro m
  induction m with
  | zero => intro h i d s _; exact Nat.zero_le _
  | succ m ih =>
    intro h i d s hok
    rw [lookF]
    cases h with
    | zero => rw [(leaf_of hns hok.1 hok.2.1).kids]; simp [ids]
    | succ h =>
      rw [ids, List.length_cons, List.length_flatMap, ← zip_sum (fun k => (ids ns h k).length) (nd ns i).kids 0]
      have : ((nd ns i).kids.zipIdx.map fun p => if t < tidAt (nd ns i) p.2 then lookF ns t m p.1 else 0).sum ≤ ((nd ns i).kids.zipIdx.map fun p => (ids ns h p.1).length).sum := sum_le fun p hp => by
        by_cases hq : t < tidAt (nd ns i) p.2
        · rw [if_pos hq]; exact ih h p.1 _ _ (hok.2.2.2 p hp).1
        · rw [if_neg hq]; exact Nat.zero_le _
      omega
/-- The greatest time beneath a node. -/
theorem great_all {ns : List DNode} (hns : ∀ n ∈ ns, chkN n = 0) : ∀ (h : Nat) (i d : Int) (s : Span), okN ns h i d s → ∀ e ∈ elemsAt ns h i, lastE e ≤ greatR (nd ns i) := by
  intro h
  induction h with
  | zero => exact fun i d s hok e he => (great_spec (nd ns i)).1 e he
  | succ h ih =>
    intro i d s hok e he
    obtain ⟨k, hk, he⟩ := List.mem_flatMap.1 he
    obtain ⟨q, hq⟩ := List.mem_iff_getElem?.1 hk
    obtain ⟨k1, k2, k3⟩ := hok.2.2.2 (k, q) (zip_mem hq)
    have h1 := ih k _ _ k1 e he
    have hI := (inner_of hns hok.1 hok.2.1).2
    have hql := (List.getElem?_eq_some_iff.1 hq).1
    have hlt : q < (nd ns i).tids.length := by rw [hI.tids]; exact hql
    dsimp only at k3
    rw [List.getElem?_eq_getElem hlt, Option.getD_some] at k3
    have := (great_spec (nd ns i)).2.1 _ (List.getElem_mem hlt)
    omega
theorem newF_eq {ns : List DNode} (hns : ∀ n ∈ ns, chkN n = 0) (t : Int) : ∀ (h m : Nat) (i d : Int) (s : Span), okN ns h i d s → h < m → newF ns t m i = (elemsAt ns h i).filter fun e => decide (t < lastE e) := by
  intro h
  induction h with
  | zero =>
    intro m i d s hok hm
    obtain ⟨m, rfl⟩ : ∃ q, m = q + 1 := ⟨m - 1, by omega⟩
    rw [newF, elemsAt, (leaf_of hns hok.1 hok.2.1).kids]; simp
  | succ h ih =>
    intro m i d s hok hm
    obtain ⟨m, rfl⟩ : ∃ q, m = q + 1 := ⟨m - 1, by omega⟩
    rw [newF, elemsAt, (inner_of hns hok.1 hok.2.1).2.elems, List.filter_nil, List.nil_append, filter_flatMap']
    have hk : ∀ p ∈ (nd ns i).kids.zipIdx, (if t < tidAt (nd ns i) p.2 then newF ns t m p.1 else []) = (elemsAt ns h p.1).filter fun e => decide (t < lastE e) := fun p hp => by
      obtain ⟨k1, k2, k3⟩ := hok.2.2.2 p hp
      by_cases hq : t < tidAt (nd ns i) p.2
      · rw [if_pos hq]; exact ih m p.1 _ _ k1 (by omega)
      · rw [if_neg hq]
        symm
        rw [List.filter_eq_nil_iff]
        intro e he
        have := great_all hns h p.1 _ _ k1 e he
        unfold tidAt at hq
        rw [decide_eq_true_eq]; omega
    have hz : ∀ (l : List Int) (n : Nat), (∀ p ∈ l.zipIdx n, (if t < tidAt (nd ns i) p.2 then newF ns t m p.1 else []) = (elemsAt ns h p.1).filter fun e => decide (t < lastE e)) →
        ((l.zipIdx n).flatMap fun p => if t < tidAt (nd ns i) p.2 then newF ns t m p.1 else []) = l.flatMap fun k => (elemsAt ns h k).filter fun e => decide (t < lastE e) := by
      intro l
      induction l with
      | nil => intro n _; rfl
      | cons a l ihl =>
        intro n hl
        rw [List.zipIdx_cons] at hl ⊢
        rw [List.flatMap_cons, List.flatMap_cons, hl (a, n) List.mem_cons_self, ihl (n + 1) fun p hp => hl p (List.mem_cons_of_mem _ hp)]
    exact hz _ 0 hk
theorem newF_len {ns : List DNode} (t : Int) : ∀ (m : Nat) (i : Int), (newF ns t m i).length ≤ (elemsF ns m i).length := by
  intro m
  induction m with
  | zero => intro i; exact Nat.le_refl _
  | succ m ih =>
    intro i
    rw [newF, elemsF, List.length_append, List.length_append]
    have h1 := List.length_filter_le (fun e : DElem => decide (t < lastE e)) (nd ns i).elems
    have h2 : ∀ (l : List Int) (n : Nat), ((l.zipIdx n).flatMap fun p => if t < tidAt (nd ns i) p.2 then newF ns t m p.1 else []).length ≤ (l.flatMap (elemsF ns m)).length := by
      intro l
      induction l with
      | nil => intro n; exact Nat.le_refl _
      | cons a l ihl =>
        intro n
        rw [List.zipIdx_cons, List.flatMap_cons, List.flatMap_cons, List.length_append, List.length_append]
        have h3 := ihl (n + 1)
        have h4 := ih a
        dsimp only
        split
        · omega
        · rw [List.length_nil]; omega
    have := h2 (nd ns i).kids 0
    omega
def preN (ns : List DNode) (t : Int) (m : Nat) (x : List DElem × Int × Int) : Prop := kidOk ns m x.2.2 ∧ x.1.length + (newF ns t m x.2.2).length ≤ 100000 ∧ 0 ≤ x.2.1 ∧ x.2.1 + (lookF ns t m x.2.2 : Int) ≤ 100000
theorem find_Since_bad {t : DTree} (hs : ∀ n ∈ t.nodes, Small n) (hc : chkT F t ≠ 0) (tid : Int) : find_Since F t tid = some ([], 0, chkT F t) := by
  unfold find_Since
  rw [tree_Check_eq t hs, Option.bind_some, bne0_true hc, cond_true]
def lookR (F : Nat) (t : DTree) (tid : Int) : Nat := if tid < greatR (nd t.nodes t.root) then lookF t.nodes tid F t.root else 0
theorem find_Since_good {t : DTree} (hs : ∀ n ∈ t.nodes, Small n) {h : Nat} (hg : Good t h) (tid : Int) : find_Since F t tid = some ((elemsAt t.nodes h t.root).filter (fun e => decide (tid < lastE e)), (lookR F t tid : Int), 0) := by
  have hF := (inferInstance : Big F).le
  have h4 := good_fuel hg
  have hz : chkT F t = 0 := chkT_zero.2 ⟨h, hg⟩
  have hr : 0 ≤ t.root ∧ t.root < (t.nodes.length : Int) := by have := hg.ok; cases h <;> exact this.1
  have hnew := newF_eq hg.chk tid h F t.root 0 topS hg.ok (by omega)
  have hlook := lookF_ids hg.chk tid F h t.root 0 topS hg.ok
  have hids := ids_length hg.ok hg.nodup
  have hlen := hg.len
  unfold find_Since lookR
  rw [tree_Check_eq t hs, Option.bind_some, bne0_false hz, cond_false, nd_get hr.1 hr.2, Option.bind_some, node_Greatest_eq _ (hs _ (nd_mem hr.1 hr.2)), Option.bind_some]
  by_cases hgr : tid < greatR (nd t.nodes t.root)
  rotate_left
  · rw [decide_eq_false hgr, cond_false, if_neg hgr, Option.bind_some]
    have : (elemsAt t.nodes h t.root).filter (fun e => decide (tid < lastE e)) = [] := by
      rw [List.filter_eq_nil_iff]
      intro e he
      have := great_all hg.chk h t.root 0 topS hg.ok e he
      rw [decide_eq_true_eq]; omega
    rw [this]; rfl
  rw [decide_eq_true hgr, cond_true, if_pos hgr]
  rw [fix_spec (preN t.nodes tid) (fun m x => (x.1 ++ newF t.nodes tid m x.2.2, x.2.1 + (lookF t.nodes tid m x.2.2 : Int))) ?h0 ?hstep F _ ?hpre]
  case h0 =>
    rintro ⟨x1, x2, x3⟩ ⟨⟨h, d, s, hm, _⟩, _⟩
    omega
  case hpre =>
    refine ⟨⟨h, 0, topS, by omega, hg.ok⟩, ?_, Int.le_refl _, ?_⟩
    · have h1 := newF_len (ns := t.nodes) tid F t.root
      rw [elemsF_eq hg.chk h F t.root 0 topS hg.ok (by omega)] at h1
      have := good_small hg
      simp only [List.length_nil]; omega
    · show (0 : Int) + (lookF t.nodes tid F t.root : Int) ≤ _; omega
  case hstep =>
    rintro m self ih ⟨x1, x2, x3⟩ ⟨hok, hlen1, hn0, hn1⟩
    obtain ⟨⟨h0, h1⟩, hkids⟩ := hok.kids hg.chk
    dsimp only at h0 h1 hkids hlen1 hn0 hn1 ⊢
    have hmem := nd_mem h0 h1
    obtain ⟨h8, h8'⟩ := small8 (hg.chk _ hmem)
    have htids : (nd t.nodes x3).tids.length = (nd t.nodes x3).kids.length := by
      rcases chkN_zero.1 (hg.chk _ hmem) with q | q | q
      · rw [q.2.2.1, q.2.2.2.2]
      · rw [q.2.kids, q.2.tids]
      · exact q.2.tids
    rw [newF, List.length_append] at hlen1
    rw [lookF] at hn1
    rw [nd_get h0 h1, Option.bind_some]
    have hff : ∀ (l : List DElem) (a : List DElem), l.foldl (fun a e => if decide (tid < lastE e) = true then a ++ [e] else a) a = a ++ l.filter fun e => decide (tid < lastE e) := fun l a => foldl_filter _ l a
    rw [loop_fold (nd t.nodes x3).elems (fun a e => if decide (tid < lastE e) = true then a ++ [e] else a) x1 (r := x1 ++ (nd t.nodes x3).elems.filter fun e => decide (tid < lastE e)) (by omega) rfl ?hs ?he]
    case hs =>
      intro k e hk
      have hkl := (List.getElem?_eq_some_iff.1 hk).1
      have hsub := (List.Sublist.filter (fun e : DElem => decide (tid < lastE e)) (List.take_sublist k (nd t.nodes x3).elems)).length_le
      dsimp only
      rw [hff, show decide ((k : Int) < ((nd t.nodes x3).elems.length : Int)) = true from decide_eq_true (by omega), cond_true, idx_nat', hk, Option.bind_some, elem_Last_eq, Option.bind_some, w64 (by omega) (by omega)]
      by_cases hq : tid < lastE e
      · rw [decide_eq_true hq, cond_true, if_pos rfl, grow_ok (by rw [List.length_append, List.length_singleton]; omega) (by rw [List.length_append, List.length_singleton]; omega)]; rfl
      · rw [decide_eq_false hq, cond_false, if_neg (by simp)]; rfl
    case he =>
      dsimp only
      rw [hff, show decide (((nd t.nodes x3).elems.length : Int) < ((nd t.nodes x3).elems.length : Int)) = false from decide_eq_false (by omega)]; rfl
    rw [Option.bind_some]
    rw [w64 (n := x2 + 1) (by omega) (by omega)]
    rw [loop_run (fun k => ((x1 ++ (nd t.nodes x3).elems.filter fun e => decide (tid < lastE e)) ++ ((nd t.nodes x3).kids.zipIdx.take k).flatMap (fun p => if tid < tidAt (nd t.nodes x3) p.2 then newF t.nodes tid m p.1 else []),
        x2 + 1 + ((((nd t.nodes x3).kids.zipIdx.take k).map fun p => if tid < tidAt (nd t.nodes x3) p.2 then lookF t.nodes tid m p.1 else 0).sum : Int), (k : Int))) (nd t.nodes x3).kids.length
        (s := ((x1 ++ (nd t.nodes x3).elems.filter fun e => decide (tid < lastE e)), x2 + 1, (0 : Int)))
        (r := (x1 ++ newF t.nodes tid (m + 1) x3, x2 + (lookF t.nodes tid (m + 1) x3 : Int))) (by simp) (by omega) ?hs2 ?he2]
    · rfl
    case he2 =>
      dsimp only
      rw [show decide (((nd t.nodes x3).kids.length : Int) < ((nd t.nodes x3).kids.length : Int)) = false from decide_eq_false (by omega), cond_false, List.take_of_length_le (by simp), newF, lookF, List.append_assoc]
      congr 3
      push_cast; omega
    case hs2 =>
      intro k hk
      have hz : (nd t.nodes x3).kids.zipIdx[k]? = some ((nd t.nodes x3).kids[k], k) := by rw [List.getElem?_zipIdx, List.getElem?_eq_getElem hk]; simp
      have hkk : (nd t.nodes x3).kids[k]? = some (nd t.nodes x3).kids[k] := List.getElem?_eq_getElem hk
      have htt : (nd t.nodes x3).tids[k]? = some (nd t.nodes x3).tids[k] := List.getElem?_eq_getElem (by omega)
      have hta : tidAt (nd t.nodes x3) k = (nd t.nodes x3).tids[k] := by unfold tidAt; rw [htt]; rfl
      have hkok := hkids _ (List.mem_of_getElem? hkk)
      have b1 : (((nd t.nodes x3).kids.zipIdx.take (k + 1)).flatMap (fun p => if tid < tidAt (nd t.nodes x3) p.2 then newF t.nodes tid m p.1 else [])).length ≤ ((nd t.nodes x3).kids.zipIdx.flatMap (fun p => if tid < tidAt (nd t.nodes x3) p.2 then newF t.nodes tid m p.1 else [])).length := by
        conv => rhs; rw [← List.take_append_drop (k + 1) (nd t.nodes x3).kids.zipIdx, List.flatMap_append, List.length_append]
        omega
      have b2 : (((nd t.nodes x3).kids.zipIdx.take (k + 1)).map fun p => if tid < tidAt (nd t.nodes x3) p.2 then lookF t.nodes tid m p.1 else 0).sum ≤ ((nd t.nodes x3).kids.zipIdx.map fun p => if tid < tidAt (nd t.nodes x3) p.2 then lookF t.nodes tid m p.1 else 0).sum := by
        conv => rhs; rw [← List.take_append_drop (k + 1) (nd t.nodes x3).kids.zipIdx, List.map_append, List.sum_append]
        omega
      rw [take_snoc hz, List.flatMap_append, List.length_append, List.flatMap_singleton] at b1
      rw [take_snoc hz, List.map_append, List.sum_append, List.map_cons, List.map_nil, List.sum_cons, List.sum_nil] at b2
      dsimp only at b1 b2 ⊢
      rw [take_snoc hz, List.flatMap_append, List.flatMap_singleton, List.map_append, List.sum_append, List.map_cons, List.map_nil, List.sum_cons, List.sum_nil]
      generalize ((nd t.nodes x3).kids.zipIdx.take k).flatMap (fun p => if tid < tidAt (nd t.nodes x3) p.2 then newF t.nodes tid m p.1 else []) = A at *
      generalize (((nd t.nodes x3).kids.zipIdx.take k).map fun p => if tid < tidAt (nd t.nodes x3) p.2 then lookF t.nodes tid m p.1 else 0).sum = B at *
      rw [show decide ((k : Int) < ((nd t.nodes x3).kids.length : Int)) = true from decide_eq_true (by omega), cond_true, idx_nat', hkk, Option.bind_some, idx_nat', htt, Option.bind_some, ← hta, w64 (n := (k : Int) + 1) (by omega) (by omega)]
      by_cases hq : tid < tidAt (nd t.nodes x3) k
      · rw [if_pos hq] at b1
        rw [if_pos hq] at b2
        rw [decide_eq_true hq, cond_true, if_pos hq, if_pos hq, ih _ ⟨hkok, by dsimp only; rw [List.length_append, List.length_append]; omega, by dsimp only; omega, by dsimp only; omega⟩, Option.bind_some]
        dsimp only
        rw [Option.bind_some, List.append_assoc]
        congr 4
        push_cast; omega
      · rw [decide_eq_false hq, cond_false, if_neg hq, if_neg hq, List.append_nil]
        rfl
  rw [Option.bind_some]
  dsimp only
  rw [hnew, List.nil_append, Option.bind_some, Int.zero_add]
theorem newF_zero {t : DTree} {h : Nat} (hg : Good t h) : (elemsAt t.nodes h t.root).filter (fun e => decide ((0 : Int) < lastE e)) = elemsAt t.nodes h t.root := by
  rw [List.filter_eq_self]
  intro e he
  have h1 := ((elems_sorted hg.chk h t.root 0 topS hg.ok).2 e he).2
  obtain ⟨_, h2, _⟩ := chkE_ok h1
  rw [decide_eq_true_eq]
  unfold lastE; split <;> omega
theorem great_max {t : DTree} {h : Nat} (hg : Good t h) : greatR (nd t.nodes t.root) ≤ 2147483647 := by
  have hr : 0 ≤ t.root ∧ t.root < (t.nodes.length : Int) := by have := hg.ok; cases h <;> exact this.1
  exact (great_ok (hg.chk _ (nd_mem hr.1 hr.2))).2
omit [Big F] in
theorem lookR_used {t : DTree} {h : Nat} (hg : Good t h) (tid : Int) : lookR F t tid ≤ usedR t.nodes := by
  have h1 := lookF_ids hg.chk tid F h t.root 0 topS hg.ok
  have h2 := ids_used hg
  unfold lookR; split <;> omega
omit [Big F] in
theorem lookR_mono {t : DTree} {a b : Int} (hab : a ≤ b) : lookR F t b ≤ lookR F t a := by
  have := lookF_mono t.nodes hab F t.root
  unfold lookR
  by_cases h : b < greatR (nd t.nodes t.root)
  · rw [if_pos h, if_pos (by omega)]; exact this
  · rw [if_neg h]; exact Nat.zero_le _
end Go.Proofs.Ytoaopihihccfkaa
