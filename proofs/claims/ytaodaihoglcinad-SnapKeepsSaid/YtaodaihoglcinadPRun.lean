/- Plain Lean: what the functions on runs compute. Its conditions: none. -/
import Derived.Test.YtaodaihoglcinadRunF
import Derived.Test.YtaodaihoglcinadMRun
import Derived.Test.YtaodaihoglcinadPLoop
namespace Go.Proofs.Ytaodaihoglcinad
set_option linter.unusedVariables false
set_option linter.unusedSimpArgs false
variable {F : Nat} [Big F]

theorem elem_Spot_eq (e : DElem) : elem_Spot e = some (spotE e) := rfl
/-! ### Check -/
/-- Whether one record may stand ahead of another. -/
def befB (p e : DElem) : Bool := decide (cmpS (spotE p) (spotE e) < 0) && (p.key != e.key || (p.gone != 0 && decide (p.gone ≤ e.made)))
theorem befB_iff {p e : DElem} : befB p e = true ↔ Bef p e := by
  unfold befB Bef
  simp only [Bool.and_eq_true, Bool.or_eq_true, decide_eq_true_eq, bne_iff_ne, ne_eq]
  constructor
  · rintro ⟨h1, h2⟩; exact ⟨h1, fun hk => h2.resolve_left fun h => h hk⟩
  · rintro ⟨h1, h2⟩; exact ⟨h1, (Decidable.em (p.key = e.key)).elim (fun h => .inr (h2 h)) .inl⟩
/-- What is wrong at a place of a run. -/
def badAt (l : List DElem) (k : Nat) (e : DElem) : Option Int :=
  if chkE e ≠ 0 then some (chkE e) else if k = 0 then none else
    match l[k - 1]? with
    | some p => if befB p e then none else some 3
    | none => none
theorem badAt_zero {l : List DElem} {e : DElem} (h : chkE e = 0) : badAt l 0 e = none := by unfold badAt; rw [if_neg (by simpa using h), if_pos rfl]
theorem badAt_succ {l : List DElem} {j : Nat} {p e : DElem} (h : chkE e = 0) (hj : l[j]? = some p) : badAt l (j + 1) e = if befB p e then none else some 3 := by
  unfold badAt; rw [if_neg (by simpa using h), if_neg (by omega), Nat.add_sub_cancel, hj]
theorem badAt_bad {l : List DElem} {k : Nat} {e : DElem} (h : chkE e ≠ 0) : badAt l k e = some (chkE e) := by unfold badAt; rw [if_pos h]
/-- The error of a run. -/
def chkR (l : List DElem) : Int := if 400 < l.length then 2 else ((l.zipIdx).findSome? fun p => badAt l p.2 p.1).getD 0
theorem findSome_map {α β γ : Type} (g : β → γ) (w : α → Option β) : ∀ l : List α, (l.findSome? fun a => (w a).map g) = (l.findSome? w).map g
  | [] => rfl
  | a :: l => by
    rw [List.findSome?_cons, List.findSome?_cons]
    cases w a with
    | some b => rfl
    | none => exact findSome_map g w l
theorem run_Check_eq (l : List DElem) : run_Check F l = some (chkR l) := by
  unfold run_Check chkR
  by_cases hl : 400 < l.length
  · rw [if_pos hl, decide_eq_true (by omega), cond_true]
  · rw [if_neg hl, decide_eq_false (by omega), cond_false]
    rw [loop_find l (fun k e => (badAt l k e).map Sum.inr) (Sum.inl ()) (by omega) rfl (fun k e hk hb => ?_) (by simp)]
    · rw [findSome_map]
      cases l.zipIdx.findSome? fun p => badAt l p.2 p.1 <;> rfl
    · have hkl := (List.getElem?_eq_some_iff.1 hk).1
      rw [decide_eq_true (by omega), cond_true, idx_nat', hk, Option.bind_some, elem_Check_eq, Option.bind_some]
      by_cases hc : chkE e = 0
      · rw [bne0_false hc, cond_false]
        cases k with
        | zero => rw [badAt_zero hc]; simp [w64]
        | succ j =>
          obtain ⟨p, hj⟩ : ∃ p, l[j]? = some p := ⟨_, List.getElem?_eq_getElem (show j < l.length by omega)⟩
          rw [badAt_succ hc hj, show (((j + 1 : Nat) : Int) == 0) = false by rw [beq_eq_false_iff_ne]; omega, cond_false, w64 (by omega) (by omega), show (((j + 1 : Nat) : Int) - 1) = (j : Int) by omega, idx_nat', hj, w64 (by omega) (by omega)]
          simp only [Option.bind_some, elem_Spot_eq, key_CmpSpot_eq]
          unfold befB
          by_cases h1 : cmpS (spotE p) (spotE e) < 0
          · rw [decide_eq_false (by omega), cond_false, decide_eq_true h1, Bool.true_and]
            by_cases h2 : p.key = e.key
            · rw [show (p.key == e.key) = true by simpa using h2, cond_true, show (p.key != e.key) = false by simpa using h2, Bool.false_or]
              by_cases h3 : p.gone = 0
              · rw [show (p.gone == 0) = true by simpa using h3, cond_true, show (p.gone != 0) = false by simpa using h3]; rfl
              · rw [show (p.gone == 0) = false by simpa using h3, cond_false, show (p.gone != 0) = true by simpa using h3, Bool.true_and]
                by_cases h4 : p.gone ≤ e.made
                · rw [decide_eq_false (by omega), decide_eq_true h4]; rfl
                · rw [decide_eq_true (by omega), decide_eq_false h4]; rfl
            · rw [show (p.key == e.key) = false by simpa using h2, cond_false, show (p.key != e.key) = true by simpa using h2]; rfl
          · rw [decide_eq_true (by omega), cond_true, decide_eq_false h1]; rfl
      · rw [bne0_true hc, cond_true, badAt_bad hc]; rfl
theorem chkR_zero {l : List DElem} : chkR l = 0 ↔ Run l := by
  unfold chkR
  by_cases hl : 400 < l.length
  · rw [if_pos hl]
    constructor
    · intro h; cases h
    · intro h; have := h.len; omega
  · rw [if_neg hl]
    cases hf : l.zipIdx.findSome? fun p => badAt l p.2 p.1 with
    | some c =>
      obtain ⟨k, e, hk, hb⟩ := find_some hf
      rw [Option.getD_some]
      constructor
      · intro hc
        subst hc
        unfold badAt at hb
        split at hb
        · rename_i h; exact absurd (Option.some.inj hb) h
        · split at hb
          · cases hb
          · split at hb
            · split at hb
              · cases hb
              · cases hb
            · cases hb
      · intro h
        have he := h.ok e (List.mem_of_getElem? hk)
        cases k with
        | zero => rw [badAt_zero he] at hb; cases hb
        | succ j =>
          have hkl := (List.getElem?_eq_some_iff.1 hk).1
          have hj : l[j]? = some l[j] := List.getElem?_eq_getElem (by omega)
          have hp := List.pairwise_iff_getElem.1 h.ord j (j + 1) (by omega) hkl (by omega)
          rw [(List.getElem?_eq_some_iff.1 hk).2] at hp
          rw [badAt_succ he hj, if_pos (befB_iff.2 hp)] at hb
          cases hb
    | none =>
      rw [find_none] at hf
      refine ⟨fun _ => ?_, fun _ => rfl⟩
      have hok : ∀ e ∈ l, chkE e = 0 := fun e he => by
        obtain ⟨k, hk, rfl⟩ := List.getElem_of_mem he
        have h1 := hf k _ (List.getElem?_eq_getElem hk)
        by_cases hc : chkE l[k] = 0
        · exact hc
        · rw [badAt_bad hc] at h1; cases h1
      refine ⟨by omega, hok, ?_⟩
      rw [List.pairwise_iff_getElem]
      have step : ∀ j (hj : j + 1 < l.length), Bef l[j] l[j + 1] := fun j hj => by
        have h1 := hf (j + 1) _ (List.getElem?_eq_getElem hj)
        rw [badAt_succ (hok _ (List.getElem_mem hj)) (List.getElem?_eq_getElem (show j < l.length by omega))] at h1
        split at h1
        · rename_i h; exact befB_iff.1 h
        · cases h1
      have far : ∀ d i (hd : i + d + 1 < l.length), Bef (l[i]'(by omega)) l[i + d + 1] := by
        intro d
        induction d with
        | zero => intro i hd; exact step i hd
        | succ d ih =>
          intro i hd
          have h1 := ih i (by omega)
          have h2 := step (i + d + 1) (by omega)
          exact h1.trans (hok _ (List.getElem_mem _)) h2
      intro i j hi hj hij
      have := far (j - i - 1) i (by omega)
      have e : i + (j - i - 1) + 1 = j := by omega
      simp only [e] at this
      exact this

/-! ### Last, At, Range -/
def zeroE : DElem := ⟨⟨0, 0, 0⟩, 0, 0, ByteArray.mk #[]⟩
/-- The error of a reading. -/
def atE (l : List DElem) (k : DKey) (t : Int) : Int := if chkR l ≠ 0 then chkR l else if chkK k ≠ 0 then chkK k else if (atR l k t).isNone then 4 else 0
def atV (l : List DElem) (k : DKey) (t : Int) : DElem := if chkR l = 0 ∧ chkK k = 0 then (atR l k t).getD zeroE else zeroE
/-! ### A list, and a place in it -/
section
variable {α : Type} {l a b : List α} {x : α}
theorem get_mid (h : l = a ++ x :: b) : l[a.length]? = some x := by rw [h, List.getElem?_append_right (Nat.le_refl _)]; simp
theorem set_mid (h : l = a ++ x :: b) (y : α) : l.set a.length y = a ++ y :: b := by rw [h, List.set_append_right _ _ (Nat.le_refl _)]; simp
theorem take_mid (h : l = a ++ x :: b) : l.take a.length = a := by rw [h]; exact List.take_left
theorem drop_mid (h : l = a ++ x :: b) : l.drop (a.length + 1) = b := by rw [h, List.drop_append]; simp
theorem length_mid (h : l = a ++ x :: b) : l.length = a.length + b.length + 1 := by rw [h]; simp; omega
end

/-! ### Search -/
theorem search_mid {i j : Nat} (hj : j ≤ 4611686018427387903) (hi : i ≤ j) : IntKind.i64.wrap (shr .u64 (IntKind.u64.wrap (IntKind.i64.wrap ((i : Int) + (j : Int)))) 1) = (((i + j) / 2 : Nat) : Int) := by
  have e0 : IntKind.i64.wrap ((i : Int) + (j : Int)) = (i : Int) + (j : Int) := w64 (by omega) (by omega)
  have e1 : IntKind.u64.wrap ((i : Int) + (j : Int)) = (i : Int) + (j : Int) := by
    simp [IntKind.wrap, IntKind.bits, IntKind.signed]; omega
  have e2 : shr .u64 ((i : Int) + (j : Int)) 1 = (((i + j) / 2 : Nat) : Int) := by
    unfold shr
    have e3 : min 1 (IntKind.bits .u64) = 1 := by decide
    rw [e3, Int.fdiv_eq_ediv_of_nonneg _ (by decide)]
    omega
  rw [e0, e1, e2, w64 (by omega) (by omega)]
theorem loop_search {f : Int × Int → Option ((Int × Int) ⊕ Int)} (p : Nat → Bool) (n c : Nat) (hn : n ≤ 4611686018427387903) (hc : c ≤ n) (hlo : ∀ j, j < c → p j = false) (hhi : ∀ j, c ≤ j → j < n → p j = true)
    (hs : ∀ i j : Nat, i < j → j ≤ n → f ((i : Int), (j : Int)) = some (.inl (bif p ((i + j) / 2) then ((i : Int), (((i + j) / 2 : Nat) : Int)) else ((((i + j) / 2 : Nat) : Int) + 1, (j : Int))))) (he : ∀ i : Nat, f ((i : Int), (i : Int)) = some (.inr (i : Int))) :
    iter f F (0, (n : Int)) = some (c : Int) := by
  have key : ∀ (d i j N : Nat), j - i ≤ d → i ≤ c → c ≤ j → j ≤ n → d < N → iter f N ((i : Int), (j : Int)) = some (c : Int) := by
    intro d
    induction d with
    | zero =>
      intro i j N hd h1 h2 h3 hN
      obtain ⟨N, rfl⟩ : ∃ M, N = M + 1 := ⟨N - 1, by omega⟩
      obtain rfl : i = c := by omega
      obtain rfl : j = i := by omega
      rw [iter, he]
    | succ d ih =>
      intro i j N hd h1 h2 h3 hN
      obtain ⟨N, rfl⟩ : ∃ M, N = M + 1 := ⟨N - 1, by omega⟩
      rcases Nat.lt_or_ge i j with hij | hij
      · rw [iter, hs i j hij h3]
        dsimp only
        by_cases hp : p ((i + j) / 2) = true
        · rw [hp, cond_true]
          refine ih i ((i + j) / 2) N (by omega) h1 ?_ (by omega) (by omega)
          rcases Nat.lt_or_ge ((i + j) / 2) c with h4 | h4
          · rw [hlo _ h4] at hp; cases hp
          · exact h4
        · rw [show p ((i + j) / 2) = false by simpa using hp, cond_false]
          refine ih ((i + j) / 2 + 1) j N (by omega) ?_ h2 h3 (by omega)
          rcases Nat.lt_or_ge ((i + j) / 2) c with h4 | h4
          · exact h4
          · exact absurd (hhi _ h4 (by omega)) hp
      · obtain rfl : i = c := by omega
        obtain rfl : j = i := by omega
        rw [iter, he]
  exact key n 0 n F (by omega) (by omega) hc (Nat.le_refl _) (lt_big (by omega))
theorem Run.made {l : List DElem} (h : Run l) {e : DElem} (he : e ∈ l) : 1 ≤ e.made ∧ e.made ≤ 2147483647 := by
  obtain ⟨_, h1, h2, _⟩ := chkE_ok (h.ok e he); exact ⟨h1, h2⟩
theorem hi_spot {l : List DElem} {k : DKey} {t : Int} : ∀ e ∈ hi l k, 0 ≤ cmpS (spotE e) ⟨k, t⟩ := fun e he => by
  have h1 := (mem_hi.1 he).2
  have h2 : cmpS ⟨k, t⟩ (spotE e) < 0 := cmpS_lt.2 (.inl (cmp_cmpK.pos.1 h1))
  have := cmp_cmpS.neg (spotE e) ⟨k, t⟩
  omega
theorem lo_spot {l : List DElem} {k : DKey} {t : Int} : ∀ e ∈ lo l k, cmpS (spotE e) ⟨k, t⟩ < 0 := fun e he => cmpS_lt.2 (.inl (mem_lo.1 he).2)
/-! ### Put, Cut -/
/-- The error of a write. -/
def putE (l : List DElem) (k : DKey) (v : ByteArray) (t : Int) : Int :=
  if chkR l ≠ 0 then chkR l else if chkE (newE k v t) ≠ 0 then chkE (newE k v t) else if t < lastL l then 9 else if 400 < (putR l k v t).length then 8 else 0
theorem putE_zero {l : List DElem} {k : DKey} {v : ByteArray} {t : Int} : putE l k v t = 0 ↔ Run l ∧ chkE (newE k v t) = 0 ∧ lastL l ≤ t ∧ (putR l k v t).length ≤ 400 := by
  unfold putE
  rw [← chkR_zero]
  split
  · simp_all
  · split
    · simp_all
    · split
      · constructor
        · intro h; cases h
        · omega
      · split
        · constructor
          · intro h; cases h
          · omega
        · simp_all
theorem insert_shift {α : Type} (a b : List α) (x z : α) : (over ((a ++ b) ++ [z]) (a.length + 1) ((((a ++ b) ++ [z]).drop a.length).take (((a ++ b) ++ [z]).drop (a.length + 1)).length)).set a.length x = a ++ x :: b := by
  have e1 : ((a ++ b) ++ [z]).drop a.length = b ++ [z] := by rw [List.append_assoc, List.drop_left]
  have e2 : (((a ++ b) ++ [z]).drop (a.length + 1)).length = b.length := by simp
  rw [e1, e2, List.take_left]
  have e3 : ∃ y, over ((a ++ b) ++ [z]) (a.length + 1) b = a ++ y :: b := by
    unfold over
    have e4 : ((a ++ b) ++ [z]).drop (a.length + 1 + b.length) = [] := List.drop_eq_nil_of_le (by simp; omega)
    rw [e4, List.append_nil]
    cases b with
    | nil => exact ⟨z, by rw [List.append_nil, List.append_nil, List.take_of_length_le (by simp)]⟩
    | cons y b =>
      refine ⟨y, ?_⟩
      rw [List.append_assoc, List.cons_append, List.take_append, List.take_of_length_le (by omega), show a.length + 1 - a.length = 1 by omega]
      simp
  obtain ⟨y, hy⟩ := e3
  rw [hy, set_mid rfl]
/-- A record is put where it belongs. -/
def cutE (l : List DElem) (k : DKey) (t : Int) : Int :=
  if chkR l ≠ 0 then chkR l else if chkK k ≠ 0 then chkK k else if t < 1 ∨ 2147483647 < t ∨ t < lastL l then 9 else if (nowR l k).isNone then 4 else 0
theorem cutE_zero {l : List DElem} {k : DKey} {t : Int} : cutE l k t = 0 ↔ Run l ∧ chkK k = 0 ∧ 1 ≤ t ∧ t ≤ 2147483647 ∧ lastL l ≤ t ∧ (nowR l k).isSome = true := by
  unfold cutE
  rw [← chkR_zero]
  split
  · simp_all
  · split
    · simp_all
    · split
      · constructor
        · intro h; cases h
        · omega
      · cases nowR l k
        · simp
        · simp_all
end Go.Proofs.Ytaodaihoglcinad
