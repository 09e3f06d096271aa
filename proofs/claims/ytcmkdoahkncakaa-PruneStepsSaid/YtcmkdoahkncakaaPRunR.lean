/- Plain Lean: what the functions on runs compute. Its conditions: none. -/
import Derived.Test.YtcmkdoahkncakaaRunFR
import Derived.Test.YtcmkdoahkncakaaMRunR
import Derived.Test.YtcmkdoahkncakaaPLoopR
namespace Go.Proofs.Ytcmkdoahkncakaa
set_option linter.unusedVariables false
set_option linter.unusedSimpArgs false
variable {F : Nat} [Big F]
theorem elem_Spot_eq (e : DElem) : elem_Spot e = some (spotE e) := rfl
def befB (p e : DElem) : Bool := decide (cmpS (spotE p) (spotE e) < 0) && (p.key != e.key || (p.gone != 0 && decide (p.gone ≤ e.made)))
theorem befB_iff {p e : DElem} : befB p e = true ↔ Bef p e := by
 unfold befB Bef
 simp only [Bool.and_eq_true, Bool.or_eq_true, decide_eq_true_eq, bne_iff_ne, ne_eq]
 constructor
 · rintro ⟨h1, h2⟩; exact ⟨h1, fun hk => h2.resolve_left fun h => h hk⟩
 · rintro ⟨h1, h2⟩; exact ⟨h1, (Decidable.em (p.key = e.key)).elim (fun h => .inr (h2 h)) .inl⟩
def badAt (l : List DElem) (k : Nat) (e : DElem) : Option Int :=
 if chkE e ≠ 0 then some (chkE e) else if k = 0 then none else
  match l[k - 1]? with
  | some p => if befB p e then none else some 3
  | none => none
theorem badAt_zero {l : List DElem} {e : DElem} (h : chkE e = 0) : badAt l 0 e = none := by unfold badAt; rw [if_neg (by simpa using h), if_pos rfl]
theorem badAt_succ {l : List DElem} {j : Nat} {p e : DElem} (h : chkE e = 0) (hj : l[j]? = some p) : badAt l (j + 1) e = if befB p e then none else some 3 := by
 unfold badAt; rw [if_neg (by simpa using h), if_neg (by omega), Nat.add_sub_cancel, hj]
theorem badAt_bad {l : List DElem} {k : Nat} {e : DElem} (h : chkE e ≠ 0) : badAt l k e = some (chkE e) := by unfold badAt; rw [if_pos h]
def chkR (l : List DElem) : Int := if 400 < l.length then 2 else ((l.zipIdx).findSome? fun p => badAt l p.2 p.1).getD 0
theorem findSome_map {α β γ : Type} (g : β → γ) (w : α → Option β) : ∀ l : List α, (l.findSome? fun a => (w a).map g) = (l.findSome? w).map g
 | [] => rfl
 | a :: l => by
  rw [List.findSome?_cons, List.findSome?_cons]
  cases w a with
  | some b => rfl
  | none => exact findSome_map g w l
theorem run_Check_eq (l : List DElem) : run_Check F l = some (chkR l) := by
 unfold run_Check chkR
 by_cases hl : 400 < l.length
 · rw [if_pos hl, decide_eq_true (by omega), cond_true]
 · rw [if_neg hl, decide_eq_false (by omega), cond_false]
   rw [loop_find l (fun k e => (badAt l k e).map Sum.inr) (Sum.inl ()) (by omega) rfl (fun k e hk hb => ?_) (by simp)]
   · rw [findSome_map]
     cases l.zipIdx.findSome? fun p => badAt l p.2 p.1 <;> rfl
   · have hkl := (List.getElem?_eq_some_iff.1 hk).1
     rw [decide_eq_true (by omega), cond_true, idx_nat', hk, Option.bind_some, elem_Check_eq, Option.bind_some]
     by_cases hc : chkE e = 0
     · rw [bne0_false hc, cond_false]
       cases k with
       | zero => rw [badAt_zero hc]; simp [w64]
       | succ j =>
        obtain ⟨p, hj⟩ : ∃ p, l[j]? = some p := ⟨_, List.getElem?_eq_getElem (show j < l.length by omega)⟩
        rw [badAt_succ hc hj, show (((j + 1 : Nat) : Int) == 0) = false by rw [beq_eq_false_iff_ne]; omega, cond_false, w64 (by omega) (by omega), show (((j + 1 : Nat) : Int) - 1) = (j : Int) by omega, idx_nat', hj, w64 (by omega) (by omega)]
        simp only [Option.bind_some, elem_Spot_eq, key_CmpSpot_eq]
        unfold befB
        by_cases h1 : cmpS (spotE p) (spotE e) < 0
        · rw [decide_eq_false (by omega), cond_false, decide_eq_true h1, Bool.true_and]
          by_cases h2 : p.key = e.key
          · rw [show (p.key == e.key) = true by simpa using h2, cond_true, show (p.key != e.key) = false by simpa using h2, Bool.false_or]
            by_cases h3 : p.gone = 0
            · rw [show (p.gone == 0) = true by simpa using h3, cond_true, show (p.gone != 0) = false by simpa using h3]; rfl
            · rw [show (p.gone == 0) = false by simpa using h3, cond_false, show (p.gone != 0) = true by simpa using h3, Bool.true_and]
              by_cases h4 : p.gone ≤ e.made
              · rw [decide_eq_false (by omega), decide_eq_true h4]; rfl
              · rw [decide_eq_true (by omega), decide_eq_false h4]; rfl
          · rw [show (p.key == e.key) = false by simpa using h2, cond_false, show (p.key != e.key) = true by simpa using h2]; rfl
        · rw [decide_eq_true (by omega), cond_true, decide_eq_false h1]; rfl
     · rw [bne0_true hc, cond_true, badAt_bad hc]; rfl
theorem chkR_zero {l : List DElem} : chkR l = 0 ↔ Run l := by
 unfold chkR
 by_cases hl : 400 < l.length
 · rw [if_pos hl]
   constructor
   · intro h; cases h
   · intro h; have := h.len; omega
 · rw [if_neg hl]
   cases hf : l.zipIdx.findSome? fun p => badAt l p.2 p.1 with
   | some c =>
    obtain ⟨k, e, hk, hb⟩ := find_some hf
    rw [Option.getD_some]
    constructor
    · intro hc
      subst hc
      unfold badAt at hb
      split at hb
      · rename_i h; exact absurd (Option.some.inj hb) h
      · split at hb
        · cases hb
        · split at hb
          · split at hb
            · cases hb
            · cases hb
          · cases hb
    · intro h
      have he := h.ok e (List.mem_of_getElem? hk)
      cases k with
      | zero => rw [badAt_zero he] at hb; cases hb
      | succ j =>
       have hkl := (List.getElem?_eq_some_iff.1 hk).1
       have hj : l[j]? = some l[j] := List.getElem?_eq_getElem (by omega)
       have hp := List.pairwise_iff_getElem.1 h.ord j (j + 1) (by omega) hkl (by omega)
       rw [(List.getElem?_eq_some_iff.1 hk).2] at hp
       rw [badAt_succ he hj, if_pos (befB_iff.2 hp)] at hb
       cases hb
   | none =>
    rw [find_none] at hf
    refine ⟨fun _ => ?_, fun _ => rfl⟩
    have hok : ∀ e ∈ l, chkE e = 0 := fun e he => by
     obtain ⟨k, hk, rfl⟩ := List.getElem_of_mem he
     have h1 := hf k _ (List.getElem?_eq_getElem hk)
     by_cases hc : chkE l[k] = 0
     · exact hc
     · rw [badAt_bad hc] at h1; cases h1
    refine ⟨by omega, hok, ?_⟩
    rw [List.pairwise_iff_getElem]
    have step : ∀ j (hj : j + 1 < l.length), Bef l[j] l[j + 1] := fun j hj => by
     have h1 := hf (j + 1) _ (List.getElem?_eq_getElem hj)
     rw [badAt_succ (hok _ (List.getElem_mem hj)) (List.getElem?_eq_getElem (show j < l.length by omega))] at h1
     split at h1
     · rename_i h; exact befB_iff.1 h
     · cases h1
    have far : ∀ d i (hd : i + d + 1 < l.length), Bef (l[i]'(by omega)) l[i + d + 1] := by
     intro d
     induction d with
     | zero => intro i hd; exact step i hd
     | succ d ih =>
      intro i hd
      have h1 := ih i (by omega)
      have h2 := step (i + d + 1) (by omega)
      exact h1.trans (hok _ (List.getElem_mem _)) h2
    intro i j hi hj hij
    have := far (j - i - 1) i (by omega)
    have e : i + (j - i - 1) + 1 = j := by omega
    simp only [e] at this
    exact this
section
variable {α : Type} {l a b : List α} {x : α}
end
theorem Run.made {l : List DElem} (h : Run l) {e : DElem} (he : e ∈ l) : 1 ≤ e.made ∧ e.made ≤ 2147483647 := by
 obtain ⟨_, h1, h2, _⟩ := chkE_ok (h.ok e he); exact ⟨h1, h2⟩
end Go.Proofs.Ytcmkdoahkncakaa
