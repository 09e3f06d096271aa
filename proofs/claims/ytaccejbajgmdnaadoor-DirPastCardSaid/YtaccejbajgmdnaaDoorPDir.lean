/- Plain Lean: names in a directory. Its conditions: none. -/
import Derived.Test.YtaccejbajgmdnaaDoorDirF
import Derived.Test.YtaccejbajgmdnaaDoorPRun
import Derived.Test.YtaccejbajgmdnaaDoorFSum
namespace Go.Proofs.YtaccejbajgmdnaaDoor
set_option linter.unusedVariables false
set_option linter.unusedSimpArgs false
variable {F : Nat} [Big F]

/-! ### Names -/
def okC (b : UInt8) : Bool := decide (32 < b.toNat) && (decide (b.toNat < 127) && (b.toNat != 47 && b.toNat != 64))
def nmB (l : List UInt8) : Bool := !(l == []) && (decide (l.length ≤ 12) && (!(l == [46]) && (!(l == [46, 46]) && l.all okC)))
theorem dir_Name_eq (l : List UInt8) : dir_Name F (ofL l) = some (nmB l) := by
  unfold dir_Name nmB
  rw [show (ByteArray.mk #[] : ByteArray) = ofL [] from rfl, show (ByteArray.mk #[46] : ByteArray) = ofL [46] from rfl, show (ByteArray.mk #[46, 46] : ByteArray) = ofL [46, 46] from rfl, seq_ofL, seq_ofL, seq_ofL]
  have hsz : ((ofL l).size : Int) = (l.length : Int) := rfl
  rw [hsz]
  cases h1 : (l == []) with
  | true => rfl
  | false =>
    by_cases h2 : l.length ≤ 12
    · rw [decide_eq_false (show ¬ (12 : Int) < (l.length : Int) by omega), decide_eq_true h2]
      cases h3 : (l == [46]) with
      | true => rfl
      | false =>
        cases h4 : (l == [46, 46]) with
        | true => rfl
        | false =>
          simp only [Bool.false_or, cond_false, Bool.not_false, Bool.true_and]
          rw [loop_first l (fun b => if okC b then none else some (Sum.inr false)) (.inl ()) (by omega) rfl (fun k b hk => ?_) (by rw [decide_eq_false (by omega), cond_false]), Option.bind_some]
          · by_cases ha : l.all okC = true
            · have hn : l.findSome? (fun b => if okC b then none else some (Sum.inr false : Unit ⊕ Bool)) = none := by
                rw [List.findSome?_eq_none_iff]
                intro b hb
                rw [if_pos (List.all_eq_true.1 ha b hb)]
              rw [hn, ha]; rfl
            · have hn : l.findSome? (fun b => if okC b then none else some (Sum.inr false : Unit ⊕ Bool)) = some (.inr false) := by
                cases hf : l.findSome? (fun b => if okC b then none else some (Sum.inr false : Unit ⊕ Bool)) with
                | none =>
                  exfalso
                  rw [List.findSome?_eq_none_iff] at hf
                  apply ha
                  rw [List.all_eq_true]
                  intro b hb
                  have := hf b hb
                  split at this
                  · assumption
                  · cases this
                | some r =>
                  obtain ⟨b, _, hr⟩ := List.exists_of_findSome?_eq_some hf
                  split at hr
                  · cases hr
                  · exact hr.symm
              rw [hn, show l.all okC = false by simpa using ha]; rfl
          · have hkl := (List.getElem?_eq_some_iff.1 hk).1
            have hi : sidx (ofL l) (k : Int) = some b := by rw [sidx_ofL, if_pos (by omega), Int.toNat_natCast, hk]
            rw [decide_eq_true (by omega), cond_true, hi, Option.bind_some, Option.bind_some, Option.bind_some, Option.bind_some]
            unfold okC
            by_cases c1 : (b.toNat : Int) ≤ 32
            · rw [decide_eq_true c1, cond_true, Option.bind_some, cond_true, if_neg (by simp; omega)]
            · rw [decide_eq_false c1, cond_false]
              by_cases c2 : (127 : Int) ≤ (b.toNat : Int)
              · rw [decide_eq_true c2, cond_true, Option.bind_some, cond_true, if_neg (by simp; omega)]
              · rw [decide_eq_false c2, cond_false]
                by_cases c3 : (b.toNat : Int) = 47
                · rw [show ((b.toNat : Int) == 47) = true by simpa using c3, cond_true, Option.bind_some, cond_true, if_neg (by simp; omega)]
                · rw [show ((b.toNat : Int) == 47) = false by simpa using c3, cond_false, Option.bind_some]
                  by_cases c4 : (b.toNat : Int) = 64
                  · rw [show ((b.toNat : Int) == 64) = true by simpa using c4, cond_true, if_neg (by simp; omega)]
                  · rw [show ((b.toNat : Int) == 64) = false by simpa using c4, cond_false, w64 (by omega) (by omega), if_pos (by simp; omega)]
    · rw [decide_eq_true (show (12 : Int) < (l.length : Int) by omega), decide_eq_false h2]; rfl
/-! ### Slots -/
def slotS (p o : Int) (l : List UInt8) (n : Int) : DKey := ⟨p, o, 1000000 + ((crc l).toNat : Int) % 1000 * 8 + n⟩
theorem dir_slot_eq (p o : Int) (l : List UInt8) {n : Int} (h0 : 0 ≤ n) (h1 : n ≤ 8) (hl : l.length ≤ 1000000) : dir_slot F p o (ofL l) n = some (slotS p o l n) := by
  unfold dir_slot slotS
  rw [sum_Of_ofL l (by omega), Option.bind_some]
  have h2 := (crc l).isLt
  have h3 : (((crc l).toNat : Int)).tmod 1000 = ((crc l).toNat : Int) % 1000 := Int.tmod_eq_emod_of_nonneg (by omega)
  rw [h3, w64 (n := ((crc l).toNat : Int) % 1000 * 8) (by omega) (by omega), w64 (n := 1000000 + ((crc l).toNat : Int) % 1000 * 8) (by omega) (by omega), w64 (by omega) (by omega)]
/-! ### Entries -/
def atoiS (l : List UInt8) : Int × Bool := match Lib.atoiAll l with | .ok v => (v, false) | .range => (Lib.atoiSat l, true) | _ => (0, true)
def entS (e : DElem) : ByteArray × Int × Bool :=
  let c := Lib.cut e.val.data.toList [58]
  let a := atoiS c.1
  if c.2.2 = false ∨ a.2 = true ∨ Lib.itoa a.1 ≠ c.1 ∨ a.1 < 0 ∨ 1048576 < a.1 ∨ nmB c.2.1 = false then (ByteArray.mk #[], 0, false)
  else (ofL c.2.1, a.1, decide ((slotS e.key.pfs e.key.obj c.2.1 0).off ≤ e.key.off) && decide (e.key.off < (slotS e.key.pfs e.key.obj c.2.1 0).off + 8))
theorem cutS_len (l s : List UInt8) : (Lib.cut l s).1.length ≤ l.length ∧ (Lib.cut l s).2.1.length ≤ l.length := by
  unfold Lib.cut
  split
  · exact ⟨by simp; omega, by simp⟩
  · exact ⟨Nat.le_refl _, by simp⟩
theorem dir_entry_eq (e : DElem) (h : e.val.size ≤ 1000) : dir_entry F e = some (entS e) := by
  unfold dir_entry entS
  have hc : strings_Cut e.val (ByteArray.mk #[58]) = some (ofL (Lib.cut e.val.data.toList [58]).1, ofL (Lib.cut e.val.data.toList [58]).2.1, (Lib.cut e.val.data.toList [58]).2.2) := by
    unfold strings_Cut
    rw [if_pos (by omega)]; rfl
  have hl : e.val.data.toList.length = e.val.size := Array.length_toList
  have hlen := cutS_len e.val.data.toList [58]
  rw [hc, Option.bind_some]
  generalize Lib.cut e.val.data.toList [58] = c at hlen
  obtain ⟨a, b, f⟩ := c
  dsimp only at hlen ⊢
  have ha : strconv_Atoi (ofL a) = some (atoiS a) := by
    unfold strconv_Atoi atoiS
    rw [if_pos (show (ofL a).size ≤ 281474976710656 by show a.length ≤ _; omega)]
    show (match Lib.atoiAll a with | .ok v => some (v, false) | .range => some (Lib.atoiSat a, true) | _ => some (0, true)) = _
    cases Lib.atoiAll a <;> rfl
  rw [ha, Option.bind_some]
  cases f with
  | false => rfl
  | true =>
    rw [show (!true) = false from rfl, cond_false]
    cases h2 : (atoiS a).2 with
    | true => rw [cond_true, Option.bind_some, cond_true, if_pos (by simp)]
    | false =>
      rw [cond_false]
      have hb : -9223372036854775808 ≤ (atoiS a).1 ∧ (atoiS a).1 ≤ 9223372036854775807 := by
        unfold atoiS at h2 ⊢
        cases hv : Lib.atoiAll a with
        | ok v => exact Lib.atoiAll_bounds hv
        | _ => rw [hv] at h2; cases h2
      have hi : strconv_Itoa (atoiS a).1 = some (ofL (Lib.itoa (atoiS a).1)) := by
        unfold strconv_Itoa
        rw [if_pos hb]; rfl
      rw [hi, Option.bind_some, seq_ofL]
      by_cases h3 : Lib.itoa (atoiS a).1 = a
      · rw [show (Lib.itoa (atoiS a).1 == a) = true by simpa using h3, show (!true) = false from rfl, cond_false]
        by_cases h4 : (atoiS a).1 < 0
        · rw [decide_eq_true h4, cond_true, Option.bind_some, cond_true, if_pos (by simp [h4])]
        · rw [decide_eq_false h4, cond_false]
          by_cases h5 : 1048576 < (atoiS a).1
          · rw [decide_eq_true h5, cond_true, Option.bind_some, cond_true, if_pos (by simp [h5])]
          · rw [decide_eq_false h5, cond_false, dir_Name_eq, Option.bind_some, Option.bind_some]
            cases h6 : nmB b with
            | false => rw [show (!false) = true from rfl, cond_true, if_pos (by simp)]
            | true =>
              rw [show (!true) = false from rfl, cond_false, if_neg (by simp [h3]; omega), dir_slot_eq _ _ _ (by omega) (by omega) (by omega), Option.bind_some]
              have h7 : (slotS e.key.pfs e.key.obj b 0).off ≤ 1008000 := by
                have := (crc b).isLt
                unfold slotS; dsimp only; omega
              have h8 : 0 ≤ (slotS e.key.pfs e.key.obj b 0).off := by unfold slotS; dsimp only; omega
              rw [w64 (by omega) (by omega)]
      · rw [show (Lib.itoa (atoiS a).1 == a) = false by simpa using h3, show (!false) = true from rfl, cond_true, Option.bind_some, cond_true, if_pos (by simp [h3])]
/-! ### Looking -/
def lookD (l : List DElem) (p o : Int) : Int := if chkR l ≠ 0 then chkR l else chkK ⟨p, o, 0⟩
theorem dir_look_eq (l : List DElem) (p o : Int) : dir_look F l p o = some (lookD l p o) := by
  unfold dir_look lookD
  rw [run_Check_eq, Option.bind_some]
  by_cases h : chkR l = 0
  · rw [bne0_false h, cond_false, if_neg (show ¬ chkR l ≠ 0 by simpa using h), key_Check_eq, Option.bind_some]
  · rw [bne0_true h, cond_true, if_pos h]
def wD (p o : Int) (s : ByteArray) (t : Int) (e : DElem) : Option (DElem × Int × Bool) :=
  if e.key.pfs ≠ p ∨ e.key.obj ≠ o ∨ live e t = false then none else if (entS e).2.2 = true ∧ (entS e).1 = s then some (e, (entS e).2.1, true) else none
def fdD (l : List DElem) (p o : Int) (s : ByteArray) (t : Int) : DElem × Int × Bool := (l.findSome? (wD p o s t)).getD (zeroE, 0, false)
theorem dir_find_eq (l : List DElem) (p o : Int) (s : ByteArray) (t : Int) (hl : l.length ≤ 1000000) (hv : ∀ e ∈ l, e.val.size ≤ 1000) : dir_find F l p o s t = some (fdD l p o s t) := by
  unfold dir_find fdD
  rw [loop_first l (fun e => (wD p o s t e).map Sum.inr) (.inl ()) (by omega) rfl (fun k e hk => ?_) (by rw [decide_eq_false (by omega), cond_false]), Option.bind_some, findSome_map]
  · cases l.findSome? (wD p o s t) with
    | none => rfl
    | some r => rfl
  · have hkl := (List.getElem?_eq_some_iff.1 hk).1
    rw [decide_eq_true (by omega), cond_true, idx_nat', hk, Option.bind_some]
    unfold wD
    by_cases c1 : e.key.pfs = p
    · rw [show (e.key.pfs != p) = false by simpa using c1, cond_false]
      by_cases c2 : e.key.obj = o
      · rw [show (e.key.obj != o) = false by simpa using c2, cond_false, elem_Live_eq, Option.bind_some, Option.bind_some]
        cases c3 : live e t with
        | false => rw [show (!false) = true from rfl, cond_true, Option.bind_some, if_pos (by simp)]; dsimp only; rw [w64 (by omega) (by omega)]; rfl
        | true =>
          rw [show (!true) = false from rfl, cond_false, dir_entry_eq e (hv e (List.mem_of_getElem? hk)), Option.bind_some, if_neg (by simp [c1, c2])]
          by_cases c4 : (entS e).2.2 = true ∧ (entS e).1 = s
          · rw [if_pos c4, show ((entS e).2.2 && seq (entS e).1 s) = true by rw [c4.1, (seq_iff _ _).2 c4.2]; rfl, cond_true, Option.bind_some]; rfl
          · rw [if_neg c4, show ((entS e).2.2 && seq (entS e).1 s) = false by
              rw [Bool.eq_false_iff]; intro h; rw [Bool.and_eq_true, seq_iff] at h; exact c4 h, cond_false, Option.bind_some]
            dsimp only
            rw [w64 (by omega) (by omega)]; rfl
      · rw [show (e.key.obj != o) = true by simpa using c2, cond_true, Option.bind_some, cond_true, Option.bind_some, if_pos (by simp [c2])]; dsimp only; rw [w64 (by omega) (by omega)]; rfl
    · rw [show (e.key.pfs != p) = true by simpa using c1, cond_true, Option.bind_some, cond_true, Option.bind_some, if_pos (by simp [c1])]; dsimp only; rw [w64 (by omega) (by omega)]; rfl
theorem Run.vals {l : List DElem} (h : Run l) : ∀ e ∈ l, e.val.size ≤ 1000 := fun e he => by
  have := (chkE_ok (h.ok e he)); omega
/-! ### Find -/
def findD (l : List DElem) (p o : Int) (s : List UInt8) (t : Int) : Int × Int :=
  if lookD l p o ≠ 0 then (0, lookD l p o) else if nmB s = false then (0, 3) else if (fdD l p o (ofL s) t).2.2 = false then (0, 4) else ((fdD l p o (ofL s) t).2.1, 0)
theorem lookD_zero {l : List DElem} {p o : Int} : lookD l p o = 0 ↔ Run l ∧ chkK ⟨p, o, 0⟩ = 0 := by
  unfold lookD
  by_cases h : chkR l = 0
  · rw [if_neg (show ¬ chkR l ≠ 0 by simpa using h), ← chkR_zero]; simp [h]
  · rw [if_pos h]; exact ⟨fun h' => absurd h' h, fun h' => absurd (chkR_zero.2 h'.1) h⟩
theorem dir_Find_eq (l : List DElem) (p o : Int) (s : List UInt8) (t : Int) : dir_Find F l p o (ofL s) t = some (findD l p o s t) := by
  unfold dir_Find findD
  rw [dir_look_eq, Option.bind_some]
  by_cases h : lookD l p o = 0
  · obtain ⟨hr, _⟩ := lookD_zero.1 h
    rw [bne0_false h, cond_false, if_neg (show ¬ lookD l p o ≠ 0 by simpa using h), dir_Name_eq, Option.bind_some]
    cases nmB s with
    | false => rfl
    | true =>
      rw [show (!true) = false from rfl, cond_false, if_neg (by simp), dir_find_eq l p o _ t (by have := hr.len; omega) hr.vals, Option.bind_some]
      cases (fdD l p o (ofL s) t).2.2 with
      | false => rfl
      | true => rfl
  · rw [bne0_true h, cond_true, if_pos h]
end Go.Proofs.YtaccejbajgmdnaaDoor
