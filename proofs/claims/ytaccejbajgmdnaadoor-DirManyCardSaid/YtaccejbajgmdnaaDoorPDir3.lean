/- Plain Lean: what a name that was added is found as. Its conditions: none. -/
import Derived.Test.YtaccejbajgmdnaaDoorPDir2
namespace Go.Proofs.YtaccejbajgmdnaaDoor
set_option linter.unusedVariables false
set_option linter.unusedSimpArgs false
variable {F : Nat} [Big F]

theorem pu_append : ∀ (a b : List UInt8) (acc v : Nat), Lib.parseUint10 acc a = .ok v → Lib.parseUint10 acc (a ++ b) = Lib.parseUint10 v b
  | [], b, acc, v, h => by
    simp only [Lib.parseUint10] at h
    injection h with h
    subst h; rfl
  | c :: r, b, acc, v, h => by
    simp only [List.cons_append, Lib.parseUint10] at h ⊢
    split at h
    · rename_i h1
      rw [if_pos h1]
      split at h
      · cases h
      · rename_i h2
        rw [if_neg h2]
        split at h
        · cases h
        · rename_i h3
          rw [if_neg h3]
          exact pu_append r b _ v h
    · cases h
theorem digit_nat {d : Nat} (h : d < 10) : (UInt8.ofNat (48 + d)).toNat = 48 + d := by
  rw [UInt8.toNat_ofNat']; omega
theorem pu_digit {acc d : Nat} (hd : d < 10) (ha : acc ≤ 100000000) : Lib.parseUint10 acc [UInt8.ofNat (48 + d)] = .ok (acc * 10 + d) := by
  simp only [Lib.parseUint10]
  rw [digit_nat hd, if_pos (by omega), if_neg (by omega), if_neg (by omega)]
  congr 1; omega
theorem pu_dec : ∀ u : Nat, u ≤ 100000000 → Lib.parseUint10 0 (Lib.decDigits u) = .ok u := by
  intro u
  induction u using Nat.strongRecOn with
  | _ u ih =>
    intro hu
    rw [Lib.decDigits]
    split
    · rename_i h
      rw [pu_digit h (by omega)]; congr 1; omega
    · rename_i h
      rw [pu_append _ _ _ _ (ih (u / 10) (by omega) (by omega)), pu_digit (Nat.mod_lt _ (by decide)) (by omega)]
      congr 1; omega
theorem dec_head (u : Nat) : ∃ d r, d < 10 ∧ Lib.decDigits u = UInt8.ofNat (48 + d) :: r := by
  induction u using Nat.strongRecOn with
  | _ u ih =>
    rw [Lib.decDigits]
    split
    · rename_i h; exact ⟨u, [], h, rfl⟩
    · rename_i h
      obtain ⟨d, r, hd, e⟩ := ih (u / 10) (by omega)
      exact ⟨d, r ++ [UInt8.ofNat (48 + u % 10)], hd, by rw [e]; rfl⟩
theorem atoi_itoa {n : Int} (h0 : 0 ≤ n) (h1 : n ≤ 1048576) : atoiS (Lib.itoa n) = (n, false) := by
  have hi : Lib.itoa n = Lib.decDigits n.toNat := by unfold Lib.itoa; rw [if_neg (by omega)]
  obtain ⟨d, r, hd, e⟩ := dec_head n.toNat
  have hp := pu_dec n.toNat (by omega)
  have ha : Lib.atoiAll (Lib.itoa n) = .ok n := by
    rw [hi]
    unfold Lib.atoiAll
    rw [e] at hp ⊢
    dsimp only
    rw [digit_nat hd, if_neg (by omega)]
    unfold Lib.parseMag
    rw [if_neg (by simp), hp]
    dsimp only
    rw [if_neg (by omega), if_neg (by omega), if_neg (by omega)]
    congr 1; omega
  unfold atoiS
  rw [ha]
theorem ent_add {e : DElem} {p o of n : Int} {s : List UInt8} (hk : e.key = slotS p o s n) (hv : e.val = valD of s) (n0 : 0 ≤ n) (n8 : n < 8) (h0 : 0 ≤ of) (h1 : of ≤ 1048576) (hn : nmB s = true) : entS e = (ofL s, of, true) := by
  have hc : Lib.cut e.val.data.toList [58] = (Lib.itoa of, s, true) := by
    rw [hv]
    show Lib.cut (Lib.itoa of ++ 58 :: s) [58] = _
    refine cut_colon _ _ ?_
    unfold Lib.itoa
    rw [if_neg (by omega)]
    exact dec_colon _
  unfold entS
  rw [hc, hk]
  dsimp only
  rw [atoi_itoa h0 h1]
  dsimp only
  rw [if_neg (by simp [hn]; omega)]
  show (ofL s, of, decide (1000000 + ((crc s).toNat : Int) % 1000 * 8 + 0 ≤ 1000000 + ((crc s).toNat : Int) % 1000 * 8 + n) && decide (1000000 + ((crc s).toNat : Int) % 1000 * 8 + n < 1000000 + ((crc s).toNat : Int) % 1000 * 8 + 0 + 8)) = _
  rw [decide_eq_true (by omega), decide_eq_true (by omega)]; rfl
/-- What adding does, whole. -/
structure Added (l : List DElem) (p o : Int) (s : List UInt8) (of t n : Int) : Prop where
  run : Run l
  key : chkK ⟨p, o, 0⟩ = 0
  name : nmB s = true
  of0 : 0 ≤ of
  of1 : of ≤ 1048576
  n0 : 0 ≤ n
  n8 : n < 8
  no : (fdD l p o (ofL s) 2147483647).2.2 = false
  none : atR l (slotS p o s n) 2147483647 = Option.none
  put : putE l (slotS p o s n) (valD of s) t = 0
theorem add_whole (l : List DElem) (p o : Int) (s : List UInt8) (of t : Int) : ∃ m e, dir_Add F l p o (ofL s) of t = some (m, e) ∧ (e ≠ 0 → m = []) ∧ (e = 0 → ∃ n, Added l p o s of t n ∧ m = putR l (slotS p o s n) (valD of s) t) := by
  unfold dir_Add
  rw [dir_look_eq, Option.bind_some]
  by_cases h : lookD l p o = 0
  rotate_left
  · rw [bne0_true h, cond_true]; exact ⟨_, _, rfl, fun _ => rfl, fun h' => absurd h' h⟩
  obtain ⟨hr, hk⟩ := lookD_zero.1 h
  rw [bne0_false h, cond_false, dir_Name_eq, Option.bind_some]
  cases hn : nmB s with
  | false => exact ⟨_, _, rfl, fun _ => rfl, fun h' => by cases h'⟩
  | true =>
    have hs : s.length ≤ 12 := by
      unfold nmB at hn
      simp only [Bool.and_eq_true, decide_eq_true_eq] at hn
      exact hn.2.1
    rw [show (!true) = false from rfl, cond_false]
    by_cases h1 : of < 0
    · rw [decide_eq_true h1]; exact ⟨_, _, rfl, fun _ => rfl, fun h' => by cases h'⟩
    · rw [decide_eq_false h1]
      by_cases h2 : 1048576 < of
      · rw [decide_eq_true h2]; exact ⟨_, _, rfl, fun _ => rfl, fun h' => by cases h'⟩
      · rw [decide_eq_false h2, Bool.or_false, cond_false, dir_find_eq l p o _ _ (by have := hr.len; omega) hr.vals, Option.bind_some]
        cases h3 : (fdD l p o (ofL s) 2147483647).2.2 with
        | true => exact ⟨_, _, rfl, fun _ => rfl, fun h' => by cases h'⟩
        | false =>
          rw [cond_false, loop_find (List.replicate 8 ()) (addW l p o s of t) (.inl ()) (by decide) rfl (fun n x hx _ => ?_) rfl, Option.bind_some]
          · cases hf : ((List.replicate 8 ()).zipIdx).findSome? (fun q => addW l p o s of t q.2 q.1) with
            | none => exact ⟨_, _, rfl, fun _ => rfl, fun h' => by cases h'⟩
            | some r =>
              obtain ⟨n, _, hn8, hw⟩ := find_some hf
              have hn8' : n < 8 := by have := (List.getElem?_eq_some_iff.1 hn8).1; simpa using this
              unfold addW at hw
              split at hw
              · rename_i h4
                obtain rfl := Option.some.inj hw
                exact ⟨_, _, rfl, fun h' => if_neg h', fun h' => ⟨(n : Int), ⟨hr, hk, hn, by omega, by omega, by omega, by omega, h3, (atE_four hr h4).1, h'⟩, if_pos h'⟩⟩
              · cases hw
          · have hn8 : n < 8 := by have := (List.getElem?_eq_some_iff.1 hx).1; simpa using this
            have hit : strconv_Itoa of = some (ofL (Lib.itoa of)) := by
              unfold strconv_Itoa
              rw [if_pos ⟨by omega, by omega⟩]; rfl
            have hil : (Lib.itoa of).length ≤ 8 := by
              unfold Lib.itoa
              rw [if_neg h1]
              exact dec_len _ (by omega)
            rw [decide_eq_true (by omega), cond_true, dir_slot_eq _ _ _ (by omega) (by omega) (by omega), Option.bind_some, run_At_eq, Option.bind_some]
            dsimp only
            unfold addW
            by_cases h4 : atE l (slotS p o s (n : Int)) 2147483647 = 4
            · rw [show (atE l (slotS p o s (n : Int)) 2147483647 == 4) = true by simpa using h4, cond_true, hit, Option.bind_some, show (ByteArray.mk #[58] : ByteArray) = ofL [58] from rfl, scat_ofL (by simp; omega), Option.bind_some, scat_ofL (by simp; omega), Option.bind_some, if_pos h4, List.append_assoc]
              show (run_Put F l (slotS p o s (n : Int)) (valD of s) t).bind _ = _
              rw [run_Put_eq, Option.bind_some]
            · rw [show (atE l (slotS p o s (n : Int)) 2147483647 == 4) = false by simpa using h4, cond_false, if_neg h4, w64 (by omega) (by omega)]
theorem findSome_one {β : Type} {w : DElem → Option β} {l : List DElem} {e : DElem} {r : β} (he : e ∈ l) (hw : w e = some r) (ho : ∀ x ∈ l, w x = none ∨ w x = some r) : l.findSome? w = some r := by
  cases hf : l.findSome? w with
  | none => rw [List.findSome?_eq_none_iff.1 hf e he] at hw; cases hw
  | some q =>
    obtain ⟨x, hx, hq⟩ := List.exists_of_findSome?_eq_some hf
    rcases ho x hx with h | h
    · rw [h] at hq; cases hq
    · rw [h] at hq; rw [← hq]
/-- None of the records that stood there bears the name any more. -/
theorem added_none {l : List DElem} {p o of t n : Int} {s : List UInt8} (h : Added l p o s of t n) {u : Int} (hu : t ≤ u) : ∀ e, (e ∈ l ∧ e.key ≠ slotS p o s n) ∨ e ∈ clo (hist l (slotS p o s n)) t → wD p o (ofL s) u e = none := by
  obtain ⟨_, hc, ht, _⟩ := putE_zero.1 h.put
  obtain ⟨_, t0, t1, _⟩ := newE_ok hc
  have hold : ∀ e ∈ l, wD p o (ofL s) u e = none := fun e he => by
    by_cases hl : live e u = true
    · have hg : e.gone = 0 := by
        have h1 := Int.le_trans (le_lastL he) ht
        have h2 := (lastE_le.1 h1).2
        rcases (live_iff.1 hl).2 with h3 | h3
        · exact h3
        · omega
      have hl2 : live e 2147483647 = true := live_iff.2 ⟨(h.run.made he).2, .inl hg⟩
      have hw : wD p o (ofL s) 2147483647 e = none := by
        cases hf : l.findSome? (wD p o (ofL s) 2147483647) with
        | none => exact List.findSome?_eq_none_iff.1 hf e he
        | some r =>
          obtain ⟨x, hx, hq⟩ := List.exists_of_findSome?_eq_some hf
          have hno := h.no
          unfold fdD at hno
          rw [hf] at hno
          unfold wD at hq
          split at hq
          · cases hq
          · split at hq
            · rw [← Option.some.inj hq] at hno; cases hno
            · cases hq
      unfold wD at hw ⊢
      rw [hl2] at hw
      rw [hl]
      exact hw
    · exact wD_none fun h' => absurd h' hl
  intro e he
  rcases he with ⟨he, _⟩ | he
  · exact hold e he
  · rcases mem_clo.1 he with ⟨h1, _⟩ | ⟨x, hx, hg, _, rfl⟩
    · exact hold e (mem_hist.1 h1).1
    · refine wD_none fun h1 => ?_
      have := (live_iff.1 h1).2
      dsimp only at this
      omega
theorem added_find {l : List DElem} {p o of t n : Int} {s : List UInt8} (h : Added l p o s of t n) {u : Int} (hu : t ≤ u) : fdD (putR l (slotS p o s n) (valD of s) t) p o (ofL s) u = (newE (slotS p o s n) (valD of s) t, of, true) := by
  have he : entS (newE (slotS p o s n) (valD of s) t) = (ofL s, of, true) := ent_add rfl rfl h.n0 h.n8 h.of0 h.of1 h.name
  have hw : wD p o (ofL s) u (newE (slotS p o s n) (valD of s) t) = some (newE (slotS p o s n) (valD of s) t, of, true) := by
    unfold wD
    rw [if_neg, if_pos (by rw [he]; exact ⟨rfl, rfl⟩), he]
    rintro (h1 | h1 | h1)
    · exact h1 rfl
    · exact h1 rfl
    · rw [live_iff.2 ⟨hu, .inl rfl⟩] at h1; cases h1
  have hm : newE (slotS p o s n) (valD of s) t ∈ putR l (slotS p o s n) (valD of s) t := (mem_upd h.run.ord).2 (.inl (List.mem_append_right _ (List.mem_singleton.2 rfl)))
  unfold fdD
  rw [findSome_one hm hw (fun x hx => ?_)]
  · rfl
  · rcases (mem_upd h.run.ord).1 (show x ∈ upd l (slotS p o s n) (clo (hist l (slotS p o s n)) t ++ [newE (slotS p o s n) (valD of s) t]) from hx) with h1 | h1
    · rcases List.mem_append.1 h1 with h2 | h2
      · exact .inl (added_none h hu x (.inr h2))
      · rw [List.mem_singleton.1 h2]; exact .inr hw
    · exact .inl (added_none h hu x (.inl h1))
end Go.Proofs.YtaccejbajgmdnaaDoor
